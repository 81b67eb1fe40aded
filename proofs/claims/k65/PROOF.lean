import PyProof.Rows.All
import Wide.All
import OpenK.AllK
import Wide.FinOn
import HandS.ForMost
import HandS.Wide
import HandS.Defaults
import HandS.Zip
import HandS.IsInst
import HandS.Flow
import HandS.Style
import HandS.Conv
import HandS.EndBits
import HandS.Lambda
import KE.KNestM
import HandS.ExcIs
import HandS.ExcInit
import HandS.TupMul
import HandS.TupAny
import HandS.TryOnly
import HandS.Small
import KE.GoesMore
import HandS.Deep
import HandS.ExcOwn
import HandS.CallSlots
import KE.KExcIs
import HandS.Text
import HandS.WideBits
import HandS.Flt
import HandS.Codes
import HandS.SetKeys
import HandS.SortInts
import KE.KSortTupG
import HandS.NamedTupSort
import HandS.Head0
import HandS.Head1
import HandS.Head2
import HandS.HeadHook1
import HandS.HeadHook4
import KE.KDflt
import KE.SortKeyHeap
import PyProof.StrLawsRepr
import PySem.Challenge.RW_cubicway_k65_whole_searches_told_otherwi
set_option Elab.async false
set_option linter.all false
section
set_option maxRecDepth 100000
set_option maxHeartbeats 2000000
namespace CW
open PySem PySem.Spec PyProof.Rows L2
/-- plain data: what is never changed -/
inductive P where
  | non | bl (b : Bool) | int (i : Int) | str (x : Str) | ty (n : String) | ref (a : Addr) | tup (xs : List P) | lst (xs : List P) | con (xs : List P) | emp | exn (c : Str) | exf (c f : Str) (x : P) | cls (c : Str) | lam (f c : Addr) (qn : Str) | dct (ks : List Key) (xs : List P)
/-- a value: plain, or the n-th changing object -/
inductive D where
  | p (x : P) | obj (n : Nat)
/-- a field of an instance: plain, or a list that it alone holds -/
inductive Fd where
  | p (x : P) | ls (xs : List P)
/-- a changing object -/
inductive O where
  | lst (xs : List P) | dic (kvs : List (Key × D)) | row (ds : List D) | tpl (ds : List D) | ins (c : Str) (fs : List (Str × P)) | own (c : Str) (fs : List (Str × Fd))
abbrev S := List (Option O)
/-- what is raised: its class, and, where it is asked for, its field -/
structure Xc where
  c : Str
  x : Option (Str × P) := none
instance : Coe Str Xc := ⟨fun c => ⟨c, none⟩⟩
def Xc.toP : Xc → P
  | ⟨c, none⟩ => .exn c
  | ⟨c, some (f, x)⟩ => .exf c f x
@[simp] theorem Xc.toP_none (c : Str) : Xc.toP ⟨c, none⟩ = .exn c := rfl
@[simp] theorem Xc.toP_some (c f : Str) (x : P) : Xc.toP ⟨c, some (f, x)⟩ = .exf c f x := rfl
inductive R (α : Type) where
  | ok (a : α) (s : S) | bad | exn (c : Xc) (s : S)
abbrev M (α : Type) := S → R α
abbrev En := List (Option D)
def Good {α : Type} (r : R α) (Q : α → S → Prop) : Prop := match r with
  | .ok a s => Q a s
  | .bad => False
  | .exn _ _ => False
theorem Good.mono {α : Type} {r : R α} {Q Q' : α → S → Prop} (h : Good r Q) (k : ∀ a s, Q a s → Q' a s) : Good r Q' := by
  cases r with
  | ok a s => exact k a s h
  | bad => exact h
  | exn c s => exact h
def bnd {α β : Type} (m : M α) (k : α → M β) : M β := fun s => match m s with
  | .ok a s' => k a s'
  | .bad => .bad
  | .exn c s' => .exn c s'
theorem Good.bnd {α β : Type} {m : M α} {k : α → M β} {s : S} {Q : β → S → Prop} (h : Good (bnd m k s) Q) : Good (m s) (fun a s' => Good (k a s') Q) := by
  unfold CW.bnd at h
  cases e : m s with
  | ok a s' =>
    rw [e] at h
    exact h
  | bad =>
    rw [e] at h
    exact h.elim
  | exn c s' =>
    rw [e] at h
    exact h.elim
theorem bnd_exn {α β : Type} {m : M α} {k : α → M β} {s s' : S} {c : Xc} (h : m s = .exn c s') : CW.bnd m k s = .exn c s' := by
  unfold CW.bnd
  rw [h]
theorem bnd_ok {α β : Type} {m : M α} {k : α → M β} {s s' : S} {a : α} (h : m s = .ok a s') : bnd m k s = k a s' := by
  unfold CW.bnd
  rw [h]
theorem bnd_bad {α β : Type} {m : M α} {k : α → M β} {s : S} (h : m s = .bad) : bnd m k s = .bad := by
  unfold CW.bnd
  rw [h]
def ret {α : Type} (a : α) : M α := fun s => .ok a s
def rais {α : Type} (c : Xc) : M α := fun s => .exn c s
def bad {α : Type} : M α := fun _ => .bad
section
variable (K : PySem.W.Frag)
/-- the heap of nothing: what is read of the written part alone -/
def H0 : Hp := fun _ => none
/-- the name of a class of the top -/
def NmC (c : Str) (A : Addr) : Prop := PySem.W.nsIn K mainGlobals c = some (some (.ref A))
/-- an exception's object: its class, its dict -/
def ExO (a A : Addr) (d : Option Addr) : HO := .ext fun h => ∃ (o : Obj) (vs : Array Value), h.get? a = some o ∧ o.cls = .ref A ∧ o.dict = d ∧ o.data = .fields vs
def CS (H : Hp) (a : Addr) (vs : List V) : Prop := (∃ o, H a = some (.frz o (.lst vs))) ∨ SqL K H0 a vs
mutual
inductive PV (F : Addr → Prop) (H : Hp) : V → P → Prop
  | non : PV F H .non .non
  | bl (b : Bool) : PV F H (.bl b) (.bl b)
  | int (i : Int) : PV F H (.int i) (.int i)
  | str (x : Str) : PV F H (.str x) (.str x)
  | ty (n : String) : PV F H (.ty n) (.ty n)
  | ref (a : Addr) : PV F H (.ref a) (.ref a)
  | tup {a : Addr} {vs : List V} {xs : List P} : SqT K H a vs → PVs F H vs xs → PV F H (.ref a) (.tup xs)
  | lst {a : Addr} {vs : List V} {xs : List P} : F a → H a = some (.lst vs) → PVs F H vs xs → PV F H (.ref a) (.lst xs)
  | con {a : Addr} {vs : List V} {xs : List P} : CS K H a vs → PVs F H vs xs → PV F H (.ref a) (.con xs)
  | emp {a : Addr} : F a → H a = some (.dK []) → PV F H (.ref a) .emp
  | exn {a A : Addr} {c : Str} {d : Option Addr} : NmC K c A → F a → H a = some (ExO a A d) → (∀ dx, d = some dx → F dx ∧ ∃ fs, H dx = some (.xd fs)) → PV F H (.ref a) (.exn c)
  | exf {a A dx : Addr} {c f : Str} {v : V} {x : P} : NmC K c A → F a → H a = some (ExO a A (some dx)) → F dx → H dx = some (.xd [(f, v)]) → PV F H v x → PV F H (.ref a) (.exf c f x)
  | cls {A : Addr} {c : Str} : NmC K c A → PV F H (.ref A) (.cls c)
  | lam {f c : Addr} {qn : Str} : F c → H c = some (LamX.CodeO c qn) → PV F H (.ref f) (.lam f c qn)
  | dct {a : Addr} {o : Obj} {ws : List (Key × V)} {ks : List Key} {xs : List P} : H a = some (.frz o (.dK ws)) → ws.map (·.1) = ks → PVs F H (ws.map (·.2)) xs → PV F H (.ref a) (.dct ks xs)
inductive PVs (F : Addr → Prop) (H : Hp) : List V → List P → Prop
  | nil : PVs F H [] []
  | cons {v : V} {vs : List V} {x : P} {xs : List P} : PV F H v x → PVs F H vs xs → PVs F H (v :: vs) (x :: xs)
end
structure Wd where
  io : List Addr
  fr : Addr → Prop
  pv : Addr → Prop
  tb : List (Addr × Str)
  ow : Addr → Option (Addr × Str)
def DV (W : Wd) (H : Hp) (v : V) : D → Prop
  | .p x => PV K W.fr H v x
  | .obj n => ∃ a, W.io[n]? = some a ∧ v = .ref a
abbrev DVs (W : Wd) (H : Hp) : List V → List D → Prop := Paired (DV K W H)
/-- a field f of the instance at a -/
def FV (W : Wd) (H : Hp) (a : Addr) (f : Str) (v : V) : Fd → Prop
  | .p x => PV K W.fr H v x
  | .ls xs => ∃ b vs, v = .ref b ∧ H b = some (.lst vs) ∧ PVs K W.fr H vs xs ∧ W.ow b = some (a, f)
def OV (W : Wd) (H : Hp) (a : Addr) : O → Prop
  | .lst xs => ∃ vs, H a = some (.lst vs) ∧ PVs K W.fr H vs xs
  | .dic kvs => ∃ ws : List (Key × V), H a = some (.dK ws) ∧ Paired (fun (p : Key × V) (q : Key × D) => p.1 = q.1 ∧ DV K W H p.2 q.2) ws kvs
  | .row ds => ∃ vs, H a = some (.lst vs) ∧ DVs K W H vs ds
  | .tpl ds => ∃ vs, H a = some (.tup vs) ∧ DVs K W H vs ds
  | .ins c fs => ∃ (C dx : Addr) (ws : List (Str × V)), NmC K c C ∧ H a = some (.ins C dx ws) ∧ Paired (fun (p : Str × V) (q : Str × P) => p.1 = q.1 ∧ PV K W.fr H p.2 q.2) ws fs
  | .own c fs => ∃ (C dx : Addr) (ws : List (Str × V)), NmC K c C ∧ H a = some (.ins C dx ws) ∧ (fs.map (·.1)).Nodup ∧ Paired (fun (p : Str × V) (q : Str × Fd) => p.1 = q.1 ∧ FV K W H a p.1 p.2 q.2) ws fs
/-- how worlds go on -/
structure Ev (W : Wd) (H : Hp) (W' : Wd) (H' : Hp) : Prop where
  io : ∃ r, W'.io = W.io ++ r
  fr : ∀ a, W.fr a → W'.fr a
  fk : ∀ a o, W.fr a → H a = some o → H' a = some o
  tk : ∀ a xs, H a = some (.tup xs) → H' a = some (.tup xs)
  zk : ∀ a o u, H a = some (.frz o u) → H' a = some (.frz o u)
  pv : ∀ a, W.pv a → W'.pv a
  pk : ∀ a o, W.pv a → H a = some o → H' a = some o
  tb : W'.tb = W.tb
  ow : ∀ b q, W.ow b = some q → W'.ow b = some q := by intro _ _ h; exact h
structure Abs (W : Wd) (s : S) (H : Hp) : Prop where
  len : W.io.length = s.length
  nd : W.io.Nodup
  tr : ∀ a ∈ W.io, H a ≠ none
  ft : ∀ a, W.fr a → H a ≠ none
  ob : ∀ (n : Nat) (o : O), s[n]? = some (some o) → ∃ a, W.io[n]? = some a ∧ ¬ W.fr a ∧ OV K W H a o
  pd : ∀ a, W.pv a → (∃ vs, H a = some (.lst vs)) ∧ ¬ W.fr a ∧ a ∉ W.io
  tt : LamX.Tabs W.tb H
  tn : ∀ a ps, H a = some (.tbl ps) → ¬ W.fr a ∧ ¬ W.pv a ∧ a ∉ W.io
  po : ∀ b q, W.ow b = some q → (∃ vs, H b = some (.lst vs)) ∧ ¬ W.fr b ∧ ¬ W.pv b ∧ b ∉ W.io
end
section
variable {K : PySem.W.Frag} {W W1 W2 W' : Wd} {H H1 H2 H' : Hp} {s : S} {v : V} {a p : Addr} {d : D} {x : P}
theorem Abs.pn (A : Abs K W s H) (h : W.pv a) : H a ≠ none := fun z => by
  obtain ⟨vs, e⟩ := (A.pd a h).1
  rw [z] at e
  cases e
theorem Abs.on (A : Abs K W s H) {b : Addr} {q : Addr × Str} (h : W.ow b = some q) : H b ≠ none := fun z => by
  obtain ⟨vs, e⟩ := (A.po b q h).1
  rw [z] at e
  cases e
theorem Abs.nw (A : Abs K W s H) (h : H p = none) : W.ow p = none := by
  cases e : W.ow p with
  | none => rfl
  | some q => exact (A.on e h).elim
theorem Abs.npo (A : Abs K W s H) (h : W.pv p) : W.ow p = none := by
  cases e : W.ow p with
  | none => rfl
  | some q => exact ((A.po p q e).2.2.1 h).elim
theorem Ev.rfl : Ev W H W H := ⟨⟨[], by simp⟩, fun _ h => h, fun _ _ _ h => h, fun _ _ h => h, fun _ _ _ h => h, fun _ h => h, fun _ _ _ h => h, _root_.rfl, fun _ _ h => h⟩
theorem Ev.trans (e : Ev W H W1 H1) (f : Ev W1 H1 W2 H2) : Ev W H W2 H2 where
  io := by
    obtain ⟨r, hr⟩ := e.io
    obtain ⟨q, hq⟩ := f.io
    exact ⟨r ++ q, by rw [hq, hr, List.append_assoc]⟩
  fr := fun a h => f.fr a (e.fr a h)
  fk := fun a o h g => f.fk a o (e.fr a h) (e.fk a o h g)
  tk := fun a xs h => f.tk a xs (e.tk a xs h)
  zk := fun a o u h => f.zk a o u (e.zk a o u h)
  pv := fun a h => f.pv a (e.pv a h)
  pk := fun a o h g => f.pk a o (e.pv a h) (e.pk a o h g)
  tb := f.tb.trans e.tb
  ow := fun b q h => f.ow b q (e.ow b q h)
theorem Ev.sqt (e : Ev W H W' H') {vs : List V} (h : SqT K H a vs) : SqT K H' a vs := by
  rcases h with (h | ⟨o, h⟩) | h
  · exact Or.inl (Or.inl (e.tk _ _ h))
  · exact Or.inl (Or.inr ⟨o, e.zk _ _ _ h⟩)
  · exact Or.inr h
theorem Ev.cs (e : Ev W H W' H') {vs : List V} (h : CS K H a vs) : CS K H' a vs := by
  rcases h with ⟨o, h⟩ | h
  · exact Or.inl ⟨o, e.zk _ _ _ h⟩
  · exact Or.inr h
theorem CS.sql {vs : List V} (h : CS K H a vs) : SqL K H a vs := by
  rcases h with ⟨o, h⟩ | (h | ⟨o, h⟩) | h
  · exact Or.inl (Or.inr ⟨o, h⟩)
  · exact nomatch h
  · exact nomatch h
  · exact Or.inr h
mutual
theorem PV.up (e : Ev W H W' H') : ∀ {v : V} {x : P}, PV K W.fr H v x → PV K W'.fr H' v x
  | _, _, .non => .non
  | _, _, .bl b => .bl b
  | _, _, .int i => .int i
  | _, _, .str z => .str z
  | _, _, .ty n => .ty n
  | _, _, .ref a => .ref a
  | _, _, .tup h r => .tup (e.sqt h) (PVs.up e r)
  | _, _, .lst f h r => .lst (e.fr _ f) (e.fk _ _ f h) (PVs.up e r)
  | _, _, .con h r => .con (e.cs h) (PVs.up e r)
  | _, _, .emp f h => .emp (e.fr _ f) (e.fk _ _ f h)
  | _, _, .exn n f h d => .exn n (e.fr _ f) (e.fk _ _ f h) fun dx z => by
      obtain ⟨f2, fs, h2⟩ := d dx z
      exact ⟨e.fr _ f2, fs, e.fk _ _ f2 h2⟩
  | _, _, .exf n f h f2 h2 r => .exf n (e.fr _ f) (e.fk _ _ f h) (e.fr _ f2) (e.fk _ _ f2 h2) (PV.up e r)
  | _, _, .cls n => .cls n
  | _, _, .lam f h => .lam (e.fr _ f) (e.fk _ _ f h)
  | _, _, .dct h k r => .dct (e.zk _ _ _ h) k (PVs.up e r)
theorem PVs.up (e : Ev W H W' H') : ∀ {vs : List V} {xs : List P}, PVs K W.fr H vs xs → PVs K W'.fr H' vs xs
  | _, _, .nil => .nil
  | _, _, .cons h r => .cons (PV.up e h) (PVs.up e r)
end
theorem DV.up (e : Ev W H W' H') (h : DV K W H v d) : DV K W' H' v d := by
  cases d with
  | p x => exact PV.up e h
  | obj n =>
    obtain ⟨a, ha, hv⟩ := h
    obtain ⟨r, hr⟩ := e.io
    refine ⟨a, ?_, hv⟩
    have hl := (List.getElem?_eq_some_iff.mp ha).1
    rw [hr, List.getElem?_append_left hl]
    exact ha
theorem DVs.up (e : Ev W H W' H') : ∀ {vs : List V} {ds : List D}, DVs K W H vs ds → DVs K W' H' vs ds
  | _, _, .nil => .nil
  | _, _, .cons h r => .cons (DV.up e h) (DVs.up e r)
theorem PVs.len {F : Addr → Prop} : ∀ {vs : List V} {xs : List P}, PVs K F H vs xs → vs.length = xs.length
  | _, _, .nil => _root_.rfl
  | _, _, .cons _ r => congrArg (· + 1) (PVs.len r)
theorem PVs.app {F : Addr → Prop} : ∀ {vs : List V} {xs : List P} {us : List V} {ys : List P}, PVs K F H vs xs → PVs K F H us ys → PVs K F H (vs ++ us) (xs ++ ys)
  | _, _, _, _, .nil, q => q
  | _, _, _, _, .cons h r, q => .cons h (PVs.app r q)
theorem PVs.get {F : Addr → Prop} : ∀ {vs : List V} {xs : List P} {i : Nat} {x : P}, PVs K F H vs xs → xs[i]? = some x → ∃ v, vs[i]? = some v ∧ PV K F H v x
  | _, _, _, _, .nil, e => by simp at e
  | _, _, 0, _, .cons h _, e => by
    simp at e
    subst e
    exact ⟨_, rfl, h⟩
  | _, _, i + 1, x, .cons _ r, e => by
    obtain ⟨v, h1, h2⟩ := PVs.get (i := i) (x := x) r (by simpa using e)
    exact ⟨v, by simpa using h1, h2⟩
theorem PVs.take {F : Addr → Prop} : ∀ {vs : List V} {xs : List P} (n : Nat), PVs K F H vs xs → PVs K F H (vs.take n) (xs.take n)
  | _, _, 0, _ => .nil
  | _, _, _ + 1, .nil => .nil
  | _, _, n + 1, .cons h r => .cons h (PVs.take n r)
theorem PVs.drop {F : Addr → Prop} : ∀ {vs : List V} {xs : List P} (n : Nat), PVs K F H vs xs → PVs K F H (vs.drop n) (xs.drop n)
  | _, _, 0, r => r
  | _, _, _ + 1, .nil => .nil
  | _, _, n + 1, .cons _ r => PVs.drop n r
theorem PVs.ints {F : Addr → Prop} : ∀ ns : List Int, PVs K F H (ns.map V.int) (ns.map P.int)
  | [] => .nil
  | n :: r => .cons (.int n) (PVs.ints r)
theorem PVs.bls {F : Addr → Prop} : ∀ {vs : List V} {bs : List Bool}, PVs K F H vs (bs.map P.bl) → vs = bs.map V.bl
  | _, [], .nil => _root_.rfl
  | _, _ :: _, .cons (.bl _) r => congrArg (_ :: ·) (PVs.bls r)
theorem PVs.int_eq {F : Addr → Prop} : ∀ {vs : List V} {bs : List Int}, PVs K F H vs (bs.map P.int) → vs = bs.map V.int
  | _, [], .nil => _root_.rfl
  | _, _ :: _, .cons (.int _) r => congrArg (_ :: ·) (PVs.int_eq r)
theorem DVs.plain : ∀ {vs : List V} {xs : List P}, DVs K W H vs (xs.map D.p) → PVs K W.fr H vs xs
  | _, [], .nil => .nil
  | _, _ :: _, .cons h r => .cons h (DVs.plain r)
/-- a new object that no name of ours bears -/
theorem Ev.new {o : HO} (hp : H p = none) : Ev W H W (upd H p o) where
  io := ⟨[], by simp⟩
  fr := fun _ h => h
  fk := fun a o _ h => by rw [upd_ne (ne_of_none h hp)]; exact h
  tk := fun a xs h => by rw [upd_ne (ne_of_none h hp)]; exact h
  zk := fun a o u h => by rw [upd_ne (ne_of_none h hp)]; exact h
  pv := fun _ h => h
  pk := fun a o _ h => by rw [upd_ne (ne_of_none h hp)]; exact h
  tb := _root_.rfl
  ow := fun _ _ h => h
theorem Ev.oth {o : HO} (hp : H p = none) (h : H a ≠ none) : upd H p o a = H a := upd_ne fun e => h (e ▸ hp)
theorem OV.up (e : Ev W H W' H') (he : H' a = H a) {o : O} (ho : ∀ b f, W.ow b = some (a, f) → H' b = H b) (h : OV K W H a o) : OV K W' H' a o := by
  cases o with
  | lst xs =>
    obtain ⟨vs, h1, h2⟩ := h
    exact ⟨vs, he.trans h1, PVs.up e h2⟩
  | dic kvs =>
    obtain ⟨ws, h1, h2⟩ := h
    exact ⟨ws, he.trans h1, Paired.mapP h2 fun p q z => ⟨z.1, DV.up e z.2⟩⟩
  | row ds =>
    obtain ⟨vs, h1, h2⟩ := h
    exact ⟨vs, he.trans h1, DVs.up e h2⟩
  | tpl ds =>
    obtain ⟨vs, h1, h2⟩ := h
    exact ⟨vs, he.trans h1, DVs.up e h2⟩
  | ins c fs =>
    obtain ⟨C, dx, ws, h0, h1, h2⟩ := h
    exact ⟨C, dx, ws, h0, he.trans h1, Paired.mapP h2 fun p q z => ⟨z.1, PV.up e z.2⟩⟩
  | own c fs =>
    obtain ⟨C, dx, ws, h0, h1, hn, h2⟩ := h
    refine ⟨C, dx, ws, h0, he.trans h1, hn, Paired.mapP h2 fun p q z => ⟨z.1, ?_⟩⟩
    have z2 := z.2
    unfold FV at z2 ⊢
    split at z2
    · exact PV.up e z2
    · obtain ⟨b, vs, g1, g2, g3, g4⟩ := z2
      exact ⟨b, vs, g1, (ho b _ g4).trans g2, PVs.up e g3, e.ow _ _ g4⟩
theorem OV.there {o : O} (h : OV K W H a o) : H a ≠ none := by
  cases o with
  | lst xs =>
    obtain ⟨vs, h1, _⟩ := h
    rw [h1]
    exact fun z => nomatch z
  | dic kvs =>
    obtain ⟨ws, h1, _⟩ := h
    rw [h1]
    exact fun z => nomatch z
  | row ds =>
    obtain ⟨ws, h1, _⟩ := h
    rw [h1]
    exact fun z => nomatch z
  | tpl ds =>
    obtain ⟨ws, h1, _⟩ := h
    rw [h1]
    exact fun z => nomatch z
  | ins c fs =>
    obtain ⟨C, dx, ws, _, h1, _⟩ := h
    rw [h1]
    exact fun z => nomatch z
  | own c fs =>
    obtain ⟨C, dx, ws, _, h1, _⟩ := h
    rw [h1]
    exact fun z => nomatch z
theorem tabs_new {o : HO} {T : List (Addr × Str)} (h : LamX.Tabs T H) (hp : H p = none) : LamX.Tabs T (upd H p o) := h.ext fun b u e => by rw [upd_ne (ne_of_none e hp)]; exact e
theorem tbl_new {o : HO} {ps : Array Value} (h : upd H p o a = some (.tbl ps)) (no : ∀ ps, o ≠ .tbl ps) : a ≠ p ∧ H a = some (.tbl ps) := by
  have e : a ≠ p := fun e => by
    rw [e, upd_same] at h
    exact no ps (Option.some.inj h)
  rw [upd_ne e] at h
  exact ⟨e, h⟩
theorem tabs_put {u : HO} {T : List (Addr × Str)} (h : LamX.Tabs T H) (n1 : ∀ ps, H p ≠ some (.tbl ps)) (n2 : ∀ φ, H p ≠ some (.ext φ)) : LamX.Tabs T (upd H p u) := fun q hq => by
  obtain ⟨ps, p1, p2, p3⟩ := h q hq
  refine ⟨ps, ?_, p2, fun pos cv hc => ?_⟩
  · rw [upd_ne fun z => n1 _ (z ▸ p1)]
    exact p1
  · obtain ⟨c, c1, c2⟩ := p3 pos cv hc
    exact ⟨c, c1, by rw [upd_ne fun z => n2 _ (z ▸ c2)]; exact c2⟩
theorem Abs.new {o : HO} (A : Abs K W s H) (hp : H p = none) (no : ∀ ps, o ≠ .tbl ps := by intro _ z; cases z) : Abs K W s (upd H p o) where
  len := A.len
  nd := A.nd
  tr := fun a h => by rw [Ev.oth hp (A.tr a h)]; exact A.tr a h
  ft := fun a h => by rw [Ev.oth hp (A.ft a h)]; exact A.ft a h
  ob := fun n u h => by
    obtain ⟨a, h1, h2, h3⟩ := A.ob n u h
    exact ⟨a, h1, h2, h3.up (Ev.new hp) (Ev.oth hp h3.there) fun b f hb => Ev.oth hp (A.on hb)⟩
  pd := fun a h => ⟨by rw [Ev.oth hp (A.pn h)]; exact (A.pd a h).1, (A.pd a h).2⟩
  tt := tabs_new A.tt hp
  tn := fun a ps h => A.tn a ps (tbl_new h no).2
  po := fun b q h => ⟨by rw [Ev.oth hp (A.on h)]; exact (A.po b q h).1, (A.po b q h).2⟩
/-- a new list that will not be changed -/
def Wd.keep (W : Wd) (p : Addr) : Wd := ⟨W.io, fun a => W.fr a ∨ a = p, W.pv, W.tb, W.ow⟩
theorem Ev.keep {o : HO} (hp : H p = none) : Ev W H (W.keep p) (upd H p o) where
  io := ⟨[], by simp [Wd.keep]⟩
  fr := fun _ h => Or.inl h
  fk := (Ev.new (W := W) hp).fk
  tk := (Ev.new (W := W) hp).tk
  zk := (Ev.new (W := W) hp).zk
  pv := fun _ h => h
  pk := (Ev.new (W := W) hp).pk
  tb := _root_.rfl
  ow := fun _ _ h => h
theorem Abs.keep {o : HO} (A : Abs K W s H) (hp : H p = none) (no : ∀ ps, o ≠ .tbl ps := by intro _ z; cases z) : Abs K (W.keep p) s (upd H p o) where
  len := A.len
  nd := A.nd
  tr := fun a h => by rw [Ev.oth hp (A.tr a h)]; exact A.tr a h
  ft := fun a h => by
    rcases h with h | h
    · rw [Ev.oth hp (A.ft a h)]
      exact A.ft a h
    · rw [h, upd_same]
      exact fun z => nomatch z
  ob := fun n u h => by
    obtain ⟨a, h1, h2, h3⟩ := A.ob n u h
    refine ⟨a, h1, fun z => ?_, h3.up (Ev.keep hp) (Ev.oth hp h3.there) fun b f hb => Ev.oth hp (A.on hb)⟩
    rcases z with z | z
    · exact h2 z
    · rw [z] at h3
      exact h3.there hp
  pd := fun a h => ⟨by rw [Ev.oth hp (A.pn h)]; exact (A.pd a h).1, fun z => by
    rcases z with z | z
    · exact (A.pd a h).2.1 z
    · exact A.pn h (by rw [z]; exact hp), (A.pd a h).2.2⟩
  tt := tabs_new A.tt hp
  tn := fun a ps h => by
    obtain ⟨ne, h⟩ := tbl_new h no
    obtain ⟨h1, h2, h3⟩ := A.tn a ps h
    exact ⟨fun z => z.elim h1 ne, h2, h3⟩
  po := fun b q h => ⟨by rw [Ev.oth hp (A.on h)]; exact (A.po b q h).1, fun z => z.elim (A.po b q h).2.1 fun e => A.on h (by rw [e]; exact hp), (A.po b q h).2.2⟩
/-- a new changing object -/
def Wd.add (W : Wd) (p : Addr) : Wd := ⟨W.io ++ [p], W.fr, W.pv, W.tb, W.ow⟩
theorem Ev.add {o : HO} (hp : H p = none) : Ev W H (W.add p) (upd H p o) where
  io := ⟨[p], _root_.rfl⟩
  fr := fun _ h => h
  fk := (Ev.new (W := W) hp).fk
  tk := (Ev.new (W := W) hp).tk
  zk := (Ev.new (W := W) hp).zk
  pv := fun _ h => h
  pk := (Ev.new (W := W) hp).pk
  tb := _root_.rfl
  ow := fun _ _ h => h
theorem Abs.add {o : HO} {u : O} (A : Abs K W s H) (hp : H p = none) (hu : OV K (W.add p) (upd H p o) p u) (no : ∀ ps, o ≠ .tbl ps := by intro _ z; cases z) : Abs K (W.add p) (s ++ [some u]) (upd H p o) where
  len := by simp [Wd.add, A.len]
  nd := by
    refine List.nodup_append.mpr ⟨A.nd, by simp, fun a ha b hb e => ?_⟩
    have hb' : b = p := by simpa using hb
    exact A.tr a ha (by rw [e, hb']; exact hp)
  tr := fun a h => by
    rcases List.mem_append.mp h with h | h
    · rw [Ev.oth hp (A.tr a h)]
      exact A.tr a h
    · have e : a = p := by simpa using h
      rw [e, upd_same]
      exact fun z => nomatch z
  ft := fun a h => by rw [Ev.oth hp (A.ft a h)]; exact A.ft a h
  ob := fun n q h => by
    by_cases hn : n < s.length
    · rw [List.getElem?_append_left hn] at h
      obtain ⟨a, h1, h2, h3⟩ := A.ob n q h
      refine ⟨a, ?_, h2, h3.up (Ev.add hp) (Ev.oth hp h3.there) fun b f hb => Ev.oth hp (A.on hb)⟩
      show (W.io ++ [p])[n]? = some a
      rw [List.getElem?_append_left (by rw [A.len]; exact hn)]
      exact h1
    · have hn2 : n = s.length := by
        have h4 := (List.getElem?_eq_some_iff.mp h).1
        simp at h4
        omega
      subst hn2
      have hq : q = u := by
        simp at h
        exact h.symm
      subst hq
      refine ⟨p, ?_, fun z => A.ft p z hp, hu⟩
      show (W.io ++ [p])[s.length]? = some p
      rw [← A.len]
      simp
  pd := fun a h => ⟨by rw [Ev.oth hp (A.pn h)]; exact (A.pd a h).1, (A.pd a h).2.1, fun z => by
    rcases List.mem_append.mp z with z | z
    · exact (A.pd a h).2.2 z
    · have e : a = p := by simpa using z
      exact A.pn h (by rw [e]; exact hp)⟩
  tt := tabs_new A.tt hp
  tn := fun a ps h => by
    obtain ⟨ne, h⟩ := tbl_new h no
    obtain ⟨h1, h2, h3⟩ := A.tn a ps h
    refine ⟨h1, h2, fun z => ?_⟩
    rcases List.mem_append.mp z with z | z
    · exact h3 z
    · exact ne (by simpa using z)
  po := fun b q h => ⟨by rw [Ev.oth hp (A.on h)]; exact (A.po b q h).1, (A.po b q h).2.1, (A.po b q h).2.2.1, fun z => by
    rcases List.mem_append.mp z with z | z
    · exact (A.po b q h).2.2.2 z
    · have e : b = p := by simpa using z
      exact A.on h (by rw [e]; exact hp)⟩
theorem Abs.nobj (A : Abs K W s H) (hp : H p = none) : (W.add p).io[s.length]? = some p := by
  show (W.io ++ [p])[s.length]? = some p
  rw [← A.len]
  simp
/-- a changing object is changed -/
theorem Ev.put {n : Nat} {o o' : O} {u : HO} (A : Abs K W s H) (hn : s[n]? = some (some o)) (ha : W.io[n]? = some a) (no : ∀ ds, o ≠ .tpl ds := by intro _ z; cases z) : Ev W H W (upd H a u) := by
  obtain ⟨b, h1, h2, h3⟩ := A.ob n o hn
  rw [ha] at h1
  cases h1
  have nt : ∀ xs, H a ≠ some (.tup xs) := fun xs z => by
    cases o with
    | lst xs =>
      obtain ⟨vs, h4, _⟩ := h3
      rw [z] at h4
      cases h4
    | dic kvs =>
      obtain ⟨vs, h4, _⟩ := h3
      rw [z] at h4
      cases h4
    | row kvs =>
      obtain ⟨vs, h4, _⟩ := h3
      rw [z] at h4
      cases h4
    | tpl kvs => exact no kvs _root_.rfl
    | ins c fs =>
      obtain ⟨C, dx, ws, _, h4, _⟩ := h3
      rw [z] at h4
      cases h4
    | own c fs =>
      obtain ⟨C, dx, ws, _, h4, _⟩ := h3
      rw [z] at h4
      cases h4
  have nz : ∀ q r, H a ≠ some (.frz q r) := fun q r z => by
    cases o with
    | lst xs =>
      obtain ⟨vs, h4, _⟩ := h3
      rw [z] at h4
      cases h4
    | dic kvs =>
      obtain ⟨vs, h4, _⟩ := h3
      rw [z] at h4
      cases h4
    | row kvs =>
      obtain ⟨vs, h4, _⟩ := h3
      rw [z] at h4
      cases h4
    | tpl kvs => exact no kvs _root_.rfl
    | ins c fs =>
      obtain ⟨C, dx, ws, _, h4, _⟩ := h3
      rw [z] at h4
      cases h4
    | own c fs =>
      obtain ⟨C, dx, ws, _, h4, _⟩ := h3
      rw [z] at h4
      cases h4
  refine ⟨⟨[], by simp⟩, fun _ h => h, fun b q hb h => ?_, fun b xs h => ?_, fun b q r h => ?_, fun _ h => h, fun b q hb h => ?_, _root_.rfl, fun _ _ h => h⟩
  · have e : b ≠ a := fun e => by
      subst e
      exact h2 hb
    rw [upd_ne e]
    exact h
  · have e : b ≠ a := fun e => by
      subst e
      exact nt xs h
    rw [upd_ne e]
    exact h
  · have e : b ≠ a := fun e => by
      subst e
      exact nz q r h
    rw [upd_ne e]
    exact h
  · have e : b ≠ a := fun e => by
      subst e
      exact (A.pd b hb).2.2 (List.mem_of_getElem? ha)
    rw [upd_ne e]
    exact h
theorem OV.ne_ext {o : O} {φ : Heap → Prop} (h : OV K W H a o) : H a ≠ some (.ext φ) := fun z => by
  cases o with
  | lst xs =>
    obtain ⟨vs, h1, _⟩ := h
    rw [z] at h1
    cases h1
  | dic kvs =>
    obtain ⟨ws, h1, _⟩ := h
    rw [z] at h1
    cases h1
  | row kvs =>
    obtain ⟨ws, h1, _⟩ := h
    rw [z] at h1
    cases h1
  | tpl kvs =>
    obtain ⟨ws, h1, _⟩ := h
    rw [z] at h1
    cases h1
  | ins c fs =>
    obtain ⟨C, dx, ws, _, h1, _⟩ := h
    rw [z] at h1
    cases h1
  | own c fs =>
    obtain ⟨C, dx, ws, _, h1, _⟩ := h
    rw [z] at h1
    cases h1
theorem OV.ne_tbl {o : O} {ps : Array Value} (h : OV K W H a o) : H a ≠ some (.tbl ps) := fun z => by
  cases o with
  | lst xs =>
    obtain ⟨vs, h1, _⟩ := h
    rw [z] at h1
    cases h1
  | dic kvs =>
    obtain ⟨ws, h1, _⟩ := h
    rw [z] at h1
    cases h1
  | row kvs =>
    obtain ⟨ws, h1, _⟩ := h
    rw [z] at h1
    cases h1
  | tpl kvs =>
    obtain ⟨ws, h1, _⟩ := h
    rw [z] at h1
    cases h1
  | ins c fs =>
    obtain ⟨C, dx, ws, _, h1, _⟩ := h
    rw [z] at h1
    cases h1
  | own c fs =>
    obtain ⟨C, dx, ws, _, h1, _⟩ := h
    rw [z] at h1
    cases h1
theorem Abs.put {n : Nat} {o o' : O} {u : HO} (A : Abs K W s H) (hn : s[n]? = some (some o)) (ha : W.io[n]? = some a) (hu : OV K W (upd H a u) a o') (no' : ∀ ds, o ≠ .tpl ds := by intro _ z; cases z) : Abs K W (s.set n (some o')) (upd H a u) := by
  have ev : Ev W H W (upd H a u) := Ev.put (o' := o') A hn ha no'
  have hl : n < s.length := (List.getElem?_eq_some_iff.mp hn).1
  have no : ∀ ps, u ≠ .tbl ps := fun ps z => hu.ne_tbl (by rw [upd_same, z])
  refine ⟨by rw [List.length_set]; exact A.len, A.nd, fun b h => ?_, fun b h => ?_, fun m q h => ?_, fun b h => ⟨?_, (A.pd b h).2⟩, fun q hq => ?_, fun b ps h => A.tn b ps (tbl_new h no).2, fun b q h => ⟨by rw [upd_ne fun z => (A.po b q h).2.2.2 (by rw [z]; exact List.mem_of_getElem? ha)]; exact (A.po b q h).1, (A.po b q h).2⟩⟩
  · by_cases e : b = a
    · rw [e, upd_same]
      exact fun z => nomatch z
    · rw [upd_ne e]
      exact A.tr b h
  · by_cases e : b = a
    · rw [e, upd_same]
      exact fun z => nomatch z
    · rw [upd_ne e]
      exact A.ft b h
  · by_cases e : m = n
    · subst e
      rw [List.getElem?_set_self hl] at h
      have hq : o' = q := Option.some.inj (Option.some.inj h)
      subst hq
      obtain ⟨b, h1, h2, h3⟩ := A.ob m o hn
      rw [ha] at h1
      cases h1
      exact ⟨a, ha, h2, hu⟩
    · rw [List.getElem?_set_ne (Ne.symm e)] at h
      obtain ⟨b, h1, h2, h3⟩ := A.ob m q h
      have hab : b ≠ a := fun z => e (nd_ix A.nd h1 (by rw [z]; exact ha))
      exact ⟨b, h1, h2, h3.up ev (upd_ne hab) fun b f hb => upd_ne fun z => (A.po b _ hb).2.2.2 (by rw [z]; exact List.mem_of_getElem? ha)⟩
  · have e : b ≠ a := fun e => by
      subst e
      exact (A.pd b h).2.2 (List.mem_of_getElem? ha)
    rw [upd_ne e]
    exact (A.pd b h).1
  · obtain ⟨b, h1, h2, h3⟩ := A.ob n o hn
    rw [ha] at h1
    cases h1
    obtain ⟨ps, p1, p2, p3⟩ := A.tt q hq
    refine ⟨ps, ?_, p2, fun pos cv hc => ?_⟩
    · rw [upd_ne fun z => h3.ne_tbl (z ▸ p1)]
      exact p1
    · obtain ⟨c, c1, c2⟩ := p3 pos cv hc
      exact ⟨c, c1, by rw [upd_ne fun z => h3.ne_ext (z ▸ c2)]; exact c2⟩
/-- an object is from now on plain -/
theorem Abs.freeze {n : Nat} {xs : List P} (A : Abs K W s H) (hn : s[n]? = some (some (.lst xs))) (ha : W.io[n]? = some a) : Ev W H (W.keep a) H ∧ Abs K (W.keep a) (s.set n none) H ∧ PV K (W.keep a).fr H (.ref a) (.lst xs) := by
  obtain ⟨b, h1, h2, vs, h3, h4⟩ := A.ob n _ hn
  rw [ha] at h1
  cases h1
  have ev : Ev W H (W.keep a) H := ⟨⟨[], by simp [Wd.keep]⟩, fun _ h => Or.inl h, fun _ _ _ h => h, fun _ _ h => h, fun _ _ _ h => h, fun _ h => h, fun _ _ _ h => h, _root_.rfl, fun _ _ h => h⟩
  refine ⟨ev, ⟨by rw [List.length_set]; exact A.len, A.nd, A.tr, fun b h => ?_, fun m q h => ?_, fun b h => ⟨(A.pd b h).1, fun z => ?_, (A.pd b h).2.2⟩, A.tt, fun b ps h => ⟨fun z => z.elim (A.tn b ps h).1 fun e => (A.tn b ps h).2.2 (by rw [e]; exact List.mem_of_getElem? ha), (A.tn b ps h).2⟩, fun b q h => ⟨(A.po b q h).1, fun z => z.elim (A.po b q h).2.1 fun e => (A.po b q h).2.2.2 (by rw [e]; exact List.mem_of_getElem? ha), (A.po b q h).2.2⟩⟩, .lst (Or.inr _root_.rfl) h3 (PVs.up ev h4)⟩
  · rcases h with h | h
    · exact A.ft b h
    · rw [h, h3]
      exact fun z => nomatch z
  · have e : m ≠ n := fun e => by
      subst e
      rw [List.getElem?_set_self (List.getElem?_eq_some_iff.mp hn).1] at h
      cases h
    rw [List.getElem?_set_ne (Ne.symm e)] at h
    obtain ⟨b, g1, g2, g3⟩ := A.ob m q h
    refine ⟨b, g1, fun z => ?_, g3.up ev _root_.rfl fun _ _ _ => _root_.rfl⟩
    rcases z with z | z
    · exact g2 z
    · exact e (nd_ix A.nd g1 (by rw [z]; exact ha))
  · rcases z with z | z
    · exact (A.pd b h).2.1 z
    · exact (A.pd b h).2.2 (by rw [z]; exact List.mem_of_getElem? ha)
/-- the older objects bear no name of a newer one -/
structure Keeps (s s' : S) : Prop where
  le : s.length ≤ s'.length
  dic : ∀ (i : Nat) (kvs : List (Key × D)), i < s.length → s'[i]? = some (some (.dic kvs)) → s[i]? = s'[i]? ∨ ∀ kv ∈ kvs, ∀ m, kv.2 = .obj m → m < s.length
  row : ∀ (i : Nat) (ds : List D), i < s.length → s'[i]? = some (some (.row ds)) → s[i]? = s'[i]? ∨ ∀ d ∈ ds, ∀ m, d = .obj m → m < s.length
  tpl : ∀ (i : Nat) (ds : List D), i < s.length → s'[i]? = some (some (.tpl ds)) → s[i]? = s'[i]? ∨ ∀ d ∈ ds, ∀ m, d = .obj m → m < s.length
theorem Keeps.self : Keeps s s := ⟨Nat.le_refl _, fun _ _ _ _ => Or.inl rfl, fun _ _ _ _ => Or.inl rfl, fun _ _ _ _ => Or.inl rfl⟩
theorem Keeps.more (r : S) : Keeps s (s ++ r) := ⟨by rw [List.length_append]; omega, fun i _ h _ => Or.inl (by rw [List.getElem?_append_left h]), fun i _ h _ => Or.inl (by rw [List.getElem?_append_left h]), fun i _ h _ => Or.inl (by rw [List.getElem?_append_left h])⟩
theorem DV.old {n : Nat} {r : List Addr} (h : DV K W' H v d) (hr : W'.io = W.io ++ r) (hd : ∀ m, d = .obj m → m < W.io.length) : DV K ⟨W.io, W'.fr, W'.pv, W'.tb, W'.ow⟩ H v d := by
  cases d with
  | p x => exact h
  | obj m =>
    obtain ⟨a, h1, h2⟩ := h
    rw [hr, List.getElem?_append_left (hd m rfl)] at h1
    exact ⟨a, h1, h2⟩
/-- what a def made and did not hand back is forgotten -/
theorem Abs.cut {s' : S} (A : Abs K W s H) (e : Ev W H W' H') (A' : Abs K W' s' H') (k : Keeps s s') : Abs K ⟨W.io, W'.fr, W'.pv, W'.tb, W'.ow⟩ (s'.take s.length) H' := by
  obtain ⟨r, hr⟩ := e.io
  obtain ⟨k1, k2, k3, k4⟩ := k
  refine ⟨by rw [List.length_take, A.len]; omega, A.nd, fun a h => A'.tr a (by rw [hr]; exact List.mem_append_left _ h), A'.ft, fun n o h => ?_, fun a h => ⟨(A'.pd a h).1, (A'.pd a h).2.1, fun z => (A'.pd a h).2.2 (by rw [hr]; exact List.mem_append_left _ z)⟩, A'.tt, fun a ps h => ⟨(A'.tn a ps h).1, (A'.tn a ps h).2.1, fun z => (A'.tn a ps h).2.2 (by rw [hr]; exact List.mem_append_left _ z)⟩, fun b q h => ⟨(A'.po b q h).1, (A'.po b q h).2.1, (A'.po b q h).2.2.1, fun z => (A'.po b q h).2.2.2 (by rw [hr]; exact List.mem_append_left _ z)⟩⟩
  have hn : n < s.length := by
    have h4 := (List.getElem?_eq_some_iff.mp h).1
    simp at h4
    omega
  rw [List.getElem?_take_of_lt hn] at h
  obtain ⟨a, h1, h2, h3⟩ := A'.ob n o h
  rw [hr, List.getElem?_append_left (by rw [A.len]; exact hn)] at h1
  refine ⟨a, h1, h2, ?_⟩
  cases o with
  | lst xs => exact h3
  | ins c fs => exact h3
  | own c fs => exact h3
  | dic kvs =>
    obtain ⟨ws, h4, h5⟩ := h3
    refine ⟨ws, h4, ?_⟩
    have low : ∀ kv ∈ kvs, ∀ m, kv.2 = .obj m → m < W.io.length := by
      rcases k2 n kvs hn h with z | z
      · rw [h] at z
        obtain ⟨b, g1, _, ws2, _, g5⟩ := A.ob n _ z
        intro kv hk m hm
        have key : ∀ {us : List (Key × V)} {qs : List (Key × D)}, Paired (fun (p : Key × V) (q : Key × D) => p.1 = q.1 ∧ DV K W H p.2 q.2) us qs → kv ∈ qs → m < W.io.length := by
          intro us qs hp
          induction hp with
          | nil => intro h; cases h
          | cons hh _ ih =>
            intro hq
            rcases List.mem_cons.mp hq with e1 | e1
            · obtain ⟨_, h7⟩ := hh
              rw [← e1, hm] at h7
              obtain ⟨c, h8, _⟩ := h7
              exact (List.getElem?_eq_some_iff.mp h8).1
            · exact ih e1
        exact key g5 hk
      · intro kv hk m hm
        rw [A.len]
        exact z kv hk m hm
    have go : ∀ {us : List (Key × V)} {qs : List (Key × D)}, Paired (fun (p : Key × V) (q : Key × D) => p.1 = q.1 ∧ DV K W' H' p.2 q.2) us qs → (∀ kv ∈ qs, ∀ m, kv.2 = .obj m → m < W.io.length) → Paired (fun (p : Key × V) (q : Key × D) => p.1 = q.1 ∧ DV K ⟨W.io, W'.fr, W'.pv, W'.tb, W'.ow⟩ H' p.2 q.2) us qs := by
      intro us qs hp
      induction hp with
      | nil => intro _; exact .nil
      | cons hh _ ih =>
        intro hq
        exact .cons ⟨hh.1, DV.old (n := 0) hh.2 hr (hq _ List.mem_cons_self)⟩ (ih fun kv h => hq kv (List.mem_cons_of_mem _ h))
    exact go h5 low
  | row ds =>
    obtain ⟨vs, h4, h5⟩ := h3
    refine ⟨vs, h4, ?_⟩
    have low : ∀ d ∈ ds, ∀ m, d = .obj m → m < W.io.length := by
      rcases k3 n ds hn h with z | z
      · rw [h] at z
        obtain ⟨b, g1, _, vs2, _, g5⟩ := A.ob n _ z
        intro d hk m hm
        have key : ∀ {us : List V} {qs : List D}, DVs K W H us qs → d ∈ qs → m < W.io.length := by
          intro us qs hp
          induction hp with
          | nil => intro h; cases h
          | cons hh _ ih =>
            intro hq
            rcases List.mem_cons.mp hq with e1 | e1
            · rw [← e1, hm] at hh
              obtain ⟨c, h8, _⟩ := hh
              exact (List.getElem?_eq_some_iff.mp h8).1
            · exact ih e1
        exact key g5 hk
      · intro d hk m hm
        rw [A.len]
        exact z d hk m hm
    have go : ∀ {us : List V} {qs : List D}, DVs K W' H' us qs → (∀ d ∈ qs, ∀ m, d = .obj m → m < W.io.length) → DVs K ⟨W.io, W'.fr, W'.pv, W'.tb, W'.ow⟩ H' us qs := by
      intro us qs hp
      induction hp with
      | nil => intro _; exact .nil
      | cons hh _ ih =>
        intro hq
        exact .cons (DV.old (n := 0) hh hr (hq _ List.mem_cons_self)) (ih fun d h => hq d (List.mem_cons_of_mem _ h))
    exact go h5 low
  | tpl ds =>
    obtain ⟨vs, h4, h5⟩ := h3
    refine ⟨vs, h4, ?_⟩
    have low : ∀ d ∈ ds, ∀ m, d = .obj m → m < W.io.length := by
      rcases k4 n ds hn h with z | z
      · rw [h] at z
        obtain ⟨b, g1, _, vs2, _, g5⟩ := A.ob n _ z
        intro d hk m hm
        have key : ∀ {us : List V} {qs : List D}, DVs K W H us qs → d ∈ qs → m < W.io.length := by
          intro us qs hp
          induction hp with
          | nil => intro h; cases h
          | cons hh _ ih =>
            intro hq
            rcases List.mem_cons.mp hq with e1 | e1
            · rw [← e1, hm] at hh
              obtain ⟨c, h8, _⟩ := hh
              exact (List.getElem?_eq_some_iff.mp h8).1
            · exact ih e1
        exact key g5 hk
      · intro d hk m hm
        rw [A.len]
        exact z d hk m hm
    have go : ∀ {us : List V} {qs : List D}, DVs K W' H' us qs → (∀ d ∈ qs, ∀ m, d = .obj m → m < W.io.length) → DVs K ⟨W.io, W'.fr, W'.pv, W'.tb, W'.ow⟩ H' us qs := by
      intro us qs hp
      induction hp with
      | nil => intro _; exact .nil
      | cons hh _ ih =>
        intro hq
        exact .cons (DV.old (n := 0) hh hr (hq _ List.mem_cons_self)) (ih fun d h => hq d (List.mem_cons_of_mem _ h))
    exact go h5 low
theorem Ev.cut {W' : Wd} (e : Ev W H W' H') : Ev W H ⟨W.io, W'.fr, W'.pv, W'.tb, W'.ow⟩ H' := ⟨⟨[], by simp⟩, e.fr, e.fk, e.tk, e.zk, e.pv, e.pk, e.tb, e.ow⟩
def Wd.hide (W : Wd) (p : Addr) : Wd := ⟨W.io, W.fr, fun a => W.pv a ∨ a = p, W.tb, W.ow⟩
def Wd.show (W : Wd) (p : Addr) : Wd := ⟨W.io, W.fr, fun a => W.pv a ∧ a ≠ p, W.tb, W.ow⟩
theorem Abs.hide (A : Abs K W s H) (hl : ∃ vs, H p = some (.lst vs)) (hf : ¬ W.fr p) (hi : p ∉ W.io) (ho : W.ow p = none) : Abs K (W.hide p) s H := by
  have up : ∀ {v d}, DV K W H v d → DV K (W.hide p) H v d := fun {v d} q => by cases d <;> exact q
  obtain ⟨vs, hv⟩ := hl
  have h : H p ≠ none := by
    rw [hv]
    exact fun z => nomatch z
  refine ⟨A.len, A.nd, A.tr, A.ft, fun n o hn => ?_, fun a ha => ?_, A.tt, fun b ps hb => ⟨(A.tn b ps hb).1, fun z => z.elim (A.tn b ps hb).2.1 fun e => ?_, (A.tn b ps hb).2.2⟩, fun b q h => ⟨(A.po b q h).1, (A.po b q h).2.1, fun z => z.elim (A.po b q h).2.2.1 fun e => (by
    have h : W.ow b = some q := h
    rw [e, ho] at h
    cases h), (A.po b q h).2.2.2⟩⟩
  · obtain ⟨a, h1, h2, h3⟩ := A.ob n o hn
    refine ⟨a, h1, h2, ?_⟩
    cases o with
    | lst xs => exact h3
    | dic kvs =>
      obtain ⟨ws, h4, h5⟩ := h3
      exact ⟨ws, h4, Paired.mapP h5 fun p q z => ⟨z.1, up z.2⟩⟩
    | row ds =>
      obtain ⟨vs, h4, h5⟩ := h3
      exact ⟨vs, h4, Paired.mapP h5 fun p q z => up z⟩
    | tpl ds =>
      obtain ⟨vs, h4, h5⟩ := h3
      exact ⟨vs, h4, Paired.mapP h5 fun p q z => up z⟩
    | ins c fs => exact h3
    | own c fs => exact h3
  · rcases ha with ha | ha
    · exact A.pd a ha
    · rw [ha]
      exact ⟨⟨vs, hv⟩, hf, hi⟩
  · rw [e, hv] at hb
    cases hb
theorem Ev.hide : Ev W H (W.hide p) H := ⟨⟨[], by simp [Wd.hide]⟩, fun _ h => h, fun _ _ _ h => h, fun _ _ h => h, fun _ _ _ h => h, fun _ h => Or.inl h, fun _ _ _ h => h, _root_.rfl, fun _ _ h => h⟩
/-- an item more -/
theorem Ev.grow {u : HO} (e : Ev (W.hide p) H W' H') (hp : ¬ W.pv p) (A' : Abs K W' s H') (hl : ∃ vs, H' p = some (.lst vs)) : Ev W H (W'.show p) (upd H' p u) := by
  obtain ⟨vs, hv⟩ := hl
  have pp : W'.pv p := e.pv p (Or.inr _root_.rfl)
  have nf := (A'.pd p pp).2.1
  have nt : ∀ xs, H' p ≠ some (.tup xs) := fun xs z => by
    rw [hv] at z
    cases z
  have nz : ∀ q r, H' p ≠ some (.frz q r) := fun q r z => by
    rw [hv] at z
    cases z
  refine ⟨e.io, e.fr, fun b q hb h => ?_, fun b xs h => ?_, fun b q r h => ?_, fun b h => ⟨e.pv b (Or.inl h), fun z => hp (z ▸ h)⟩, fun b q hb h => ?_, e.tb, e.ow⟩
  · have ne : b ≠ p := fun z => by
      subst z
      exact nf (e.fr b hb)
    rw [upd_ne ne]
    exact e.fk b q hb h
  · have g := e.tk b xs h
    have ne : b ≠ p := fun z => by
      subst z
      exact nt xs g
    rw [upd_ne ne]
    exact g
  · have g := e.zk b q r h
    have ne : b ≠ p := fun z => by
      subst z
      exact nz q r g
    rw [upd_ne ne]
    exact g
  · have ne : b ≠ p := fun z => by
      subst z
      exact hp hb
    rw [upd_ne ne]
    exact e.pk b q (Or.inl hb) h
theorem Abs.grow {u : HO} (A : Abs K W s H) (pp : W.pv p) (hl : ∃ vs, H p = some (.lst vs)) (no : ∀ ps, u ≠ .tbl ps := by intro _ z; cases z) : Ev (W.show p) H (W.show p) (upd H p u) ∧ Abs K (W.show p) s (upd H p u) := by
  obtain ⟨vs, hv⟩ := hl
  obtain ⟨n1, n2, n3⟩ := A.pd p pp
  have ev : Ev (W.show p) H (W.show p) (upd H p u) := by
    refine ⟨⟨[], by simp⟩, fun _ h => h, fun b q hb h => ?_, fun b xs h => ?_, fun b q r h => ?_, fun _ h => h, fun b q hb h => ?_, _root_.rfl, fun _ _ h => h⟩
    · have ne : b ≠ p := fun z => by
        subst z
        exact n2 hb
      rw [upd_ne ne]
      exact h
    · have ne : b ≠ p := fun z => by
        subst z
        rw [hv] at h
        cases h
      rw [upd_ne ne]
      exact h
    · have ne : b ≠ p := fun z => by
        subst z
        rw [hv] at h
        cases h
      rw [upd_ne ne]
      exact h
    · rw [upd_ne hb.2]
      exact h
  have dn : ∀ {v d}, DV K W H v d → DV K (W.show p) H v d := fun {v d} q => by cases d <;> exact q
  refine ⟨ev, ⟨A.len, A.nd, fun a ha => ?_, fun a ha => ?_, fun n o hn => ?_, fun a ha => ⟨?_, (A.pd a ha.1).2⟩, tabs_put A.tt (fun _ z => by rw [hv] at z; cases z) (fun _ z => by rw [hv] at z; cases z), fun b ps h => ⟨(A.tn b ps (tbl_new h no).2).1, fun z => (A.tn b ps (tbl_new h no).2).2.1 z.1, (A.tn b ps (tbl_new h no).2).2.2⟩, fun b q h => ⟨by rw [upd_ne fun z => (A.po b q h).2.2.1 (by rw [z]; exact pp)]; exact (A.po b q h).1, (A.po b q h).2.1, fun z => (A.po b q h).2.2.1 z.1, (A.po b q h).2.2.2⟩⟩⟩
  · have ne : a ≠ p := fun z => by
      subst z
      exact n3 ha
    rw [upd_ne ne]
    exact A.tr a ha
  · have ne : a ≠ p := fun z => by
      subst z
      exact n2 ha
    rw [upd_ne ne]
    exact A.ft a ha
  · obtain ⟨a, h1, h2, h3⟩ := A.ob n o hn
    have ne : a ≠ p := fun z => by
      subst z
      exact n3 (List.mem_of_getElem? h1)
    refine ⟨a, h1, h2, OV.up ev (upd_ne ne) (fun b f hb => upd_ne fun z => (A.po b _ hb).2.2.1 (by rw [z]; exact pp)) ?_⟩
    cases o with
    | lst xs => exact h3
    | dic kvs =>
      obtain ⟨ws, h4, h5⟩ := h3
      exact ⟨ws, h4, Paired.mapP h5 fun p q z => ⟨z.1, dn z.2⟩⟩
    | row ds =>
      obtain ⟨vs, h4, h5⟩ := h3
      exact ⟨vs, h4, Paired.mapP h5 fun p q z => dn z⟩
    | tpl ds =>
      obtain ⟨vs, h4, h5⟩ := h3
      exact ⟨vs, h4, Paired.mapP h5 fun p q z => dn z⟩
    | ins c fs => exact h3
    | own c fs => exact h3
  · rw [upd_ne ha.2]
    exact (A.pd a ha.1).1
end
end CW
end
section
set_option maxRecDepth 100000
set_option maxHeartbeats 2000000
namespace CW
open PySem PySem.Spec PyProof.Rows L2
structure Cf where
  pg : Program
  w : World
  K : PySem.W.Frag
  mg : Str → Option Value
  base : Heap
  /-- the rows run with the guards known: repr asks for it, a lambda's body doesn't tell it -/
  rg : Bool
  /-- what more is known of a context in which a def's own rows run -/
  ex : Cx → Prop
  /-- the tables of the defs that make lambdas -/
  tb : List (Addr × Str)
  /-- the code object and the name of the def that runs, where it is asked for -/
  cq : Option (Value × Str)
/-- what is known wherever a def's body, or a comprehension's block, runs -/
structure Okx (C : Cf) (k : Nat) (X : Cx) : Prop where
  pr : X.prog = C.pg
  ew : X.w = C.w
  eK : X.K = C.K
  em : X.mg = C.mg
  eb : X.base = C.base
  calm : X.calm = true
  rm : Room k X.A
  gd : C.rg = true → X.A.guards = some []
/-- the scope that runs, by the written one: a captured name may be a cell of the def around -/
structure Lik (sc es : Scope) : Prop where
  loc : ∀ x, sc.names.lookup x = some .local → es.names.lookup x = some .local
  cel : ∀ x, sc.names.lookup x = some .cell → es.names.lookup x = some .cell
  fre : ∀ x, sc.names.lookup x = some .free → es.names.lookup x = some .cell ∨ es.names.lookup x = some .free
  glo : ∀ x, sc.names.lookup x = some .globalImplicit → es.names.lookup x = some .globalImplicit
theorem Lik.rfl {sc : Scope} : Lik sc sc := ⟨fun _ h => h, fun _ h => h, fun _ h => Or.inr h, fun _ h => h⟩
theorem Lik.vis {sc es : Scope} {x : Str} (l : Lik sc es) (h : Vis sc x) : Vis es x := by
  rcases h with h | h | h
  · exact Or.inl (l.loc x h)
  · exact Or.inr (Or.inl (l.cel x h))
  · rcases l.fre x h with h | h
    · exact Or.inr (Or.inl h)
    · exact Or.inr (Or.inr h)
theorem Lik.lo {sc es : Scope} {x : Str} (l : Lik sc es) (h : Loc sc x) : Loc es x := by
  rcases h with h | h
  · exact Or.inl (l.loc x h)
  · exact Or.inr (l.cel x h)
structure Cok (C : Cf) (sc : Scope) (N : List Str) (k : Nat) (X : Cx) : Prop extends Okx C k X where
  nN : X.N = N
  nd : N.Nodup
  eL : Lik sc X.env.scope
  po : PassesOwn (model X.prog X.w) X.A X.env X.xe
  fc : ∀ x, sc.names.lookup x = some .cell → X.fn x = true
  cq : ∀ v q, C.cq = some (v, q) → X.env.code = v ∧ X.env.qual = q
/-- a def's own body -/
structure Cod (C : Cf) (sc : Scope) (N : List Str) (k : Nat) (X : Cx) : Prop extends Cok C sc N k X where
  eS : X.env.scope = sc
  sk : X.stack = X.env :: X.outer
  fm : X.env.frame = some X.env.locals
  nx : X.ex = []
  cx : C.ex X
structure ER (C : Cf) (W : Wd) (H : Hp) (σ : L2.St) (ρ : En) : Prop where
  len : σ.length = ρ.length
  «at» : ∀ (i : Nat) (d : D), ρ[i]? = some (some d) → ∃ v, σ[i]? = some (some v) ∧ DV C.K W H v d
  tb : W.tb = C.tb
def Po (K : PySem.W.Frag) (W : Wd) (H : Hp) (Q : VK) : D → S → Prop := fun d s => ∀ W' H' v, Ev W H W' H' → DV K W' H' v d → Abs K W' s H' → Q v H'
def PoA (K : PySem.W.Frag) (W : Wd) (H : Hp) (Q : List V → Hp → Prop) : List D → S → Prop := fun ds s => ∀ W' H' vs, Ev W H W' H' → DVs K W' H' vs ds → Abs K W' s H' → Q vs H'
def PoT (K : PySem.W.Frag) (W : Wd) (H : Hp) (Q : Bool → Hp → Prop) : Bool → S → Prop := fun b s => ∀ W' H', Ev W H W' H' → Abs K W' s H' → Q b H'
theorem ER.up {C : Cf} {W W' : Wd} {H H' : Hp} {σ : L2.St} {ρ : En} (h : ER C W H σ ρ) (e : Ev W H W' H') : ER C W' H' σ ρ := ⟨h.len, fun i d z => by
  obtain ⟨v, h1, h2⟩ := h.at i d z
  exact ⟨v, h1, h2.up e⟩, e.tb.trans h.tb⟩
theorem Po.up {K : PySem.W.Frag} {W W' : Wd} {H H' : Hp} {Q : VK} {d : D} {s : S} (e : Ev W H W' H') (h : Po K W H Q d s) : Po K W' H' Q d s := fun W2 H2 v e2 => h W2 H2 v (e.trans e2)
theorem PoT.up {K : PySem.W.Frag} {W W' : Wd} {H H' : Hp} {Q : Bool → Hp → Prop} {d : Bool} {s : S} (e : Ev W H W' H') (h : PoT K W H Q d s) : PoT K W' H' Q d s := fun W2 H2 e2 => h W2 H2 (e.trans e2)
abbrev EF := En → M D
abbrev AF := En → M (List D)
abbrev TF := En → M Bool
/-- an expression does m -/
def SE (C : Cf) (sc : Scope) (N : List Str) (k : Nat) (e : Expr) (m : EF) : Prop :=
  ∀ X, Cok C sc N k X → ∃ t, PE X e t ∧ ∀ σ H W s ρ Q, ER C W H σ ρ → Abs C.K W s H → Good (m ρ s) (Po C.K W H Q) → t σ H Q
def SA (C : Cf) (sc : Scope) (N : List Str) (k : Nat) (es : List Expr) (m : AF) : Prop :=
  ∀ X, Cok C sc N k X → ∃ t, PA X es t ∧ ∀ σ H W s ρ Q, ER C W H σ ρ → Abs C.K W s H → Good (m ρ s) (PoA C.K W H Q) → t σ H Q
def ST (C : Cf) (sc : Scope) (N : List Str) (k : Nat) (e : Expr) (m : TF) : Prop :=
  ∀ X, Cok C sc N k X → ∃ t, PT X e t ∧ ∀ σ H W s ρ Q, ER C W H σ ρ → Abs C.K W s H → Good (m ρ s) (PoT C.K W H Q) → t σ H Q
/-- a test within and, or -/
def SW (C : Cf) (sc : Scope) (N : List Str) (k : Nat) (e : Expr) (m : TF) : Prop :=
  ∀ X, Cok C sc N k X → ∃ t, PW X e t ∧ ∀ σ H W s ρ Q, ER C W H σ ρ → Abs C.K W s H → Good (m ρ s) (PoT C.K W H Q) → t σ H Q
section
variable {C : Cf} {sc : Scope} {N : List Str} {k : Nat} {pos : Pos} {e a b : Expr} {m ma mb : EF}
def vE (i : Nat) : EF := fun ρ s => match ρ[i]? with
  | some (some d) => .ok d s
  | _ => .bad
def cE (x : P) : EF := fun _ s => .ok (.p x) s
theorem s_v (i : Nat) {x : Str} (hN : N[i]? = some x := by rfl) (hv : Vis sc x := by first | exact Or.inl rfl | exact Or.inr (Or.inl rfl) | exact Or.inr (Or.inr rfl)) (hd : (x == ("__debug__" : Str)) = false := by decide)
    (hcd : (x == ("__classdict__" : Str)) = false := by decide) : SE C sc N k (.Name x pos) (vE i) := fun X ok => by
  refine ⟨_, pe_var (i := i) (by rw [ok.nN]; exact hN) (ok.eL.vis hv) hd hcd, fun σ H W s ρ Q er A g => ?_⟩
  unfold vE at g
  split at g
  · rename_i d hd
    obtain ⟨v, h1, h2⟩ := er.at i d hd
    exact ⟨v, h1, g W H v Ev.rfl h2 A⟩
  · exact g.elim
theorem s_int {i : Int} {j : Nat} : SE C sc N k (.Constant (.int i) j pos) (cE (.int i)) := fun X ok => ⟨_, pe_int, fun σ H W s ρ Q er A g => g W H _ Ev.rfl (PV.int i) A⟩
theorem s_bl {i : Bool} {j : Nat} : SE C sc N k (.Constant (.bool i) j pos) (cE (.bl i)) := fun X ok => ⟨_, pe_bl, fun σ H W s ρ Q er A g => g W H _ Ev.rfl (PV.bl i) A⟩
theorem s_non {j : Nat} : SE C sc N k (.Constant .none j pos) (cE .non) := fun X ok => ⟨_, pe_non, fun σ H W s ρ Q er A g => g W H _ Ev.rfl PV.non A⟩
def GlS (sc : Scope) (x : Str) : Prop := sc.names.lookup x = some .globalImplicit
theorem GlS.of {X : Cx} {x : Str} (h : GlS sc x) (ok : Cok C sc N k X) : Gl X x := by
  exact ok.eL.glo x h
/-- a module's constant -/
theorem s_glob {x : Str} {v : V} {u : Value} {z : P} (hm : C.mg x = some u) (r : RelV v u) (hz : ∀ F H, PV C.K F H v z) (hg : GlS sc x := by rfl) (hd : (x == ("__debug__" : Str)) = false := by decide) : SE C sc N k (.Name x pos) (cE z) := fun X ok => by
  refine ⟨_, pe_glob (hg.of ok) (by rw [ok.em]; exact hm) r hd, fun σ H W s ρ Q er A g => ?_⟩
  exact g W H v Ev.rfl (hz _ _) A
/-- a two-place operation on values does g -/
def OpS (C : Cf) (k : Nat) (f : Value → Value → Sem Value) (g : D → D → M D) : Prop :=
  ∀ X, Okx C k X → ∃ r, OpR X f r ∧ ∀ W s H x y dx dy Q, DV C.K W H x dx → DV C.K W H y dy → Abs C.K W s H → Good (g dx dy s) (Po C.K W H Q) → r x y H Q
def op2 (g : D → D → M D) (ma mb : EF) : EF := fun ρ => bnd (ma ρ) fun x => bnd (mb ρ) fun y => g x y
theorem two {t u : TE} {R : V → V → Hp → Prop} {σ : L2.St} {H : Hp} {W : Wd} {s : S} {ρ : En} {g : D → D → M D} {Q : VK}
    (ha : ∀ σ H W s ρ Q, ER C W H σ ρ → Abs C.K W s H → Good (ma ρ s) (Po C.K W H Q) → t σ H Q) (hb : ∀ σ H W s ρ Q, ER C W H σ ρ → Abs C.K W s H → Good (mb ρ s) (Po C.K W H Q) → u σ H Q)
    (er : ER C W H σ ρ) (A : Abs C.K W s H) (h : Good (op2 g ma mb ρ s) (Po C.K W H Q))
    (hR : ∀ W' H' s' x y dx dy, Ev W H W' H' → DV C.K W' H' x dx → DV C.K W' H' y dy → Abs C.K W' s' H' → Good (g dx dy s') (Po C.K W' H' Q) → R x y H') : t σ H fun x H1 => u σ H1 fun y H2 => R x y H2 := by
  refine ha σ H W s ρ _ er A (h.bnd.mono fun dx s1 h1 W1 H1 x e1 r1 A1 => ?_)
  refine hb σ H1 W1 s1 ρ _ (er.up e1) A1 (h1.bnd.mono fun dy s2 h2 W2 H2 y e2 r2 A2 => ?_)
  exact hR W2 H2 s2 x y dx dy (e1.trans e2) (r1.up e2) r2 A2 (h2.mono fun d s z => z.up (e1.trans e2))
theorem s_bin {op : Operator} {g : D → D → M D} (ho : OpS C k (binaryOp op) g) (ha : SE C sc N k a ma) (hb : SE C sc N k b mb) : SE C sc N k (.BinOp a op b pos) (op2 g ma mb) := fun X ok => by
  obtain ⟨r, h1, h2⟩ := ho X ok.toOkx
  obtain ⟨ta, pa, qa⟩ := ha X ok
  obtain ⟨tb, pb, qb⟩ := hb X ok
  exact ⟨_, pe_op h1 pa pb, fun σ H W s ρ Q er A g => two qa qb er A g fun W' H' s' x y dx dy e rx ry A' g' => h2 W' s' H' x y dx dy Q rx ry A' g'⟩
theorem s_cmp {op : CmpOp} {g : D → D → M D} (ho : OpS C k (compareOp op) g) (ha : SE C sc N k a ma) (hb : SE C sc N k b mb) (hm : behindInMarks op b = false := by first | exact nomark _ | rfl) : SE C sc N k (.Compare a [op] [b] pos) (op2 g ma mb) := fun X ok => by
  obtain ⟨r, h1, h2⟩ := ho X ok.toOkx
  obtain ⟨ta, pa, qa⟩ := ha X ok
  obtain ⟨tb, pb, qb⟩ := hb X ok
  exact ⟨_, pe_cmpR h1 pa pb hm, fun σ H W s ρ Q er A g => two qa qb er A g fun W' H' s' x y dx dy e rx ry A' g' => h2 W' s' H' x y dx dy Q rx ry A' g'⟩
def chn (g h : D → D → M D) (ma mb mc : EF) : EF := fun ρ => bnd (ma ρ) fun x => bnd (mb ρ) fun y => bnd (g x y) fun c => match c with
  | .p (.bl true) => bnd (mc ρ) fun z => h y z
  | .p (.bl false) => ret (.p (.bl false))
  | _ => bad
theorem chn_go {t u v : TE} {r r' : R2} {mc : EF} {g h : D → D → M D} {σ : L2.St} {H : Hp} {W : Wd} {s : S} {ρ : En} {Q : VK}
    (ha : ∀ σ H W s ρ Q, ER C W H σ ρ → Abs C.K W s H → Good (ma ρ s) (Po C.K W H Q) → t σ H Q) (hb : ∀ σ H W s ρ Q, ER C W H σ ρ → Abs C.K W s H → Good (mb ρ s) (Po C.K W H Q) → u σ H Q)
    (hc : ∀ σ H W s ρ Q, ER C W H σ ρ → Abs C.K W s H → Good (mc ρ s) (Po C.K W H Q) → v σ H Q)
    (h1 : ∀ W s H x y dx dy Q, DV C.K W H x dx → DV C.K W H y dy → Abs C.K W s H → Good (g dx dy s) (Po C.K W H Q) → r x y H Q) (h2 : ∀ W s H x y dx dy Q, DV C.K W H x dx → DV C.K W H y dy → Abs C.K W s H → Good (h dx dy s) (Po C.K W H Q) → r' x y H Q)
    (er : ER C W H σ ρ) (A : Abs C.K W s H) (G : Good (chn g h ma mb mc ρ s) (Po C.K W H Q)) : tChain r r' t u v σ H Q := by
  refine ha σ H W s ρ _ er A (G.bnd.mono fun dx s1 z1 W1 H1 x e1 r1 A1 => ?_)
  refine hb σ H1 W1 s1 ρ _ (er.up e1) A1 (z1.bnd.mono fun dy s2 z2 W2 H2 y e2 r2 A2 => ?_)
  refine h1 W2 s2 H2 x y dx dy _ (r1.up e2) r2 A2 (z2.bnd.mono fun c s3 z3 W3 H3 z e3 r3 A3 => ?_)
  cases c with
  | obj n => exact z3.elim
  | p c =>
    cases r3 with
    | bl c =>
      refine ⟨c, rfl, ?_⟩
      cases c with
      | true =>
        refine iteT (hc σ H3 W3 s3 ρ _ (er.up (e1.trans (e2.trans e3))) A3 (z3.bnd.mono fun dz s4 z4 W4 H4 y' e4 r4 A4 => ?_))
        exact h2 W4 s4 H4 y y' dy dz Q (r2.up (e3.trans e4)) r4 A4 (z4.mono fun _ _ q => q.up (e1.trans (e2.trans (e3.trans e4))))
      | false => exact iteF (z3 W3 H3 _ (e1.trans (e2.trans e3)) (.bl false) A3)
    | _ => exact z3.elim
/-- a value that must be a truth -/
def tB (m : EF) : TF := fun ρ => bnd (m ρ) fun d => match d with
  | .p (.bl b) => ret b
  | _ => bad
theorem tB_go {t : TE} {σ : L2.St} {H : Hp} {W : Wd} {s : S} {ρ : En} {Q : Bool → Hp → Prop}
    (ha : ∀ σ H W s ρ Q, ER C W H σ ρ → Abs C.K W s H → Good (ma ρ s) (Po C.K W H Q) → t σ H Q) (er : ER C W H σ ρ) (A : Abs C.K W s H) (h : Good (tB ma ρ s) (PoT C.K W H Q)) : t σ H fun x H1 => ∃ c, x = .bl c ∧ Q c H1 := by
  refine ha σ H W s ρ _ er A (h.bnd.mono fun d s1 h1 W1 H1 x e1 r1 A1 => ?_)
  cases d with
  | obj n => exact h1.elim
  | p z =>
    cases z with
    | bl c =>
      cases r1
      exact ⟨c, rfl, h1 W1 H1 e1 A1⟩
    | _ => exact h1.elim
theorem t_cmp {op : CmpOp} {g : D → D → M D} (ho : OpS C k (compareOp op) g) (ha : SE C sc N k a ma) (hb : SE C sc N k b mb) (hm : behindInMarks op b = false := by first | exact nomark _ | rfl) : ST C sc N k (.Compare a [op] [b] pos) (tB (op2 g ma mb)) := fun X ok => by
  obtain ⟨r, h1, h2⟩ := ho X ok.toOkx
  obtain ⟨ta, pa, qa⟩ := ha X ok
  obtain ⟨tb, pb, qb⟩ := hb X ok
  exact ⟨_, pt_cmpR h1 pa pb hm, fun σ H W s ρ Q er A g => tB_go (t := tOp r ta tb) (fun σ H W s ρ Q er A g => two qa qb er A g fun W' H' s' x y dx dy e rx ry A' g' => h2 W' s' H' x y dx dy Q rx ry A' g') er A g⟩
theorem t_chain {op op' : CmpOp} {g h : D → D → M D} {c : Expr} {mc : EF} (ho : OpS C k (compareOp op) g) (ho' : OpS C k (compareOp op') h) (ha : SE C sc N k a ma) (hb : SE C sc N k b mb) (hc : SE C sc N k c mc)
    (hm : lastMarks [op, op'] [b, c] = false := by with_unfolding_all rfl) : ST C sc N k (.Compare a [op, op'] [b, c] pos) (tB (chn g h ma mb mc)) := fun X ok => by
  obtain ⟨r, h1, h2⟩ := ho X ok.toOkx
  obtain ⟨r', h1', h2'⟩ := ho' X ok.toOkx
  obtain ⟨ta, pa, qa⟩ := ha X ok
  obtain ⟨tb, pb, qb⟩ := hb X ok
  obtain ⟨tc, pc, qc⟩ := hc X ok
  exact ⟨_, pt_chain h1 h1' pa pb pc hm, fun σ H W s ρ Q er A g => tB_go (t := tChain r r' ta tb tc) (fun σ H W s ρ Q er A g => chn_go qa qb qc h2 h2' er A g) er A g⟩
/-- the truth of a value -/
def truD : D → M Bool
  | .p .non => ret false
  | .p (.bl b) => ret b
  | .p (.int i) => ret (i != 0)
  | .p (.lst xs) => ret (!xs.isEmpty)
  | .p (.con xs) => ret (!xs.isEmpty)
  | .p (.tup xs) => ret (!xs.isEmpty)
  | .p (.str x) => fun s => if x.length ≤ sizeLine then .ok ((x.length : Int) != 0) s else .bad
  | .obj n => fun s => match s[n]? with
    | some (some (.lst xs)) => .ok (!xs.isEmpty) s
    | some (some (.dic kvs)) => .ok (!kvs.isEmpty) s
    | _ => .bad
  | _ => bad
def tT (m : EF) : TF := fun ρ => bnd (m ρ) truD
theorem PVs.emp {K : PySem.W.Frag} {F : Addr → Prop} {H : Hp} {vs : List V} {xs : List P} (h : PVs K F H vs xs) : (!vs.isEmpty) = !xs.isEmpty := by
  cases h <;> rfl
theorem Paired.emp {α β : Type} {f : α → β → Prop} {vs : List α} {xs : List β} (h : Paired f vs xs) : (!vs.isEmpty) = !xs.isEmpty := by
  cases h <;> rfl
theorem tT_go {t : TE} {σ : L2.St} {H : Hp} {W : Wd} {s : S} {ρ : En} {Q : Bool → Hp → Prop}
    (ha : ∀ σ H W s ρ Q, ER C W H σ ρ → Abs C.K W s H → Good (ma ρ s) (Po C.K W H Q) → t σ H Q) (er : ER C W H σ ρ) (A : Abs C.K W s H) (h : Good (tT ma ρ s) (PoT C.K W H Q)) : t σ H fun x H1 => ∃ c, TruV C.K x H1 c ∧ Q c H1 := by
  refine ha σ H W s ρ _ er A (h.bnd.mono fun d s1 h1 W1 H1 x e1 r1 A1 => ?_)
  cases d with
  | obj n =>
    obtain ⟨a, h4, rfl⟩ := r1
    unfold truD at h1
    dsimp only at h1
    split at h1
    · rename_i xs hs
      obtain ⟨a', h5, _, vs, h6, h7⟩ := A1.ob n _ hs
      rw [h4] at h5
      cases h5
      exact ⟨_, Or.inl ⟨vs, SqL.of h6, rfl⟩, by rw [h7.emp]; exact h1 W1 H1 e1 A1⟩
    · rename_i kvs hs
      obtain ⟨a', h5, _, vs, h6, h7⟩ := A1.ob n _ hs
      rw [h4] at h5
      cases h5
      exact ⟨_, Or.inr (Or.inr ⟨vs, h6, rfl⟩), by rw [Paired.emp h7]; exact h1 W1 H1 e1 A1⟩
    · exact h1.elim
  | p z =>
    cases r1 with
    | non => exact ⟨_, rfl, h1 W1 H1 e1 A1⟩
    | bl c => exact ⟨_, rfl, h1 W1 H1 e1 A1⟩
    | int c => exact ⟨_, rfl, h1 W1 H1 e1 A1⟩
    | str c =>
      unfold truD at h1
      dsimp only at h1
      split at h1
      · rename_i hl
        exact ⟨_, ⟨hl, rfl⟩, h1 W1 H1 e1 A1⟩
      · exact h1.elim
    | ty c => exact h1.elim
    | ref c => exact h1.elim
    | emp _ _ => exact h1.elim
    | exn _ _ _ _ => exact h1.elim
    | exf _ _ _ _ _ _ => exact h1.elim
    | cls _ => exact h1.elim
    | lam _ _ => exact h1.elim
    | dct _ _ _ => exact h1.elim
    | tup hq hr => exact ⟨_, Or.inr (Or.inl ⟨_, hq, rfl⟩), by rw [hr.emp]; exact h1 W1 H1 e1 A1⟩
    | lst hf hq hr => exact ⟨_, Or.inl ⟨_, SqL.of hq, rfl⟩, by rw [hr.emp]; exact h1 W1 H1 e1 A1⟩
    | con hq hr => exact ⟨_, Or.inl ⟨_, hq.sql, rfl⟩, by rw [hr.emp]; exact h1 W1 H1 e1 A1⟩
theorem t_val (ha : SE C sc N k a ma) (he : ∀ (env : Env) whole, isTrue a env whole = (do let v ← whole; standAt a.pos; holding [v] (truthy v)) := by intro _ _; rfl) : ST C sc N k a (tT ma) := fun X ok => by
  obtain ⟨ta, pa, qa⟩ := ha X ok
  refine ⟨_, pt_truth pa (he X.env), fun σ H W s ρ Q er A g => ?_⟩
  rw [ok.eK]
  exact tT_go qa er A g
def andT (ma mb : TF) : TF := fun ρ => bnd (ma ρ) fun c => if c = true then mb ρ else ret false
def orT (ma mb : TF) : TF := fun ρ => bnd (ma ρ) fun c => if c = true then ret true else mb ρ
def notT (ma : TF) : TF := fun ρ => bnd (ma ρ) fun c => ret (!c)
section
variable {ta tb : TF} {rest : List Expr}
theorem w_and1 (ha : ST C sc N k a ta) : SW C sc N k (.BoolOp .And [a] pos) ta := fun X ok => by
  obtain ⟨t, p, q⟩ := ha X ok
  exact ⟨_, pw_and1 p, q⟩
theorem w_or1 (ha : ST C sc N k a ta) : SW C sc N k (.BoolOp .Or [a] pos) ta := fun X ok => by
  obtain ⟨t, p, q⟩ := ha X ok
  exact ⟨_, pw_or1 p, q⟩
theorem w_and (ha : ST C sc N k a ta) (hb : SW C sc N k (.BoolOp .And (b :: rest) pos) tb) : SW C sc N k (.BoolOp .And (a :: b :: rest) pos) (andT ta tb) := fun X ok => by
  obtain ⟨t, p, q⟩ := ha X ok
  obtain ⟨u, p', q'⟩ := hb X ok
  refine ⟨_, pw_and p p', fun σ H W s ρ Q er A g => ?_⟩
  refine q σ H W s ρ _ er A (g.bnd.mono fun c s1 h1 W1 H1 e1 A1 => ?_)
  cases c with
  | true => exact iteT (q' σ H1 W1 s1 ρ Q (er.up e1) A1 (Good.mono h1 fun _ _ z => z.up e1))
  | false => exact iteF (h1 W1 H1 e1 A1)
theorem w_or (ha : ST C sc N k a ta) (hb : SW C sc N k (.BoolOp .Or (b :: rest) pos) tb) : SW C sc N k (.BoolOp .Or (a :: b :: rest) pos) (orT ta tb) := fun X ok => by
  obtain ⟨t, p, q⟩ := ha X ok
  obtain ⟨u, p', q'⟩ := hb X ok
  refine ⟨_, pw_or p p', fun σ H W s ρ Q er A g => ?_⟩
  refine q σ H W s ρ _ er A (g.bnd.mono fun c s1 h1 W1 H1 e1 A1 => ?_)
  cases c with
  | true => exact iteT (h1 W1 H1 e1 A1)
  | false => exact iteF (q' σ H1 W1 s1 ρ Q (er.up e1) A1 (Good.mono h1 fun _ _ z => z.up e1))
theorem t_w (h : SW C sc N k a ta) : ST C sc N k a ta := fun X ok => by
  obtain ⟨t, p, q⟩ := h X ok
  exact ⟨_, p.pt, q⟩
theorem t_not (ha : ST C sc N k a ta) : ST C sc N k (.UnaryOp .Not a pos) (notT ta) := fun X ok => by
  obtain ⟨t, p, q⟩ := ha X ok
  refine ⟨_, pt_not p, fun σ H W s ρ Q er A g => ?_⟩
  exact q σ H W s ρ _ er A (g.bnd.mono fun c s1 h1 W1 H1 e1 A1 => h1 W1 H1 e1 A1)
def ifE (t : TF) (ma mb : EF) : EF := fun ρ => bnd (t ρ) fun c => if c = true then ma ρ else mb ρ
theorem s_if {c : Expr} (hc : ST C sc N k c ta) (ha : SE C sc N k a ma) (hb : SE C sc N k b mb) : SE C sc N k (.IfExp c a b pos) (ifE ta ma mb) := fun X ok => by
  obtain ⟨t, p, q⟩ := hc X ok
  obtain ⟨u, p', q'⟩ := ha X ok
  obtain ⟨v, p2, q2⟩ := hb X ok
  refine ⟨_, pe_ifExp p p' p2, fun σ H W s ρ Q er A g => ?_⟩
  refine q σ H W s ρ _ er A (g.bnd.mono fun c s1 h1 W1 H1 e1 A1 => ?_)
  cases c with
  | true => exact iteT (q' σ H1 W1 s1 ρ Q (er.up e1) A1 (Good.mono h1 fun _ _ z => z.up e1))
  | false => exact iteF (q2 σ H1 W1 s1 ρ Q (er.up e1) A1 (Good.mono h1 fun _ _ z => z.up e1))
def andE (ma mb : EF) : EF := fun ρ => bnd (ma ρ) fun d => match d with
  | .p (.bl c) => if c = true then mb ρ else ret (.p (.bl false))
  | _ => bad
def orE (ma mb : EF) : EF := fun ρ => bnd (ma ρ) fun d => match d with
  | .p (.bl c) => if c = true then ret (.p (.bl true)) else mb ρ
  | _ => bad
def notE (ma : EF) : EF := fun ρ => bnd (ma ρ) fun d => match d with
  | .p (.bl c) => ret (.p (.bl (!c)))
  | _ => bad
theorem s_one {op} (ha : SE C sc N k a ma) : SE C sc N k (.BoolOp op [a] pos) ma := fun X ok => by
  obtain ⟨t, p, q⟩ := ha X ok
  exact ⟨_, pe_one p, q⟩
theorem s_and (ha : SE C sc N k a ma) (hb : SE C sc N k (.BoolOp .And (b :: rest) pos) mb) : SE C sc N k (.BoolOp .And (a :: b :: rest) pos) (andE ma mb) := fun X ok => by
  obtain ⟨t, p, q⟩ := ha X ok
  obtain ⟨u, p', q'⟩ := hb X ok
  refine ⟨_, pe_and p p', fun σ H W s ρ Q er A g => ?_⟩
  refine q σ H W s ρ _ er A (g.bnd.mono fun c s1 h1 W1 H1 x e1 r1 A1 => ?_)
  cases c with
  | obj n => exact h1.elim
  | p z =>
    cases r1 with
    | bl c =>
      refine ⟨c, rfl, ?_⟩
      cases c with
      | true => exact iteT (q' σ H1 W1 s1 ρ Q (er.up e1) A1 (Good.mono h1 fun _ _ z => z.up e1))
      | false => exact iteF (h1 W1 H1 _ e1 (.bl false) A1)
    | _ => exact h1.elim
theorem s_or (ha : SE C sc N k a ma) (hb : SE C sc N k (.BoolOp .Or (b :: rest) pos) mb) : SE C sc N k (.BoolOp .Or (a :: b :: rest) pos) (orE ma mb) := fun X ok => by
  obtain ⟨t, p, q⟩ := ha X ok
  obtain ⟨u, p', q'⟩ := hb X ok
  refine ⟨_, pe_or p p', fun σ H W s ρ Q er A g => ?_⟩
  refine q σ H W s ρ _ er A (g.bnd.mono fun c s1 h1 W1 H1 x e1 r1 A1 => ?_)
  cases c with
  | obj n => exact h1.elim
  | p z =>
    cases r1 with
    | bl c =>
      refine ⟨c, rfl, ?_⟩
      cases c with
      | true => exact iteT (h1 W1 H1 _ e1 (.bl true) A1)
      | false => exact iteF (q' σ H1 W1 s1 ρ Q (er.up e1) A1 (Good.mono h1 fun _ _ z => z.up e1))
    | _ => exact h1.elim
theorem s_not (ha : SE C sc N k a ma) : SE C sc N k (.UnaryOp .Not a pos) (notE ma) := fun X ok => by
  obtain ⟨t, p, q⟩ := ha X ok
  refine ⟨_, pe_not p, fun σ H W s ρ Q er A g => ?_⟩
  refine q σ H W s ρ _ er A (g.bnd.mono fun c s1 h1 W1 H1 x e1 r1 A1 => ?_)
  cases c with
  | obj n => exact h1.elim
  | p z =>
    cases r1 with
    | bl c => exact ⟨c, rfl, h1 W1 H1 _ e1 (.bl _) A1⟩
    | _ => exact h1.elim
end
def negD : D → M D
  | .p (.int i) => ret (.p (.int (-i)))
  | _ => bad
def op1 (g : D → M D) (ma : EF) : EF := fun ρ => bnd (ma ρ) g
theorem s_neg (ha : SE C sc N k a ma) : SE C sc N k (.UnaryOp .USub a pos) (op1 negD ma) := fun X ok => by
  obtain ⟨t, p, q⟩ := ha X ok
  refine ⟨_, pe_un un_neg p, fun σ H W s ρ Q er A g => ?_⟩
  refine q σ H W s ρ _ er A (g.bnd.mono fun c s1 h1 W1 H1 x e1 r1 A1 => ?_)
  cases c with
  | obj n => exact h1.elim
  | p z =>
    cases r1 with
    | int c => exact ⟨c, rfl, h1 W1 H1 _ e1 (.int _) A1⟩
    | _ => exact h1.elim
def evA : List EF → AF
  | [] => fun _ s => .ok [] s
  | m :: r => fun ρ => bnd (m ρ) fun d => bnd (evA r ρ) fun ds => ret (d :: ds)
theorem evA_len : ∀ (ms : List EF) {ρ : En} {s s' : S} {ds : List D}, evA ms ρ s = .ok ds s' → ds.length = ms.length
  | [], ρ, s, s', ds, h => by
    unfold evA at h
    cases h
    rfl
  | m :: r, ρ, s, s', ds, h => by
    simp only [evA, bnd] at h
    cases h1 : m ρ s with
    | bad =>
      rw [h1] at h
      cases h
    | exn _ _ =>
      rw [h1] at h
      cases h
    | ok d s1 =>
      rw [h1] at h
      simp only at h
      cases h2 : evA r ρ s1 with
      | bad =>
        rw [h2] at h
        cases h
      | exn _ _ =>
        rw [h2] at h
        cases h
      | ok es s2 =>
        rw [h2] at h
        cases h
        exact congrArg (· + 1) (evA_len r h2)
theorem Good.len {ms : List EF} {ρ : En} {s : S} {Q : List D → S → Prop} (h : Good (evA ms ρ s) Q) : Good (evA ms ρ s) fun ds s' => ds.length = ms.length ∧ Q ds s' := by
  cases e : evA ms ρ s with
  | ok ds s' =>
    rw [e] at h
    exact ⟨evA_len ms e, h⟩
  | bad =>
    rw [e] at h
    exact h
  | exn _ _ =>
    rw [e] at h
    exact h
abbrev SAs (C : Cf) (sc : Scope) (N : List Str) (k : Nat) (es : List Expr) (ms : List EF) : Prop := SA C sc N k es (evA ms)
theorem a_nil : SAs C sc N k [] [] := fun X ok => ⟨_, pa_nil, fun σ H W s ρ Q er A g => g W H [] Ev.rfl .nil A⟩
theorem a_cons {es : List Expr} {r : List EF} (ha : SE C sc N k a ma) (hr : SAs C sc N k es r) (he : ∀ env, starEach (a :: es) env = (false, eval a env) :: starEach es env := by intro _; rfl) : SAs C sc N k (a :: es) (ma :: r) := fun X ok => by
  obtain ⟨t, p, q⟩ := ha X ok
  obtain ⟨u, p', q'⟩ := hr X ok
  refine ⟨_, pa_cons p p' (he X.env), fun σ H W s ρ Q er A g => ?_⟩
  refine q σ H W s ρ _ er A ((Good.bnd g).mono fun d s1 h1 W1 H1 x e1 r1 A1 => ?_)
  refine q' σ H1 W1 s1 ρ _ (er.up e1) A1 ((Good.bnd h1).mono fun ds s2 h2 W2 H2 xs e2 r2 A2 => ?_)
  exact h2 W2 H2 (x :: xs) (e1.trans e2) (.cons (r1.up e2) r2) A2
end
end CW
end
section
set_option maxRecDepth 100000
set_option maxHeartbeats 2000000
namespace CW
open PySem PySem.Spec PyProof.Rows L2
def plain : List D → Option (List P)
  | [] => some []
  | .p x :: r => (plain r).map (x :: ·)
  | .obj _ :: _ => none
theorem plain_eq : ∀ {ds : List D} {xs : List P}, plain ds = some xs → ds = xs.map D.p
  | [], xs, h => by
    cases h
    rfl
  | .p x :: r, xs, h => by
    unfold plain at h
    cases e : plain r with
    | none =>
      rw [e] at h
      cases h
    | some ys =>
      rw [e] at h
      have h' := Option.some.inj h
      subst h'
      rw [plain_eq e]
      rfl
  | .obj _ :: _, xs, h => by cases h
section
variable {C : Cf} {sc : Scope} {N : List Str} {k : Nat} {pos : Pos} {e a b : Expr} {m ma mb : EF} {es : List Expr} {ms : List EF}
def tupE (ms : List EF) : EF := fun ρ => bnd (evA ms ρ) fun ds s => match plain ds with
  | some xs => .ok (.p (.tup xs)) s
  | none => .bad
theorem s_tup {x1} (h : SAs C sc N k es ms) (hl : ms.length ≤ sizeLine := by decide) : SE C sc N k (.Tuple es x1 pos) (tupE ms) := fun X ok => by
  obtain ⟨t, p, q⟩ := h X ok
  refine ⟨_, pe_tup p, fun σ H W s ρ Q er A g => ?_⟩
  refine q σ H W s ρ _ er A (g.bnd.len.mono fun ds s1 ⟨z, h1⟩ W1 H1 vs e1 r1 A1 => ?_)
  split at h1
  · rename_i xs hx
    have hx' := plain_eq hx
    subst hx'
    refine ⟨by rw [Paired.length r1, z]; exact hl, fun o ho => ?_⟩
    have r2 : PVs C.K W1.fr (upd H1 o (.tup vs)) vs xs := PVs.up (Ev.new ho) (DVs.plain r1)
    exact h1 W1 _ _ (e1.trans (Ev.new ho)) (PV.tup (SqT.of upd_same) r2) (A1.new ho)
  · exact h1.elim
/-- a list that will not be changed -/
def lstE (ms : List EF) : EF := fun ρ => bnd (evA ms ρ) fun ds s => match plain ds with
  | some xs => .ok (.p (.lst xs)) s
  | none => .bad
theorem keep_go {W W1 : Wd} {H H1 : Hp} {s : S} {xs : List P} {vs : List V} {Q : VK} {o : Addr} (e : Ev W H W1 H1) (A : Abs C.K W1 s H1) (r : PVs C.K W1.fr H1 vs xs) (g : Po C.K W H Q (.p (.lst xs)) s) (ho : H1 o = none) : Q (.ref o) (upd H1 o (.lst vs)) := by
  have ev : Ev W1 H1 (W1.keep o) (upd H1 o (.lst vs)) := Ev.keep ho
  exact g _ _ _ (e.trans ev) (PV.lst (Or.inr rfl) upd_same (PVs.up ev r)) (A.keep ho)
theorem s_lst (h : SAs C sc N k es ms) (hl : ms.length ≤ sizeLine := by decide) : SE C sc N k (.List es pos) (lstE ms) := fun X ok => by
  obtain ⟨t, p, q⟩ := h X ok
  refine ⟨_, pe_lst p, fun σ H W s ρ Q er A g => ?_⟩
  refine q σ H W s ρ _ er A (g.bnd.len.mono fun ds s1 ⟨z, h1⟩ W1 H1 vs e1 r1 A1 => ?_)
  split at h1
  · rename_i xs hx
    have hx' := plain_eq hx
    subst hx'
    exact ⟨by rw [Paired.length r1, z]; exact hl, fun o ho => keep_go e1 A1 (DVs.plain r1) h1 ho⟩
  · exact h1.elim
/-- a list that may be changed -/
def newL (xs : List P) : M D := fun s => .ok (.obj s.length) (s ++ [some (.lst xs)])
def lsoE (ms : List EF) : EF := fun ρ => bnd (evA ms ρ) fun ds s => match plain ds with
  | some xs => newL xs s
  | none => .bad
theorem new_go {W W1 : Wd} {H H1 : Hp} {s : S} {xs : List P} {vs : List V} {Q : VK} {o : Addr} (e : Ev W H W1 H1) (A : Abs C.K W1 s H1) (r : PVs C.K W1.fr H1 vs xs) (g : Good (newL xs s) (Po C.K W H Q)) (ho : H1 o = none) : Q (.ref o) (upd H1 o (.lst vs)) := by
  have ev : Ev W1 H1 (W1.add o) (upd H1 o (.lst vs)) := Ev.add ho
  exact g _ _ _ (e.trans ev) ⟨o, A.nobj ho, rfl⟩ (A.add ho ⟨vs, upd_same, PVs.up ev r⟩)
theorem s_lso (h : SAs C sc N k es ms) (hl : ms.length ≤ sizeLine := by decide) : SE C sc N k (.List es pos) (lsoE ms) := fun X ok => by
  obtain ⟨t, p, q⟩ := h X ok
  refine ⟨_, pe_lst p, fun σ H W s ρ Q er A g => ?_⟩
  refine q σ H W s ρ _ er A (g.bnd.len.mono fun ds s1 ⟨z, h1⟩ W1 H1 vs e1 r1 A1 => ?_)
  split at h1
  · rename_i xs hx
    have hx' := plain_eq hx
    subst hx'
    exact ⟨by rw [Paired.length r1, z]; exact hl, fun o ho => new_go e1 A1 (DVs.plain r1) h1 ho⟩
  · exact h1.elim
/-- the items of a list, changing or not -/
def its : D → S → Option (List P)
  | .p (.lst xs), _ => some xs
  | .p (.con xs), _ => some xs
  | .obj n, s => match s[n]? with
    | some (some (.lst xs)) => some xs
    | _ => none
  | _, _ => none
/-- .. of a list of our own -/
def itm : D → S → Option (List P)
  | .p (.lst xs), _ => some xs
  | .obj n, s => match s[n]? with
    | some (some (.lst xs)) => some xs
    | _ => none
  | _, _ => none
theorem itm_at {W : Wd} {H : Hp} {s : S} {v : V} {d : D} {xs : List P} (r : DV C.K W H v d) (A : Abs C.K W s H) (h : itm d s = some xs) : ∃ a vs, v = .ref a ∧ H a = some (.lst vs) ∧ PVs C.K W.fr H vs xs := by
  cases d with
  | obj n =>
    unfold itm at h
    dsimp only at h
    split at h
    · rename_i ys hs
      cases h
      obtain ⟨a, h1, _, vs, h2, h3⟩ := A.ob n _ hs
      obtain ⟨a', h4, rfl⟩ := r
      rw [h1] at h4
      cases h4
      exact ⟨a, vs, rfl, h2, h3⟩
    · cases h
  | p z =>
    cases r with
    | lst hf hq hr =>
      cases h
      exact ⟨_, _, rfl, hq, hr⟩
    | _ => cases h
theorem its_sq {W : Wd} {H : Hp} {s : S} {v : V} {d : D} {xs : List P} (r : DV C.K W H v d) (A : Abs C.K W s H) (h : its d s = some xs) : ∃ a vs, v = .ref a ∧ SqL C.K H a vs ∧ PVs C.K W.fr H vs xs := by
  cases d with
  | obj n =>
    unfold its at h
    dsimp only at h
    split at h
    · rename_i ys hs
      cases h
      obtain ⟨a, h1, _, vs, h2, h3⟩ := A.ob n _ hs
      obtain ⟨a', h4, rfl⟩ := r
      rw [h1] at h4
      cases h4
      exact ⟨a, vs, rfl, SqL.of h2, h3⟩
    · cases h
  | p z =>
    cases r with
    | lst hf hq hr =>
      cases h
      exact ⟨_, _, rfl, SqL.of hq, hr⟩
    | con hq hr =>
      cases h
      exact ⟨_, _, rfl, hq.sql, hr⟩
    | _ => cases h
theorem PVs.atI {K : PySem.W.Frag} {F : Addr → Prop} {H : Hp} {vs : List V} {xs : List P} {i : Int} {x : P} (h : PVs K F H vs xs) (e : L2.atI xs i = some x) : ∃ v, L2.atI vs i = some v ∧ PV K F H v x := by
  unfold L2.atI at e ⊢
  rw [h.len]
  cases hj : ixN xs.length i with
  | none =>
    rw [hj] at e
    cases e
  | some j =>
    rw [hj] at e
    exact h.get e
/-- list, tuple or text by an index -/
def ixD (x y : D) : M D := fun s => match y with
  | .p (.int i) => match x with
    | .p (.tup xs) => match L2.atI xs i with
      | some z => .ok (.p z) s
      | none => .bad
    | .p (.str z) => match L2.atI z.cps.toList i with
      | some c => if z.length ≤ sizeLine then .ok (.p (.str ⟨#[c]⟩)) s else .bad
      | none => .bad
    | x => match its x s with
      | some xs => match L2.atI xs i with
        | some z => .ok (.p z) s
        | none => .bad
      | none => .bad
  | _ => .bad
theorem ixD_go {W : Wd} {H : Hp} {s : S} {x y : V} {dx dy : D} {Q : VK} (rx : DV C.K W H x dx) (ry : DV C.K W H y dy) (A : Abs C.K W s H) (g : Good (ixD dx dy s) (Po C.K W H Q)) : rIx C.K x y H Q := by
  unfold ixD at g
  split at g
  · rename_i i
    cases ry
    split at g
    · rename_i xs
      split at g
      · rename_i z hz
        cases rx with
        | tup hq hr =>
          obtain ⟨v, h1, h2⟩ := hr.atI hz
          exact Or.inr (Or.inl ⟨_, _, _, _, rfl, rfl, hq, h1, g W H v Ev.rfl h2 A⟩)
      · exact g.elim
    · rename_i z
      split at g
      · rename_i c hc
        split at g
        · rename_i hl
          cases rx
          exact Or.inr (Or.inr ⟨z, i, c, rfl, rfl, hl, hc, g W H _ Ev.rfl (PV.str _) A⟩)
        · exact g.elim
      · exact g.elim
    · split at g
      · rename_i xs hx
        split at g
        · rename_i z hz
          obtain ⟨a, vs, rfl, hq, hr⟩ := its_sq rx A hx
          obtain ⟨v, h1, h2⟩ := hr.atI hz
          exact Or.inl ⟨_, _, _, _, rfl, rfl, hq, h1, g W H v Ev.rfl h2 A⟩
        · exact g.elim
      · exact g.elim
  · exact g.elim
theorem s_ix (ha : SE C sc N k a ma) (hb : SE C sc N k b mb) (hs : PlainIx b := by exact fun _ _ => rfl) : SE C sc N k (.Subscript a b pos) (op2 ixD ma mb) := fun X ok => by
  obtain ⟨ta, pa, qa⟩ := ha X ok
  obtain ⟨tb, pb, qb⟩ := hb X ok
  refine ⟨_, pe_ix ix_seq pa pb hs, fun σ H W s ρ Q er A g => ?_⟩
  rw [ok.eK]
  exact two qa qb er A g fun W' H' s' x y dx dy e rx ry A' g' => ixD_go rx ry A' g'
def keyD : D → Option Key
  | .p (.int i) => some (.inl i)
  | .p (.str x) => some (.inr x)
  | _ => none
def lookD (kvs : List (Key × D)) (q : Key) : Option D := (kvs.find? fun kv => decide (kv.1 = q)).map (·.2)
def putD (kvs : List (Key × D)) (q : Key) (v : D) : List (Key × D) :=
  if (kvs.any fun kv => decide (kv.1 = q)) = true then kvs.map (fun kv => if kv.1 = q then (kv.1, v) else kv) else kvs ++ [(q, v)]
def dctD : D → S → Option (List (Key × D))
  | .obj n, s => match s[n]? with
    | some (some (.dic kvs)) => some kvs
    | _ => none
  | _, _ => none
def dgetD (x y : D) : M D := fun s => match dctD x s, keyD y with
  | some kvs, some q => match lookD kvs q with
    | some d => .ok d s
    | none => .bad
  | _, _ => .bad
/-- {"a": x, ..} -/
def mkD (l : List (Key × D)) (acc : List (Key × D)) : List (Key × D) := l.foldl (fun acc kd => putD acc kd.1 kd.2) acc
def dicE (ks : List Str) (ms : List EF) : EF := fun ρ s => bnd (evA ms ρ) (fun ds s2 => match s2[s.length]? with
  | some (some (.dic [])) => .ok (.obj s.length) (s2.set s.length (some (.dic (mkD ((ks.map Sum.inr).zip ds) []))))
  | _ => .bad) (s ++ [some (.dic [])])
end
end CW
end
section
set_option maxRecDepth 100000
set_option maxHeartbeats 2000000
namespace CW
open PySem PySem.Spec PyProof.Rows L2
section
variable {C : Cf} {k : Nat}
def mulOk (i j : Int) : Prop := i.natAbs.log2 + j.natAbs.log2 < 1000000 ∨ i.natAbs < 2 ^ 64 ∨ j.natAbs < 2 ^ 64
instance (i j : Int) : Decidable (mulOk i j) := by unfold mulOk; exact inferInstance
theorem mulOk.ok {i j : Int} (h : mulOk i j) : IntMulOk i j := by
  rcases h with h | h | h
  · exact CMulW.ok h
  · exact .of_left (intBits_le_64 (by omega) (by omega))
  · exact .of_right (intBits_le_64 (by omega) (by omega))
def divOk (i j : Int) : Prop := j ≠ 0 ∧ Builtin.divisionGoesByPylong i j = false
instance (i j : Int) : Decidable (divOk i j) := by unfold divOk; exact inferInstance
def powOk (i j : Int) : Prop := 0 ≤ j ∧ j ≤ 1000000 ∧ i.natAbs < 2 ^ 64
instance (i j : Int) : Decidable (powOk i j) := by unfold powOk; exact inferInstance
/-- int and int -/
def ii (c : Int → Int → Bool) (g : Int → Int → P) (x y : D) : M D := fun s => match x, y with
  | .p (.int i), .p (.int j) => if c i j = true then .ok (.p (g i j)) s else .bad
  | _, _ => .bad
def yes : Int → Int → Bool := fun _ _ => true
theorem ii_go {W : Wd} {H : Hp} {s : S} {x y : V} {dx dy : D} {Q : D → S → Prop} {c : Int → Int → Bool} {g : Int → Int → P} (rx : DV C.K W H x dx) (ry : DV C.K W H y dy) (h : Good (ii c g dx dy s) Q) : ∃ i j, x = .int i ∧ y = .int j ∧ c i j = true ∧ Q (.p (g i j)) s := by
  unfold ii at h
  split at h
  · split at h
    · rename_i hc
      cases rx
      cases ry
      exact ⟨_, _, rfl, rfl, hc, h⟩
    · exact h.elim
  · exact h.elim
def subD := ii yes fun i j => .int (i - j)
def modD := ii (fun _ j => j != 0) fun i j => .int (i.fmod j)
def divD := ii (fun i j => decide (divOk i j)) fun i j => .int (i.fdiv j)
def powD := ii (fun i j => decide (powOk i j)) fun i j => .int (i ^ j.toNat)
def shlD := ii (fun i j => decide (powOk i j)) fun i j => .int (i * 2 ^ j.toNat)
def ltD := ii yes fun i j => .bl (decide (i < j))
def leD := ii yes fun i j => .bl (decide (i ≤ j))
def gtD := ii yes fun i j => .bl (decide (j < i))
def geD := ii yes fun i j => .bl (decide (j ≤ i))
theorem o_sub : OpS C k (binaryOp .Sub) subD := fun X ok => ⟨_, op_sub, fun W s H x y dx dy Q rx ry A g => by
  obtain ⟨i, j, rfl, rfl, _, q⟩ := ii_go rx ry g
  exact ⟨i, j, rfl, rfl, q W H _ Ev.rfl (PV.int _) A⟩⟩
theorem o_mod : OpS C k (binaryOp .Mod) modD := fun X ok => ⟨_, op_modN, fun W s H x y dx dy Q rx ry A g => by
  obtain ⟨i, j, rfl, rfl, c, q⟩ := ii_go rx ry g
  exact ⟨i, j, rfl, rfl, by simpa using c, q W H _ Ev.rfl (PV.int _) A⟩⟩
theorem o_div : OpS C k (binaryOp .FloorDiv) divD := fun X ok => ⟨_, (opI (C := divOk) (g := fun i j => i.fdiv j) fun i j _ _ _ _ _ hc q => floordiv_int hc.1 q (Or.inl hc.2)), fun W s H x y dx dy Q rx ry A g => by
  obtain ⟨i, j, rfl, rfl, c, q⟩ := ii_go rx ry g
  exact ⟨i, j, rfl, rfl, of_decide_eq_true c, q W H _ Ev.rfl (PV.int _) A⟩⟩
theorem o_pow : OpS C k (binaryOp .Pow) powD := fun X ok => ⟨_, op_pow, fun W s H x y dx dy Q rx ry A g => by
  obtain ⟨i, j, rfl, rfl, c, q⟩ := ii_go rx ry g
  have c2 : powOk i j := of_decide_eq_true c
  exact ⟨i, j, rfl, rfl, c2, q W H _ Ev.rfl (PV.int _) A⟩⟩
theorem o_shl : OpS C k (binaryOp .LShift) shlD := fun X ok => ⟨_, op_shl, fun W s H x y dx dy Q rx ry A g => by
  obtain ⟨i, j, rfl, rfl, c, q⟩ := ii_go rx ry g
  have c2 : powOk i j := of_decide_eq_true c
  exact ⟨i, j, rfl, rfl, c2, q W H _ Ev.rfl (PV.int _) A⟩⟩
theorem o_lt : OpS C k (compareOp .Lt) ltD := fun X ok => ⟨_, op_lt, fun W s H x y dx dy Q rx ry A g => by
  obtain ⟨i, j, rfl, rfl, c, q⟩ := ii_go rx ry g
  exact ⟨i, j, rfl, rfl, q W H _ Ev.rfl (PV.bl _) A⟩⟩
theorem o_le : OpS C k (compareOp .LtE) leD := fun X ok => ⟨_, op_le, fun W s H x y dx dy Q rx ry A g => by
  obtain ⟨i, j, rfl, rfl, c, q⟩ := ii_go rx ry g
  exact ⟨i, j, rfl, rfl, q W H _ Ev.rfl (PV.bl _) A⟩⟩
theorem o_gt : OpS C k (compareOp .Gt) gtD := fun X ok => ⟨_, op_gt, fun W s H x y dx dy Q rx ry A g => by
  obtain ⟨i, j, rfl, rfl, c, q⟩ := ii_go rx ry g
  exact ⟨i, j, rfl, rfl, q W H _ Ev.rfl (PV.bl _) A⟩⟩
theorem o_ge : OpS C k (compareOp .GtE) geD := fun X ok => ⟨_, op_ge, fun W s H x y dx dy Q rx ry A g => by
  obtain ⟨i, j, rfl, rfl, c, q⟩ := ii_go rx ry g
  exact ⟨i, j, rfl, rfl, q W H _ Ev.rfl (PV.bl _) A⟩⟩
/-- fr: the new list is plain (true) or may be changed (false) -/
def mkL (fr : Bool) (xs : List P) : M D := if fr = true then ret (.p (.lst xs)) else newL xs
theorem mkL_go {W W1 : Wd} {H H1 : Hp} {s : S} {fr : Bool} {xs : List P} {vs : List V} {Q : VK} {o : Addr} (e : Ev W H W1 H1) (A : Abs C.K W1 s H1) (r : PVs C.K W1.fr H1 vs xs) (g : Good (mkL fr xs s) (Po C.K W H Q)) (ho : H1 o = none) : Q (.ref o) (upd H1 o (.lst vs)) := by
  unfold mkL at g
  cases fr with
  | true => exact keep_go e A r (by rw [if_pos rfl] at g; exact g) ho
  | false => exact new_go e A r (by rw [if_neg Bool.false_ne_true] at g; exact g) ho
def addD (fr : Bool) (x y : D) : M D := fun s => match x, y with
  | .p (.int i), .p (.int j) => .ok (.p (.int (i + j))) s
  | .p (.str a), .p (.str b) => if a.length + b.length ≤ sizeLine then .ok (.p (.str (a ++ b))) s else .bad
  | .p (.tup xs), .p (.tup ys) => if xs.length + ys.length ≤ sizeLine then .ok (.p (.tup (xs ++ ys))) s else .bad
  | x, y => match its x s, its y s with
    | some xs, some ys => if xs.length + ys.length ≤ sizeLine then mkL fr (xs ++ ys) s else .bad
    | _, _ => .bad
/-- list + list, whatever lists they are -/
def rCatSq (K : PySem.W.Frag) : R2 := fun x y H Q => ∃ l b xs zs, x = .ref l ∧ y = .ref b ∧ SqL K H l xs ∧ SqL K H b zs ∧ xs.length + zs.length ≤ sizeLine ∧ ∀ p, H p = none → Q (.ref p) (upd H p (.lst (xs ++ zs)))
theorem op_catSq {X : Cx} : OpR X (binaryOp .Add) (rCatSq X.K) := by
  intro pins s σ H x y v u Q I rx ry h
  obtain ⟨l, b, xs, zs, rfl, rfl, hL, hB, hz, q⟩ := h
  cases rx
  cases ry
  obtain ⟨its1, r1, p1, z1⟩ := I.list hL
  obtain ⟨its2, r2, p2, z2⟩ := I.list hB
  obtain ⟨⟨cls, dd, data, sl⟩, ho, hc, n, hd⟩ := p1.isList
  obtain ⟨⟨cls2, dd2, data2, sl2⟩, ho2, hc2, n2, hd2⟩ := p2.isList
  simp only at hc hd hc2 hd2
  subst hc hd hc2 hd2
  have l1 := r1.length
  have l2 := r2.length
  refine concat_meets ⟨_, ho, rfl⟩ ⟨_, ho2, rfl⟩ noFill_list_add seq_list_add PySem.F.slot_list_add PySem.F.entry_list_add (PySem.F.args_list_add_2 _ _) (list_addW l b its1.toArray its2.toArray n n2 dd dd2 sl sl2 (by rw [List.size_toArray, List.size_toArray]; omega)) ⟨ho, ho2, ?_⟩
  have ea : its1.toArray ++ its2.toArray = (its1 ++ its2).toArray := by simp
  rw [ea]
  exact ⟨.ref _, _, I.lnew (t' := s.toks) (r1.append r2) (by rw [List.length_append]; omega), rfl, q _ I.fresh⟩
theorem o_add (fr : Bool) : OpS C k (binaryOp .Add) (addD fr) := fun X ok => by
  refine ⟨_, OpR.or op_add (OpR.or op_add_str (OpR.or (op_catA (X := X)) op_catSq)), fun W s H x y dx dy Q rx ry A g => ?_⟩
  rw [ok.eK]
  unfold addD at g
  split at g
  · cases rx
    cases ry
    exact Or.inl ⟨_, _, rfl, rfl, g W H _ Ev.rfl (PV.int _) A⟩
  · split at g
    · rename_i hl
      cases rx
      cases ry
      exact Or.inr (Or.inl ⟨_, _, rfl, rfl, hl, g W H _ Ev.rfl (PV.str _) A⟩)
    · exact g.elim
  · split at g
    · rename_i hl
      cases rx with
      | tup h1 h2 =>
        cases ry with
        | tup h3 h4 =>
          refine Or.inr (Or.inr (Or.inl ⟨_, _, _, _, rfl, rfl, h1, h3, by rw [h2.len, h4.len]; exact hl, fun z => ?_, fun _ z => ?_, fun _ z p hp => ?_⟩))
          · subst z
            cases h2
            exact g W H _ Ev.rfl (PV.tup h3 h4) A
          · subst z
            cases h4
            rename_i xs _ _
            exact g W H _ Ev.rfl (PV.tup h1 (by rw [List.append_nil]; exact h2)) A
          · exact g W _ _ (Ev.new hp) (PV.tup (SqT.of upd_same) (PVs.up (Ev.new hp) (h2.app h4))) (A.new hp)
    · exact g.elim
  · split at g
    · rename_i xs ys e1 e2
      split at g
      · rename_i hl
        obtain ⟨a, vs, rfl, h1, h2⟩ := its_sq rx A e1
        obtain ⟨b, us, rfl, h3, h4⟩ := its_sq ry A e2
        exact Or.inr (Or.inr (Or.inr ⟨a, b, vs, us, rfl, rfl, h1, h3, by rw [h2.len, h4.len]; exact hl, fun p hp => mkL_go Ev.rfl A (h2.app h4) g hp⟩))
      · exact g.elim
    · exact g.elim
theorem PVs.flat {K : PySem.W.Frag} {F : Addr → Prop} {H : Hp} {vs : List V} {xs : List P} (h : PVs K F H vs xs) : ∀ n, PVs K F H (List.replicate n vs).flatten (List.replicate n xs).flatten
  | 0 => .nil
  | n + 1 => by
    rw [List.replicate_succ, List.replicate_succ, List.flatten_cons, List.flatten_cons]
    exact h.app (PVs.flat h n)
def mulD (fr : Bool) (x y : D) : M D := fun s => match x, y with
  | .p (.int i), .p (.int j) => if mulOk i j then .ok (.p (.int (i * j))) s else .bad
  | .p (.tup xs), .p (.int n) => if xs ≠ [] ∧ 2 ≤ n ∧ n ≤ 1000 ∧ xs.length ≤ 1000 then .ok (.p (.tup (List.replicate n.toNat xs).flatten)) s else .bad
  | x, .p (.int n) => match itm x s with
    | some xs => if -(2 ^ 63) ≤ n ∧ n < 2 ^ 63 ∧ xs.length * n.toNat ≤ sizeLine then mkL fr (List.replicate n.toNat xs).flatten s else .bad
    | none => .bad
  | _, _ => .bad
theorem o_mul (fr : Bool) : OpS C k (binaryOp .Mult) (mulD fr) := fun X ok => by
  refine ⟨_, OpR.or (opI (C := mulOk) (g := fun i j => i * j) fun i j _ _ _ _ _ hc q => mul_int q hc.ok) (OpR.or op_rep (op_repT (X := X))), fun W s H x y dx dy Q rx ry A g => ?_⟩
  unfold mulD at g
  rw [ok.eK]
  split at g
  · split at g
    · rename_i hc
      cases rx
      cases ry
      exact Or.inl ⟨_, _, rfl, rfl, hc, g W H _ Ev.rfl (PV.int _) A⟩
    · exact g.elim
  · split at g
    · rename_i xs n hl
      cases rx with
      | tup h1 h2 =>
        cases ry
        refine Or.inr (Or.inr ⟨_, _, _, rfl, rfl, h1, fun z => ?_, hl.2.1, hl.2.2.1, by rw [h2.len]; exact hl.2.2.2, fun p hp => ?_⟩)
        · subst z
          cases h2
          exact hl.1 rfl
        · exact g W _ _ (Ev.new hp) (PV.tup (SqT.of upd_same) (PVs.up (Ev.new hp) (h2.flat _))) (A.new hp)
    · exact g.elim
  · split at g
    · rename_i xs e1
      split at g
      · rename_i hl
        obtain ⟨a, vs, rfl, h1, h2⟩ := itm_at rx A e1
        cases ry
        exact Or.inr (Or.inl ⟨a, _, vs, rfl, rfl, h1, hl.1, hl.2.1, by rw [h2.len]; exact hl.2.2, fun p hp => mkL_go Ev.rfl A (h2.flat _) g hp⟩)
      · exact g.elim
    · exact g.elim
  · exact g.elim
mutual
def toPy : P → Option PyData
  | .non => some .none
  | .bl b => some (.bool b)
  | .int i => some (.int i)
  | .str x => some (.str x)
  | .tup xs => (toPys xs).map .tuple
  | .lst xs => (toPys xs).map .list
  | .con xs => (toPys xs).map .list
  | .ty _ => none
  | .ref _ => none
  | .emp => none
  | .exn _ => none
  | .exf _ _ _ => none
  | .cls _ => none
  | .lam _ _ _ => none
  | .dct _ _ => none
def toPys : List P → Option (List PyData)
  | [] => some []
  | x :: r => match toPy x, toPys r with
    | some d, some ds => some (d :: ds)
    | _, _ => none
end
def toPyD : D → S → Option PyData
  | .p x, _ => toPy x
  | .obj n, s => match s[n]? with
    | some (some (.lst xs)) => (toPys xs).map .list
    | _ => none
mutual
theorem PV.dp {K : PySem.W.Frag} {F : Addr → Prop} {H : Hp} : ∀ {v : V} {x : P} {d : PyData}, PV K F H v x → toPy x = some d → Dp K H v d
  | _, _, _, .non, e => by
    cases e
    exact .non
  | _, _, _, .bl b, e => by
    cases e
    exact .bl b
  | _, _, _, .int b, e => by
    cases e
    exact .int b
  | _, _, _, .str b, e => by
    cases e
    exact .str b
  | _, _, _, .ty b, e => by cases e
  | _, _, _, .ref b, e => by cases e
  | _, _, _, .emp _ _, e => by cases e
  | _, _, _, .exn _ _ _ _, e => by cases e
  | _, _, _, .exf _ _ _ _ _ _, e => by cases e
  | _, _, _, .cls _, e => by cases e
  | _, _, _, .lam _ _, e => by cases e
  | _, _, _, .dct _ _ _, e => by cases e
  | _, _, d, .tup (xs := xs) h r, e => by
    unfold toPy at e
    cases q : toPys xs with
    | none =>
      rw [q] at e
      cases e
    | some ds =>
      rw [q] at e
      cases e
      exact .tup h (PVs.dp r q)
  | _, _, d, .lst (xs := xs) _ h r, e => by
    unfold toPy at e
    cases q : toPys xs with
    | none =>
      rw [q] at e
      cases e
    | some ds =>
      rw [q] at e
      cases e
      exact .lst (SqL.of h) (PVs.dp r q)
  | _, _, d, .con (xs := xs) h r, e => by
    unfold toPy at e
    cases q : toPys xs with
    | none =>
      rw [q] at e
      cases e
    | some ds =>
      rw [q] at e
      cases e
      exact .lst h.sql (PVs.dp r q)
theorem PVs.dp {K : PySem.W.Frag} {F : Addr → Prop} {H : Hp} : ∀ {vs : List V} {xs : List P} {ds : List PyData}, PVs K F H vs xs → toPys xs = some ds → DpAll K H vs ds
  | _, _, _, .nil, e => by
    unfold toPys at e
    cases e
    exact .nil
  | _, _, ds, .cons (x := x) (xs := xs) h r, e => by
    unfold toPys at e
    cases q1 : toPy x with
    | none =>
      rw [q1] at e
      cases e
    | some d =>
      cases q2 : toPys xs with
      | none =>
        rw [q1, q2] at e
        cases e
      | some es =>
        rw [q1, q2] at e
        cases e
        exact .cons (PV.dp h q1) (PVs.dp r q2)
end
theorem DV.dp {W : Wd} {H : Hp} {s : S} {v : V} {d : D} {z : PyData} (r : DV C.K W H v d) (A : Abs C.K W s H) (h : toPyD d s = some z) : Dp C.K H v z := by
  cases d with
  | p x => exact PV.dp r h
  | obj n =>
    unfold toPyD at h
    dsimp only at h
    split at h
    · rename_i xs hs
      obtain ⟨a, h1, _, vs, h2, h3⟩ := A.ob n _ hs
      obtain ⟨a', h4, rfl⟩ := r
      rw [h1] at h4
      cases h4
      cases q : toPys xs with
      | none =>
        rw [q] at h
        cases h
      | some ds =>
        rw [q] at h
        cases h
        exact .lst (SqL.of h2) (PVs.dp h3 q)
    · cases h
def eqD (neg : Bool) (x y : D) : M D := fun s => match toPyD x s, toPyD y s with
  | some d, some e => if SeqAt.shaped d = true ∧ SeqAt.shaped e = true then .ok (.p (.bl (if neg = true then !PyData.eqv d e else PyData.eqv d e))) s else .bad
  | _, _ => .bad
theorem u64 {X : Cx} (hr : Room k X.A) : X.A.units + 64 < cLine := by have := hr.un; omega
theorem o_eq : OpS C k (compareOp .Eq) (eqD false) := fun X ok => by
  refine ⟨_, op_eqD (u64 ok.rm), fun W s H x y dx dy Q rx ry A g => ?_⟩
  unfold eqD at g
  split at g
  · rename_i d e h1 h2
    split at g
    · rename_i hs
      rw [ok.eK]
      exact ⟨d, e, DV.dp rx A h1, DV.dp ry A h2, hs.1, hs.2, g W H _ Ev.rfl (PV.bl _) A⟩
    · exact g.elim
  · exact g.elim
theorem o_ne : OpS C k (compareOp .NotEq) (eqD true) := fun X ok => by
  refine ⟨_, op_neD (u64 ok.rm), fun W s H x y dx dy Q rx ry A g => ?_⟩
  unfold eqD at g
  split at g
  · rename_i d e h1 h2
    split at g
    · rename_i hs
      rw [ok.eK]
      exact ⟨d, e, DV.dp rx A h1, DV.dp ry A h2, hs.1, hs.2, g W H _ Ev.rfl (PV.bl _) A⟩
    · exact g.elim
  · exact g.elim
/-- is None -/
def isN (neg : Bool) (x y : D) : M D := fun s => match y with
  | .p .non => match x with
    | .p .non => .ok (.p (.bl (!neg))) s
    | _ => .ok (.p (.bl neg)) s
  | _ => .bad
theorem isN_go {neg : Bool} {W : Wd} {H : Hp} {s : S} {x y : V} {dx dy : D} {Q : VK} (rx : DV C.K W H x dx) (ry : DV C.K W H y dy) (A : Abs C.K W s H) (g : Good (isN neg dx dy s) (Po C.K W H Q)) : y = .non ∧ Q (.bl (if decide (x = .non) = true then !neg else neg)) H := by
  unfold isN at g
  split at g
  · cases ry
    refine ⟨rfl, ?_⟩
    split at g
    · cases rx
      exact g W H _ Ev.rfl (PV.bl _) A
    · rename_i hx
      have hne : x ≠ .non := fun z => by
        subst z
        cases dx with
        | obj n =>
          obtain ⟨a, _, e⟩ := rx
          cases e
        | p z =>
          cases rx
          exact hx rfl
      rw [decide_eq_false hne]
      exact g W H _ Ev.rfl (PV.bl _) A
  · exact g.elim
theorem o_is : OpS C k (compareOp .Is) (isN false) := fun X ok => ⟨_, op_isN, fun W s H x y dx dy Q rx ry A g => by
  obtain ⟨h1, h2⟩ := isN_go rx ry A g
  refine ⟨h1, ?_⟩
  by_cases e : x = .non
  · rw [decide_eq_true e] at h2 ⊢
    exact h2
  · rw [decide_eq_false e] at h2 ⊢
    exact h2⟩
theorem o_isnot : OpS C k (compareOp .IsNot) (isN true) := fun X ok => ⟨_, op_notN, fun W s H x y dx dy Q rx ry A g => by
  obtain ⟨h1, h2⟩ := isN_go rx ry A g
  refine ⟨h1, ?_⟩
  by_cases e : x = .non
  · rw [decide_eq_true e] at h2 ⊢
    exact h2
  · rw [decide_eq_false e] at h2 ⊢
    exact h2⟩
end
end CW
end
section
set_option maxRecDepth 100000
set_option maxHeartbeats 2000000
namespace CW
open PySem PySem.Spec PyProof.Rows L2
abbrev Dig (K : PySem.W.Frag) : Prop := PySem.W.nsIn K cStatics "sys.int_max_str_digits" = some none
mutual
/-- no dict, no whole number of more than 8000 bits -/
def wideP : PyData → Bool
  | .int i => decide (i.natAbs.log2 < 8000)
  | .list ds => wideL ds
  | .tuple ds => wideL ds
  | .dict _ => false
  | .none => true
  | .bool _ => true
  | .str _ => true
def wideL : List PyData → Bool
  | [] => true
  | d :: ds => wideP d && wideL ds
end
theorem wideL_all : ∀ {ds : List PyData}, (∀ d ∈ ds, wideP d = true) → wideL ds = true
  | [], _ => by simp [wideL]
  | d :: ds, h => by simp [wideL, h d List.mem_cons_self, wideL_all (ds := ds) fun x hx => h x (List.mem_cons_of_mem _ hx)]
section
variable {prog : Program} {w : World} {K : PySem.W.Frag} {h0 : Heap}
theorem dig_none {M : Model} {A : Around} {E : Value → Shared → Prop} {st : Shared} {i : Int} {Q : Option Nat → Shared → Prop} (kin : K.In h0) (dg : Dig K)
    (kp : ∀ b o, h0.get? b = some o → st.heap.get? b = some o) (hi : i.natAbs.log2 < 8000) (q : Q none st) : wpAny M A (Builtin.overDigitLimit? i) Q E st := by
  unfold Builtin.overDigitLimit?
  by_cases sm : i.natAbs.log2 < 1920
  · rw [if_pos sm]
    exact wpAny_pure q
  · rw [if_neg sm]
    unfold Builtin.intMaxStrDigits
    refine wpAny_bind (wpAny_bind (PySem.W.looks_nsIn kin dg A _ E st kp (wpAny_pure ?_)))
    dsimp only
    have few : ¬ (i.natAbs.log2 / 30 + 1 > 1000) := by omega
    have low : (4300 == 0 || decide (i.natAbs.log2 < 3 * 4300)) = true := by
      have : i.natAbs.log2 < 3 * 4300 := by omega
      simp [this]
    rw [if_neg few, if_pos low]
    exact wpAny_pure q
theorem int_txt {A : Around} {E : Value → Shared → Prop} {st : Shared} {i : Int} {t : Tok} {Q : Value → Shared → Prop} (kin : K.In h0) (dg : Dig K)
    (kp : ∀ b o, h0.get? b = some o → st.heap.get? b = some o) (hi : i.natAbs.log2 < 8000) (q : ∀ u k, Q (.str (toString i) u) { st with toks := k }) :
    wpAny (model prog w) A (call (.builtin "int.__repr__") [.int i t]) Q E st := by
  have hl : (Str.ofString (toString i)).length ≤ sizeLine := by
    have z := int_text_length_le (k := 8000) (by decide) hi
    rw [PySem.ofString_length, sizeLine_eq]
    omega
  apply wpAny_call_entry (hT := typeIs_int st i t) (h := F.slot_int_repr) (hb := F.entry_int_repr) (ha := F.args_int_repr_1 _)
  unfold Builtin.«int.__repr__»
  show wpAny _ _ (do let over ← Builtin.overDigitLimit? i; _) _ _ st
  exact wpAny_bind (dig_none kin dg kp hi (wpAny_bind (wpAny_mkStr (wpAny_pure ⟨_, rfl, q _ _⟩) hl)))
theorem reprK_int {bs : List Addr} {n : Nat} {i : Int} {t : Tok} (kin : K.In h0) (dg : Dig K) (hi : i.natAbs.log2 < 8000) : ReprK prog w bs h0 n (.int i t) (toString i) := by
  intro base hb A g E st Q _ _ hu kp q
  rw [pyReprUnder_leaf (Nat.le_trans (Nat.le_add_right _ _) hb) (by intro a z; cases z)]
  unfold pyRepr
  exact wpAny_bind (wpAny_pyReprObj_slot (Nat.lt_of_le_of_lt (Nat.le_add_right _ _) hu) (typeIs_int st i t) F.slot_int_repr.toG (int_txt kin dg kp hi fun u k => ⟨_, u, rfl, wpAny_pure (q st.heap k fun _ _ z => z)⟩))
mutual
theorem wideK (kin : K.In h0) (dg : Dig K) : ∀ {v : Value} {d : PyData} {bs : List Addr}, Reads h0 v d bs → wideP d = true → d.shown.length ≤ sizeLine → ∃ cs, ReadAtMost h0 d.depth cs ∧ ReprK prog w cs h0 d.depth v d.shown
  | _, _, _, .none, _, _ => by
    refine ⟨[], (fun _ z => nomatch z), ?_⟩
    simp only [PyData.shown]
    exact .of_is ReprIs.none _ _ _
  | _, _, _, .bool b, _, _ => by
    refine ⟨[], (fun _ z => nomatch z), ?_⟩
    simp only [PyData.shown]
    exact .of_is (ReprIs.bool b) _ _ _
  | _, _, _, .int i t, hw, _ => by
    refine ⟨[], (fun _ z => nomatch z), ?_⟩
    simp only [PyData.shown]
    exact reprK_int kin dg (by simpa [wideP] using hw)
  | _, _, _, .str x t, _, hz => by
    refine ⟨[], (fun _ z => nomatch z), ?_⟩
    simp only [PyData.shown] at hz ⊢
    exact .of_is (ReprIs.str x t hz) _ _ _
  | _, _, _, .list (a := p) (vs := ⟨us⟩) (xs := ds) o1 o2 o3 o4, hw, hz => by
    have len : (listText (PyData.shownAll ds)).length ≤ sizeLine := by simpa only [PyData.shown] using hz
    obtain ⟨cs, c1, c2⟩ := wideKs kin dg o4 (by simpa [wideP] using hw) fun t m => Nat.le_trans (listText_mem_le m) len
    have whole : Reads h0 (.ref p) (.list ds) _ := .list o1 o2 o3 o4
    have out : p ∉ cs := not_mem_of_deeper whole (by simp only [PyData.depth]; omega) c1
    refine ⟨p :: cs, ReadAtMost.cons whole (by simp only [PyData.depth]; omega) c1, ?_⟩
    simp only [PyData.depth, PyData.shown]
    match us, o3, o4, c2 with
    | [], o3, o4, _ =>
      have z : ds = [] := by
        have o4 : ReadsAll h0 [] ds _ := o4
        cases o4
        rfl
      subst z
      simp only [PyData.shownAll, listText_nil]
      exact ReprK.listEmpty o1 o2 o3
    | u :: us, o3, _, c2 => exact ReprK.list o1 o2 o3 out (by simpa using c2.length_eq) fun j y z => c2.item j y (by simpa using z)
  | _, _, _, .tuple (a := p) (xs := ds) o1 o2 o3 o4, hw, hz => by
    have len : (tupleText (PyData.shownAll ds)).length ≤ sizeLine := by simpa only [PyData.shown] using hz
    obtain ⟨cs, c1, c2⟩ := wideKs kin dg o4 (by simpa [wideP] using hw) fun t m => Nat.le_trans (tupleText_mem_le m) len
    have whole : Reads h0 (.ref p) (.tuple ds) _ := .tuple o1 o2 o3 o4
    have out : p ∉ cs := not_mem_of_deeper whole (by simp only [PyData.depth]; omega) c1
    refine ⟨p :: cs, ReadAtMost.cons whole (by simp only [PyData.depth]; omega) c1, ?_⟩
    simp only [PyData.depth, PyData.shown]
    exact ReprK.tuple o1 o2 o3 out c2
  | _, _, _, .dict _ _ _ _ _, hw, _ => by simp [wideP] at hw
theorem wideKs (kin : K.In h0) (dg : Dig K) : ∀ {us : List Value} {ds : List PyData} {bs : List Addr}, ReadsAll h0 us ds bs → wideL ds = true → (∀ t ∈ PyData.shownAll ds, t.length ≤ sizeLine) →
    ∃ cs, ReadAtMost h0 (PyData.depthAll ds) cs ∧ ReprAllK prog w cs h0 (PyData.depthAll ds) us (PyData.shownAll ds)
  | _, _, _, .nil, _, _ => by
    refine ⟨[], (fun _ z => nomatch z), ?_⟩
    simp only [PyData.shownAll]
    exact .nil
  | _, _, _, .cons (d := d) (ds := ds) r1 r2, hw, hz => by
    have hw' : wideP d = true ∧ wideL ds = true := by simpa [wideL] using hw
    obtain ⟨cs, c1, c2⟩ := wideK kin dg r1 hw'.1 (hz _ (by simp [PyData.shownAll]))
    obtain ⟨es, e1, e2⟩ := wideKs kin dg r2 hw'.2 fun t m => hz t (by simp [PyData.shownAll, m])
    refine ⟨cs ++ es, ?_, ?_⟩
    · simp only [PyData.depthAll]
      exact (c1.mono (Nat.le_max_left _ _)).append (e1.mono (Nat.le_max_right _ _))
    · simp only [PyData.depthAll, PyData.shownAll]
      refine .cons ?_ (e2.more_le (fun b m => List.mem_append_right cs m) (Nat.le_max_right _ _))
      exact (c2.more fun b m => List.mem_append_left es m).level_le (Nat.le_max_left _ _)
end
/-- repr(..) of a list or a tuple -/
theorem repr_wide {A : Around} {E : Value → Shared → Prop} {st : Shared} {Q : Value → Shared → Prop} {p : Addr} {d : PyData} {bs : List Addr} (kin : K.In st.heap) (dg : Dig K) (rd : Reads st.heap (.ref p) d bs) (hw : wideP d = true)
    (hz : d.shown.length ≤ sizeLine) (hg : A.guards = some []) (hu : A.units + (d.depth + 1) < cLine) (q : ∀ h1 u k, (∀ b o, st.heap.get? b = some o → h1.get? b = some o) → Q (.str d.shown u) { st with heap := h1, toks := k }) :
    wpAny (model prog w) A (call (.builtin "repr") [.ref p]) Q E st := by
  cases rd with
  | list o1 o2 o3 o4 =>
    rename_i o us n ds cs0
    obtain ⟨us⟩ := us
    have len : (listText (PyData.shownAll ds)).length ≤ sizeLine := by simpa only [PyData.shown] using hz
    obtain ⟨cs, c1, c2⟩ := wideKs (prog := prog) (w := w) kin dg o4 (by simpa [wideP] using hw) fun t m => Nat.le_trans (listText_mem_le m) len
    have out : p ∉ cs := not_mem_of_deeper (.list o1 o2 o3 o4) (by simp only [PyData.depth]; omega) c1
    simp only [PyData.depth] at hu
    simp only [PyData.shown] at q
    refine call_repr_slot (by omega) ⟨o, o1, o2⟩ F.slot_list_repr.toG ?_
    match us, o3, o4, c2 with
    | [], o3, o4, _ =>
      have z : ds = [] := by
        have o4 : ReadsAll st.heap [] ds _ := o4
        cases o4
        rfl
      subst z
      simp only [PyData.shownAll, listText_nil] at q
      exact call_list_repr_empty ⟨o, o1, o2⟩ o1 o3 ⟨_, _, rfl, q st.heap _ _ fun _ _ z => z⟩
    | u :: us, o3, _, c2 =>
      exact call_list_reprK o1 o2 o3 out (by simpa using c2.length_eq) (fun j y z => c2.item j y (by simpa using z)) (show A.in1.guards = some [] from hg) (fun b _ => Clear.nil b) (by show A.units + 1 + _ < cLine; omega) (fun _ _ z => z) (fun h1 u k kp => ⟨_, _, rfl, q h1 u k kp⟩) len
  | tuple o1 o2 o3 o4 =>
    rename_i o us n ds
    have len : (tupleText (PyData.shownAll ds)).length ≤ sizeLine := by simpa only [PyData.shown] using hz
    obtain ⟨cs, c1, c2⟩ := wideKs (prog := prog) (w := w) kin dg o4 (by simpa [wideP] using hw) fun t m => Nat.le_trans (tupleText_mem_le m) len
    have out : p ∉ cs := not_mem_of_deeper (.tuple o1 o2 o3 o4) (by simp only [PyData.depth]; omega) c1
    simp only [PyData.depth] at hu
    simp only [PyData.shown] at q
    refine call_repr_slot (by omega) ⟨o, o1, o2⟩ F.slot_tuple_repr ?_
    exact call_tuple_reprK o1 o2 o3 out c2 (show A.in1.guards = some [] from hg) (fun b _ => Clear.nil b) (by show A.units + 1 + _ < cLine; omega) (fun _ _ z => z) (fun h1 u k kp => ⟨_, _, rfl, q h1 u k kp⟩) len
  | dict _ _ _ _ _ => simp [wideP] at hw
/-- repr(..) of a whole number -/
theorem repr_wint {A : Around} {E : Value → Shared → Prop} {st : Shared} {Q : Value → Shared → Prop} {i : Int} {t : Tok} (kin : K.In st.heap) (dg : Dig K) (hi : i.natAbs.log2 < 8000) (hu : A.units + 1 < cLine)
    (q : ∀ u k, Q (.str (toString i) u) { st with toks := k }) : wpAny (model prog w) A (call (.builtin "repr") [.int i t]) Q E st :=
  call_repr_slot hu (typeIs_int st i t) F.slot_int_repr.toG (int_txt kin dg (fun _ _ z => z) hi fun u k => ⟨_, u, rfl, q u k⟩)
end
/-- a def's promise, for every around without a repr in work -/
structure Fn (C : Cf) (k : Nat) (f : Addr) (fd : FuncData) (ps : List Str) (sp : Sp) : Prop where
  len : ∀ vs H Q E, sp vs H Q E → vs.length = ps.length
  run : ∀ (A : Around) (outer : List Env) (s : Shared) (H : Hp) (args : Args) (us : List Value) (vs : List V) (Q : VK) (E : XK),
    Room k A → (C.rg = true → A.guards = some []) → Env0 C.pg C.w C.K C.mg C.base A outer s H → BindsTo s fd args (ps.zip us) → Vals vs us → sp vs H Q E →
      codeAny (model C.pg C.w) A (.call (.ref f) args) (CR CX0 outer C.pg C.w H s Q E) s
theorem Fn.mono {C : Cf} {j k : Nat} {f : Addr} {fd : FuncData} {ps : List Str} {sp : Sp} (F : Fn C j f fd ps sp) (h : j ≤ k) : Fn C k f fd ps sp :=
  ⟨F.len, fun A outer s H args us vs Q E hr => F.run A outer s H args us vs Q E (hr.mono h)⟩
/-- what m does, as a promise -/
def spM (C : Cf) (n : Nat) (m : List D → M D) : Sp := fun vs H Q _ => vs.length = n ∧ ∃ W s ds, DVs C.K W H vs ds ∧ W.tb = C.tb ∧ Abs C.K W s H ∧ Good (m ds s) (Po C.K W H Q)
section
variable {C : Cf} {sc : Scope} {N : List Str} {k : Nat} {pos p2 : Pos} {e a b : Expr} {ma mb : EF} {es : List Expr} {ms : List EF}
/-- a call of f with values -/
theorem run_call {X : Cx} {j : Nat} {f : Addr} {fd : FuncData} {ps : List Str} {sp : Sp} {pins : List (Addr × Obj)} {σ : L2.St} {H : Hp} {s : Shared} {Q : VK} {us : List Value} {vs : List V} (F : Fn C j f fd ps sp) (ok : Okx C j X) (hb : Binds C.K fd ps []) (I : Inv X pins σ H s) (r : Vals vs us)
    (h : sp vs H Q E0) : wpAny (model X.prog X.w) X.A (call (.ref f) us) (EP X pins σ Q) X.xe s := by
  have hl : us.length = ps.length := by rw [← r.length]; exact F.len _ _ _ _ h
  have e0 := I.env0
  have kin := I.kIn
  rw [ok.pr, ok.ew, ok.eK, ok.em, ok.eb] at e0
  rw [ok.eK] at kin
  have hbt := hb s us kin (by rw [List.append_nil]; exact hl)
  rw [List.append_nil] at hbt
  have run := F.run X.A X.stack s H ⟨us, []⟩ us vs Q E0 ok.rm ok.gd e0 hbt r h
  rw [← ok.pr, ← ok.ew] at run
  refine wpAny_call (codeAny_mono run fun q s' hq => ?_)
  match q, hq with
  | .error _, hq => exact hq.elim
  | .ok (.ret u), hq => exact I.after hq
/-- f(..) of a global def -/
def calE (m : List D → M D) (ms : List EF) : EF := fun ρ => bnd (evA ms ρ) m
theorem s_call {x : Str} {j : Nat} {f : Addr} {fd : FuncData} {ps : List Str} {m : List D → M D} {n : Nat} (F : Fn C j f fd ps (spM C n m)) (hj : j ≤ k) (hm : C.mg x = some (.ref f)) (hk : PySem.W.keepIn C.K (.ref f) = true) (hb : Binds C.K fd ps [])
    (ha : SAs C sc N k (e :: es) ms) (hg : GlS sc x := by rfl) (hn : ms.length = n := by rfl) (hd : (x == ("__debug__" : Str)) = false := by decide)
    (he : ∀ env, starEach (e :: es) env = (false, eval e env) :: starEach es env := by intro _; rfl) (hp : ∀ env, (backTo pos (starEach es env)).any (·.1) = false := by intro _; rfl) :
    SE C sc N k (.Call (.Name x p2) (e :: es) [] pos) (calE m ms) := fun X ok => by
  obtain ⟨t, p, q⟩ := ha X ok
  refine ⟨fun σ H Q => t σ H fun vs H1 => spM C n m vs H1 Q E0, ⟨fun pins s σ H Q I h => ?_⟩, fun σ H W s ρ Q er A g => ?_⟩
  · refine wpAny_Call_Name_kw (ld_glob I (hg.of ok) (by rw [ok.em]; exact hm) ?_ hd)
    refine PySem.W.callWith_K (h₀ := X.base) I.ok.mod.kin (by rw [ok.eK]; exact hk) (thn (p.run pos pins s σ H _ I h) fun us s1 ⟨vs, H1, I1, r, q1⟩ => ⟨I1.kIn, ?_⟩) (he X.env) (hp X.env)
    have ok' : Okx C k X := ok.toOkx
    exact run_call (F.mono hj) ok' hb I1 r q1
  · refine q σ H W s ρ _ er A (g.bnd.len.mono fun ds s1 ⟨z, h1⟩ W1 H1 vs e1 r1 A1 => ?_)
    exact ⟨by rw [Paired.length r1, z]; exact hn, W1, s1, ds, r1, (er.up e1).tb, A1, h1.mono fun _ _ w => w.up e1⟩
/-- a call of a built-in value does g -/
def CaS (C : Cf) (k : Nat) (f : Value) (g : List D → M D) : Prop :=
  ∀ X, Okx C k X → ∃ r, CallR X f r ∧ ∀ W s H xs ds Q, DVs C.K W H xs ds → Abs C.K W s H → Good (g ds s) (Po C.K W H Q) → r xs H Q
theorem s_bf {x : Str} {id : String} {g : List D → M D} (hc : CaS C k (.builtin id) g) (hm : C.mg x = none) (hv : bootBuiltins x = some (.builtin id)) (ha : SAs C sc N k (e :: es) ms) (hg : GlS sc x := by rfl) (hn : x ≠ "__name__" := by decide) (hd : (x == ("__debug__" : Str)) = false := by decide)
    (he : ∀ env, starEach (e :: es) env = (false, eval e env) :: starEach es env := by intro _; rfl) (hp : ∀ env, (backTo pos (starEach es env)).any (·.1) = false := by intro _; rfl) :
    SE C sc N k (.Call (.Name x p2) (e :: es) [] pos) (calE g ms) := fun X ok => by
  obtain ⟨t, p, q⟩ := ha X ok
  obtain ⟨r, h1, h2⟩ := hc X ok.toOkx
  refine ⟨_, pe_callB h1 (hg.of ok) (by rw [ok.em]; exact hm) hv p hn hd (he X.env) (hp X.env), fun σ H W s ρ Q er A g => ?_⟩
  refine q σ H W s ρ _ er A (g.bnd.mono fun ds s1 z W1 H1 vs e1 r1 A1 => ?_)
  exact h2 W1 s1 H1 vs ds Q r1 A1 (Good.mono z fun _ _ w => w.up e1)
theorem s_bt {x : Str} {id : String} {g : List D → M D} (hc : CaS C k (.type id) g) (hm : C.mg x = none) (hv : bootBuiltins x = some (.type id)) (ha : SAs C sc N k (e :: es) ms) (hg : GlS sc x := by rfl) (hn : x ≠ "__name__" := by decide) (hd : (x == ("__debug__" : Str)) = false := by decide)
    (he : ∀ env, starEach (e :: es) env = (false, eval e env) :: starEach es env := by intro _; rfl) (hp : ∀ env, (backTo pos (starEach es env)).any (·.1) = false := by intro _; rfl) :
    SE C sc N k (.Call (.Name x p2) (e :: es) [] pos) (calE g ms) := fun X ok => by
  obtain ⟨t, p, q⟩ := ha X ok
  obtain ⟨r, h1, h2⟩ := hc X ok.toOkx
  refine ⟨_, pe_callTy h1 (hg.of ok) (by rw [ok.em]; exact hm) hv p hn hd (he X.env) (hp X.env), fun σ H W s ρ Q er A g => ?_⟩
  refine q σ H W s ρ _ er A (g.bnd.mono fun ds s1 z W1 H1 vs e1 r1 A1 => ?_)
  exact h2 W1 s1 H1 vs ds Q r1 A1 (Good.mono z fun _ _ w => w.up e1)
theorem dvs1 {W : Wd} {H : Hp} {xs : List V} {d : D} (r : DVs C.K W H xs [d]) : ∃ x, xs = [x] ∧ DV C.K W H x d := by
  match xs, r with
  | [x], .cons h .nil => exact ⟨x, rfl, h⟩
theorem dvs2 {W : Wd} {H : Hp} {xs : List V} {d d' : D} (r : DVs C.K W H xs [d, d']) : ∃ x y, xs = [x, y] ∧ DV C.K W H x d ∧ DV C.K W H y d' := by
  match xs, r with
  | [x, y], .cons h (.cons h' .nil) => exact ⟨x, y, rfl, h, h'⟩
def absD : List D → M D := fun ds s => match ds with
  | [.p (.int i)] => .ok (.p (.int (if i < 0 then -i else i))) s
  | _ => .bad
theorem c_abs : CaS C k (.builtin "abs") absD := fun X ok => ⟨_, call_abs, fun W s H xs ds Q r A g => by
  unfold absD at g
  split at g
  · obtain ⟨x, rfl, h⟩ := dvs1 r
    cases h
    exact ⟨_, rfl, g W H _ Ev.rfl (PV.int _) A⟩
  · exact g.elim⟩
def lenD : List D → M D := fun ds s => match ds with
  | [.p (.tup xs)] => .ok (.p (.int xs.length)) s
  | [.p (.str x)] => if x.length ≤ sizeLine then .ok (.p (.int x.length)) s else .bad
  | [d] => match its d s with
    | some xs => .ok (.p (.int xs.length)) s
    | none => .bad
  | _ => .bad
theorem c_len : CaS C k (.builtin "len") lenD := fun X ok => ⟨_, call_len, fun W s H xs ds Q r A g => by
  unfold lenD at g
  rw [ok.eK]
  split at g
  · obtain ⟨x, rfl, h⟩ := dvs1 r
    cases h with
    | tup h1 h2 => exact ⟨_, _, rfl, Or.inr ⟨_, h1, rfl⟩, by rw [h2.len]; exact g W H _ Ev.rfl (PV.int _) A⟩
  · split at g
    · rename_i hl
      obtain ⟨x, rfl, h⟩ := dvs1 r
      cases h
      exact ⟨_, _, rfl, ⟨hl, rfl⟩, g W H _ Ev.rfl (PV.int _) A⟩
    · exact g.elim
  · split at g
    · rename_i hx
      obtain ⟨x, rfl, h⟩ := dvs1 r
      obtain ⟨a, vs, rfl, h1, h2⟩ := its_sq h A hx
      exact ⟨_, _, rfl, Or.inl ⟨_, h1, rfl⟩, by rw [h2.len]; exact g W H _ Ev.rfl (PV.int _) A⟩
    · exact g.elim
  · exact g.elim⟩
def maxD : List D → M D := fun ds s => match ds with
  | [.p (.int i), .p (.int j)] => .ok (.p (.int (if j > i then j else i))) s
  | _ => .bad
theorem c_max : CaS C k (.builtin "max") maxD := fun X ok => ⟨_, call_max2 ok.calm, fun W s H xs ds Q r A g => by
  unfold maxD at g
  split at g
  · obtain ⟨x, y, rfl, h, h'⟩ := dvs2 r
    cases h
    cases h'
    exact ⟨_, _, rfl, g W H _ Ev.rfl (PV.int _) A⟩
  · exact g.elim⟩
def minD : List D → M D := fun ds s => match ds with
  | [.p (.int i), .p (.int j)] => .ok (.p (.int (if j < i then j else i))) s
  | _ => .bad
theorem c_min : CaS C k (.builtin "min") minD := fun X ok => ⟨_, call_min2 ok.calm, fun W s H xs ds Q r A g => by
  unfold minD at g
  split at g
  · obtain ⟨x, y, rfl, h, h'⟩ := dvs2 r
    cases h
    cases h'
    exact ⟨_, _, rfl, g W H _ Ev.rfl (PV.int _) A⟩
  · exact g.elim⟩
def intD : List D → M D := fun ds s => match ds with
  | [.p (.int i)] => .ok (.p (.int i)) s
  | [.p (.bl b)] => .ok (.p (.int (if b = true then 1 else 0))) s
  | _ => .bad
/-- a row of truths -/
def blsOf : List P → Option (List Bool)
  | [] => some []
  | .bl b :: r => (blsOf r).map (b :: ·)
  | _ :: _ => none
theorem blsOf_eq : ∀ {xs : List P} {bs : List Bool}, blsOf xs = some bs → xs = bs.map P.bl
  | [], bs, h => by
    cases h
    rfl
  | x :: r, bs, h => by
    cases x with
    | bl b =>
      unfold blsOf at h
      cases e : blsOf r with
      | none =>
        rw [e] at h
        cases h
      | some cs =>
        rw [e] at h
        have h' := Option.some.inj h
        subst h'
        rw [blsOf_eq e]
        rfl
    | _ => cases h
def allD : List D → M D := fun ds s => match ds with
  | [d] => match its d s with
    | some xs => match blsOf xs with
      | some bs => .ok (.p (.bl (bs.all id))) s
      | none => .bad
    | none => .bad
  | _ => .bad
theorem c_all : CaS C k (.builtin "all") allD := fun X ok => ⟨_, cr_all ok.calm, fun W s H xs ds Q r A g => by
  unfold allD at g
  rw [ok.eK]
  split at g
  · split at g
    · rename_i ys hx
      split at g
      · rename_i bs hb
        obtain ⟨x, rfl, h⟩ := dvs1 r
        obtain ⟨a, vs, rfl, h1, h2⟩ := its_sq h A hx
        have hy := blsOf_eq hb
        subst hy
        have hv := h2.bls
        subst hv
        exact ⟨_, bs, rfl, h1, g W H _ Ev.rfl (PV.bl _) A⟩
      · exact g.elim
    · exact g.elim
  · exact g.elim⟩
/-- tuple(x) of a list or a tuple; list(x), plain or not -/
def tupD : List D → M D := fun ds s => match ds with
  | [.p (.tup xs)] => .ok (.p (.tup xs)) s
  | [d] => match its d s with
    | some xs => .ok (.p (.tup xs)) s
    | none => .bad
  | _ => .bad
theorem c_tup : CaS C k (.type "tuple") tupD := fun X ok => ⟨_, call_tuple_of, fun W s H xs ds Q r A g => by
  unfold tupD at g
  rw [ok.eK]
  split at g
  · obtain ⟨x, rfl, h⟩ := dvs1 r
    cases h with
    | tup h1 h2 => exact ⟨_, _, rfl, Or.inr ⟨h1, g W H _ Ev.rfl (PV.tup h1 h2) A⟩⟩
  · split at g
    · rename_i hx
      obtain ⟨x, rfl, h⟩ := dvs1 r
      obtain ⟨a, vs, rfl, h1, h2⟩ := its_sq h A hx
      exact ⟨_, _, rfl, Or.inl ⟨h1, fun l hl => g W _ _ (Ev.new hl) (PV.tup (SqT.of upd_same) (PVs.up (Ev.new hl) h2)) (A.new hl)⟩⟩
    · exact g.elim
  · exact g.elim⟩
def tyD : D → S → Option String
  | .p .non, _ => some "NoneType"
  | .p (.bl _), _ => some "bool"
  | .p (.int _), _ => some "int"
  | .p (.str _), _ => some "str"
  | .p (.tup _), _ => some "tuple"
  | .p (.lst _), _ => some "list"
  | .p .emp, _ => some "dict"
  | .obj n, s => match s[n]? with
    | some (some (.lst _)) => some "list"
    | some (some (.dic _)) => some "dict"
    | _ => none
  | _, _ => none
theorem tyX {W : Wd} {H : Hp} {s : S} {v : V} {d : D} {z : String} (r : DV C.K W H v d) (A : Abs C.K W s H) (h : tyD d s = some z) : TyX C.K H v (.type z) := by
  cases d with
  | obj n =>
    unfold tyD at h
    dsimp only at h
    split at h
    · rename_i xs hs
      cases h
      obtain ⟨a, h1, _, vs, h2, h3⟩ := A.ob n _ hs
      obtain ⟨a', h4, rfl⟩ := r
      rw [h1] at h4
      cases h4
      exact .base (.lst h2)
    · rename_i xs hs
      cases h
      obtain ⟨a, h1, _, vs, h2, h3⟩ := A.ob n _ hs
      obtain ⟨a', h4, rfl⟩ := r
      rw [h1] at h4
      cases h4
      exact .base (.dK h2)
    · cases h
  | p x =>
    cases r with
    | non =>
      cases h
      exact .base .non
    | bl b =>
      cases h
      exact .base (.bl b)
    | int b =>
      cases h
      exact .base (.int b)
    | str b =>
      cases h
      exact .base (.str b)
    | lst hf h1 h2 =>
      cases h
      exact .base (.lst h1)
    | emp hf h1 =>
      cases h
      exact .base (.dK h1)
    | tup h1 h2 =>
      cases h
      rcases h1 with (h1 | ⟨o, h1⟩) | ⟨o, its, n, h1, hc, _⟩
      · exact .base (.tup h1)
      · exact .fTuple h1
      · exact .kTuple h1 hc
    | _ => cases h
def isiD : List D → M D := fun ds s => match ds with
  | [d, .p (.ty c)] => match tyD d s with
    | some z => match kitB z c with
      | some b => .ok (.p (.bl b)) s
      | none => .bad
    | none => .bad
  | _ => .bad
theorem c_isi : CaS C k (.builtin "isinstance") isiD := fun X ok => ⟨_, call_isi, fun W s H xs ds Q r A g => by
  unfold isiD at g
  rw [ok.eK]
  split at g
  · split at g
    · rename_i hz
      split at g
      · rename_i hb
        obtain ⟨x, y, rfl, h, h'⟩ := dvs2 r
        cases h'
        exact ⟨_, _, _, _, _, rfl, .ty _, tyX h A hz, kit_ty hb, g W H _ Ev.rfl (PV.bl _) A⟩
      · exact g.elim
    · exact g.elim
  · exact g.elim⟩
/-- a built-in class's name as a value -/
theorem s_bty {x : Str} {id : String} (hm : C.mg x = none) (hv : bootBuiltins x = some (.type id)) (hg : GlS sc x := by rfl) (hn : x ≠ "__name__" := by decide) (hd : (x == ("__debug__" : Str)) = false := by decide) : SE C sc N k (.Name x pos) (cE (.ty id)) := fun X ok => by
  refine ⟨_, pe_bltn (hg.of ok) (by rw [ok.em]; exact hm) hv (v := .ty id) rfl hn hd, fun σ H W s ρ Q er A g => ?_⟩
  exact g W H _ Ev.rfl (PV.ty _) A
def shwD : List D → M D := fun ds s => match ds with
  | [d] => match toPyD d s with
    | some z => if wideP z = true ∧ z.depth ≤ 60 ∧ z.shown.length ≤ sizeLine then .ok (.p (.str z.shown)) s else .bad
    | none => .bad
  | _ => .bad
def rShw (K : PySem.W.Frag) : List V → Hp → VK → Prop := fun xs H Q => ∃ x z, xs = [x] ∧ Dp K H x z ∧ wideP z = true ∧ z.depth ≤ 60 ∧ z.shown.length ≤ sizeLine ∧ Q (.str z.shown) H
theorem call_shw {X : Cx} (hg : X.A.guards = some []) (hr : Room k X.A) (dg : Dig X.K) : CallR X (.builtin "repr") (rShw X.K) := by
  intro pins s σ H xs us Q I r h
  obtain ⟨x, z, rfl, hd, h1, h3, h4, q⟩ := h
  obtain ⟨u, rfl, ru⟩ := vals1 r
  have hu := hr.un
  have kin := I.kIn
  have seq : ∀ a, u = .ref a → wpAny (model X.prog X.w) X.A (call (.builtin "repr") [u]) (EP X pins σ Q) X.xe s := fun a e => by
    obtain ⟨as, rd⟩ := Dp.reads I z x u hd ru
    subst e
    exact repr_wide kin dg rd h1 h4 hg (by omega) (fun h' u tk hk => ⟨.str z.shown, H, I.kept hk, ⟨_, rfl⟩, q⟩)
  cases hd with
  | non =>
    cases ru
    exact PySem.P.repr_of_none ⟨.str _, H, I.tok _, ⟨_, rfl⟩, q⟩
  | bl b =>
    cases ru
    exact PySem.P.repr_of_bool ⟨.str _, H, I.tok _, ⟨_, rfl⟩, by
      have e : PyData.shown (.bool b) = ((if b then "True" else "False" : Str)) := by cases b <;> rfl
      rw [e] at q
      exact q⟩
  | int i =>
    obtain ⟨t, rfl⟩ := ru
    exact repr_wint kin dg (of_decide_eq_true h1) (by omega) fun u k => ⟨.str _, H, I.tok k, ⟨_, rfl⟩, q⟩
  | str y =>
    obtain ⟨t, rfl⟩ := ru
    exact PySem.P.repr_of_str ⟨.str _, H, I.tok _, ⟨_, rfl⟩, q⟩ h4
  | lst _ _ => exact seq _ ru
  | tup _ _ => exact seq _ ru
theorem c_shw (hrg : C.rg = true) (dg : Dig C.K) : CaS C k (.builtin "repr") shwD := fun X ok => ⟨_, call_shw (ok.gd hrg) ok.rm (by rw [ok.eK]; exact dg), fun W s H xs ds Q r A g => by
  unfold shwD at g
  rw [ok.eK]
  split at g
  · split at g
    · rename_i z hz
      split at g
      · rename_i hc
        obtain ⟨x, rfl, h⟩ := dvs1 r
        exact ⟨x, z, rfl, DV.dp h A hz, hc.1, hc.2.1, hc.2.2, g W H _ Ev.rfl (PV.str _) A⟩
      · exact g.elim
    · exact g.elim
  · exact g.elim⟩
end
end CW
end
section
set_option maxRecDepth 100000
set_option maxHeartbeats 2000000
namespace CW
open PySem PySem.Spec PyProof.Rows L2
inductive Fl where
  | nx (ρ : En) | rt (d : D) | bk (ρ : En) | ct (ρ : En)
abbrev SF := En → M Fl
abbrev GF := D → En → M En
def PoR (C : Cf) (W : Wd) (H : Hp) (Q : L2.St → Hp → Prop) : En → S → Prop := fun ρ s => ∀ W' H' σ, Ev W H W' H' → ER C W' H' σ ρ → Abs C.K W' s H' → Q σ H'
def PoF (C : Cf) (W : Wd) (H : Hp) (D : Ends) : Fl → S → Prop := fun f s => match f with
  | .nx ρ => PoR C W H D.nx ρ s
  | .rt d => Po C.K W H D.rt d s
  | .bk ρ => PoR C W H D.bk ρ s
  | .ct ρ => PoR C W H D.ct ρ s
theorem PoR.up {C : Cf} {W W' : Wd} {H H' : Hp} {Q : L2.St → Hp → Prop} {d : En} {s : S} (e : Ev W H W' H') (h : PoR C W H Q d s) : PoR C W' H' Q d s := fun W2 H2 v e2 => h W2 H2 v (e.trans e2)
theorem PoF.up {C : Cf} {W W' : Wd} {H H' : Hp} {D : Ends} {f : Fl} {s : S} (e : Ev W H W' H') (h : PoF C W H D f s) : PoF C W' H' D f s := by
  cases f with
  | nx ρ => exact PoR.up e h
  | rt d => exact Po.up e h
  | bk ρ => exact PoR.up e h
  | ct ρ => exact PoR.up e h
def SS (C : Cf) (sc : Scope) (N : List Str) (k : Nat) (st : Stmt) (m : SF) : Prop :=
  ∀ X, Cod C sc N k X → ∃ t, PS X st t ∧ ∀ D σ H W s ρ, ER C W H σ ρ → Abs C.K W s H → Good (m ρ s) (PoF C W H D) → t D σ H
def SB (C : Cf) (sc : Scope) (N : List Str) (k : Nat) (st : List Stmt) (m : SF) : Prop :=
  ∀ X, Cod C sc N k X → ∃ t, PSs X st t ∧ ∀ D σ H W s ρ, ER C W H σ ρ → Abs C.K W s H → Good (m ρ s) (PoF C W H D) → t D σ H
/-- but for the places pl nothing is stored -/
def Agr (pl : List Nat) (σ σ' : L2.St) : Prop := σ'.length = σ.length ∧ ∀ j, j ∉ pl → σ'[j]? = σ[j]?
theorem Agr.rfl {pl : List Nat} {σ : L2.St} : Agr pl σ σ := ⟨_root_.rfl, fun _ _ => _root_.rfl⟩
theorem Agr.trans {pl pl' : List Nat} {σ σ' σ2 : L2.St} (h : Agr pl σ σ') (g : Agr pl' σ' σ2) : Agr (pl ++ pl') σ σ2 := ⟨g.1.trans h.1, fun j hj => by
  rw [g.2 j fun z => hj (List.mem_append_right _ z), h.2 j fun z => hj (List.mem_append_left _ z)]⟩
def PoG (C : Cf) (W : Wd) (H : Hp) (pl : List Nat) (σ : L2.St) (Q : L2.St → Hp → Prop) : En → S → Prop := fun ρ s => ∀ W' H' σ', Ev W H W' H' → ER C W' H' σ' ρ → Abs C.K W' s H' → Agr pl σ σ' → Q σ' H'
theorem PoR.g {C : Cf} {W : Wd} {H : Hp} {pl : List Nat} {σ : L2.St} {Q : L2.St → Hp → Prop} {ρ : En} {s : S} (h : PoR C W H Q ρ s) : PoG C W H pl σ Q ρ s := fun W' H' σ' e er A _ => h W' H' σ' e er A
def SG (C : Cf) (sc : Scope) (N : List Str) (k : Nat) (tg : Expr) (g : GF) (pl : List Nat) : Prop :=
  ∀ X, Cok C sc N k X → ∃ t, PG X tg t ∧ ∀ v d σ H W s ρ Q, DV C.K W H v d → ER C W H σ ρ → Abs C.K W s H → Good (g d ρ s) (PoG C W H pl σ Q) → t v σ H Q
def SGs (C : Cf) (sc : Scope) (N : List Str) (k : Nat) (ts : List Expr) (g : List P → En → M En) (pl : List Nat) : Prop :=
  ∀ X, Cok C sc N k X → ∃ t, PGs X ts t ∧ ∀ vs xs σ H W s ρ Q, PVs C.K W.fr H vs xs → ER C W H σ ρ → Abs C.K W s H → Good (g xs ρ s) (PoG C W H pl σ Q) → t vs σ H Q
theorem ER.put {C : Cf} {W : Wd} {H : Hp} {σ : L2.St} {ρ : En} {v : V} {d : D} (h : ER C W H σ ρ) (r : DV C.K W H v d) (i : Nat) : ER C W H (σ.set i (some v)) (ρ.set i (some d)) := by
  refine ⟨by rw [List.length_set, List.length_set]; exact h.len, fun j e hj => ?_, h.tb⟩
  by_cases q : i = j
  · subst q
    have hl : i < ρ.length := by
      have z := (List.getElem?_eq_some_iff.mp hj).1
      rw [List.length_set] at z
      exact z
    rw [List.getElem?_set_self hl] at hj
    cases hj
    exact ⟨v, List.getElem?_set_self (by rw [h.len]; exact hl), r⟩
  · rw [List.getElem?_set_ne q] at hj
    rw [List.getElem?_set_ne q]
    exact h.at j e hj
theorem ER.wipe {C : Cf} {W : Wd} {H : Hp} {σ : L2.St} {ρ : En} (h : ER C W H σ ρ) (i : Nat) : ER C W H (σ.set i none) (ρ.set i none) := by
  refine ⟨by rw [List.length_set, List.length_set]; exact h.len, fun j e hj => ?_, h.tb⟩
  by_cases q : i = j
  · subst q
    have hl : i < ρ.length := by
      have z := (List.getElem?_eq_some_iff.mp hj).1
      rw [List.length_set] at z
      exact z
    rw [List.getElem?_set_self hl] at hj
    cases hj
  · rw [List.getElem?_set_ne q] at hj
    rw [List.getElem?_set_ne q]
    exact h.at j e hj
section
variable {C : Cf} {sc : Scope} {N : List Str} {k : Nat} {pos p2 : Pos} {e a b tg : Expr} {m ma mb : EF} {es : List Expr} {ms : List EF} {st : Stmt} {sts : List Stmt} {f g : SF}
def setG (i : Nat) : GF := fun d ρ s => .ok (ρ.set i (some d)) s
theorem Cok.hf {X : Cx} {x : Str} (ok : Cok C sc N k X) (hx : Loc sc x) : X.fn x = true ∨ X.env.scope.names.lookup x = some .local := by
  rcases hx with h | h
  · exact Or.inr (ok.eL.loc x h)
  · exact Or.inl (ok.fc x h)
theorem g_name (i : Nat) {x : Str} (hi : N[i]? = some x := by rfl) (hx : Loc sc x := by first | exact Or.inl rfl | exact Or.inr rfl) : SG C sc N k (.Name x pos) (setG i) [i] := fun X ok => by
  refine ⟨_, pg_name (by rw [ok.nN]; exact ok.nd) (by rw [ok.nN]; exact hi) (ok.eL.lo hx) (ok.hf hx), fun v d σ H W s ρ Q r er A g => ?_⟩
  refine g W H _ Ev.rfl (er.put r i) A ⟨by rw [List.length_set], fun j hj => ?_⟩
  rw [List.getElem?_set_ne fun z => hj (by rw [z]; exact List.mem_singleton_self _)]
def nilG : List P → En → M En := fun xs ρ s => match xs with
  | [] => .ok ρ s
  | _ => .bad
def consG (g : GF) (r : List P → En → M En) : List P → En → M En := fun xs ρ => match xs with
  | x :: xs => bnd (g (.p x) ρ) fun ρ' => r xs ρ'
  | [] => bad
theorem gs_nil : SGs C sc N k [] nilG [] := fun X ok => by
  refine ⟨_, pgs_nil, fun vs xs σ H W s ρ Q r er A g => ?_⟩
  cases r with
  | nil => exact ⟨rfl, g W H _ Ev.rfl er A Agr.rfl⟩
  | cons _ _ => exact g.elim
theorem gs_cons {ts : List Expr} {h : GF} {r : List P → En → M En} {pl pl' : List Nat} (h1 : SG C sc N k tg h pl) (h2 : SGs C sc N k ts r pl') (hs : ∀ env, (assignEach (tg :: ts) env).map (·.2) = assign tg env :: (assignEach ts env).map (·.2) := by intro _; rfl) : SGs C sc N k (tg :: ts) (consG h r) (pl ++ pl') := fun X ok => by
  obtain ⟨t, p, q⟩ := h1 X ok
  obtain ⟨u, p', q'⟩ := h2 X ok
  refine ⟨_, pgs_cons p p' (hs X.env), fun vs xs σ H W s ρ Q rv er A g => ?_⟩
  cases rv with
  | nil => exact g.elim
  | cons hv hr =>
    refine ⟨_, _, rfl, q _ _ σ H W s ρ _ (show DV C.K W H _ (.p _) from hv) er A (Good.mono (Good.bnd g) fun ρ1 s1 h1 W1 H1 σ1 e1 er1 A1 ag => ?_)⟩
    exact q' _ _ σ1 H1 W1 s1 ρ1 Q (PVs.up e1 hr) er1 A1 (Good.mono h1 fun _ _ z W2 H2 σ2 e2 er2 A2 ag2 => z W2 H2 σ2 (e1.trans e2) er2 A2 (ag.trans ag2))
/-- (a, b, ..) = a tuple, a list -/
def tupG (n : Nat) (g : List P → En → M En) : GF := fun d ρ s => match d with
  | .p (.tup xs) => if xs.length = n then g xs ρ s else .bad
  | d => match its d s with
    | some xs => if xs.length = n then g xs ρ s else .bad
    | none => .bad
theorem pg_or {X : Cx} {t u : TG} (h1 : PG X tg t) (h2 : PG X tg u) : PG X tg (fun v σ H Q => t v σ H Q ∨ u v σ H Q) := ⟨fun pins s σ H v w Q I r q => by
  rcases q with q | q
  · exact h1.run pins s σ H v w Q I r q
  · exact h2.run pins s σ H v w Q I r q⟩
theorem g_tup {ts : List Expr} {j n : Nat} {r : List P → En → M En} {pl : List Nat} (h : SGs C sc N k ts r pl) (hn : ∀ env, (assignEach ts env).length = n := by intro _; rfl) (hst : ∀ env, (assignEach ts env).findIdx? (·.1) = none := by intro _; rfl) : SG C sc N k (.Tuple ts j pos) (tupG n r) pl := fun X ok => by
  obtain ⟨t, p, q⟩ := h X ok
  refine ⟨_, pg_or (pg_tup ok.calm p (hn X.env) (hst X.env)) (pg_lst ok.calm p (hn X.env) (hst X.env)), fun v d σ H W s ρ Q rv er A g => ?_⟩
  rw [ok.eK]
  unfold tupG at g
  split at g
  · split at g
    · rename_i hl
      cases rv with
      | tup h1 h2 => exact Or.inl ⟨_, _, rfl, h1, by rw [h2.len]; exact hl, q _ _ σ H W s ρ Q h2 er A g⟩
    · exact g.elim
  · split at g
    · rename_i hx
      split at g
      · rename_i hl
        obtain ⟨a, vs, rfl, h1, h2⟩ := its_sq rv A hx
        exact Or.inr ⟨_, _, rfl, h1, by rw [h2.len]; exact hl, q _ _ σ H W s ρ Q h2 er A g⟩
      · exact g.elim
    · exact g.elim
def nopF : SF := fun ρ s => .ok (.nx ρ) s
def seqF (f g : SF) : SF := fun ρ => bnd (f ρ) fun r => match r with
  | .nx ρ' => g ρ'
  | r => ret r
theorem b_nil : SB C sc N k [] nopF := fun X ok => ⟨_, pss_nil, fun D σ H W s ρ er A g => g W H σ Ev.rfl er A⟩
theorem b_one (h : SS C sc N k st f) : SB C sc N k [st] f := fun X ok => by
  obtain ⟨t, p, q⟩ := h X ok
  exact ⟨_, pss_one p, q⟩
theorem b_cons (h : SS C sc N k st f) (h2 : SB C sc N k sts g) : SB C sc N k (st :: sts) (seqF f g) := fun X ok => by
  obtain ⟨t, p, q⟩ := h X ok
  obtain ⟨u, p', q'⟩ := h2 X ok
  refine ⟨_, pss_cons p p', fun D σ H W s ρ er A G => ?_⟩
  refine q { D with nx := u D } σ H W s ρ er A ((Good.bnd G).mono fun r s1 h1 => ?_)
  cases r with
  | nx ρ' => exact fun W1 H1 σ1 e1 er1 A1 => q' D σ1 H1 W1 s1 ρ' er1 A1 (Good.mono h1 fun _ _ z => z.up e1)
  | rt d => exact h1
  | bk ρ' => exact h1
  | ct ρ' => exact h1
/-- a statement that is not come to -/
def noF : SF := fun _ _ => .bad
theorem x_never : SS C sc N k st noF := fun X ok => ⟨_, ps_never, fun D σ H W s ρ er A g => g.elim⟩
def retF (m : EF) : SF := fun ρ => bnd (m ρ) fun d => ret (.rt d)
theorem x_ret (h : SE C sc N k e m) : SS C sc N k (.Return (some e) pos) (retF m) := fun X ok => by
  obtain ⟨t, p, q⟩ := h X ok.toCok
  exact ⟨_, ps_ret p, fun D σ H W s ρ er A g => q σ H W s ρ _ er A ((Good.bnd g).mono fun _ _ z => z)⟩
def expF (m : EF) : SF := fun ρ => bnd (m ρ) fun _ => ret (.nx ρ)
theorem x_exp (h : SE C sc N k e m) (hs : ∀ env, swapsWith e none pos.line env = pure false := by intro _; rfl) : SS C sc N k (.Expr e pos) (expF m) := fun X ok => by
  obtain ⟨t, p, q⟩ := h X ok.toCok
  refine ⟨_, ps_expr p (hs X.env), fun D σ H W s ρ er A g => ?_⟩
  exact q σ H W s ρ _ er A ((Good.bnd g).mono fun d s1 z W1 H1 v e1 r1 A1 => z W1 H1 σ e1 (er.up e1) A1)
def iffF (t : TF) (f g : SF) : SF := fun ρ => bnd (t ρ) fun c => if c = true then f ρ else g ρ
theorem x_if {c : Expr} {ys ns : List Stmt} {t : TF} (hc : ST C sc N k c t) (hy : SB C sc N k ys f) (hn : SB C sc N k ns g) : SS C sc N k (.If c ys ns pos) (iffF t f g) := fun X ok => by
  obtain ⟨t, p, q⟩ := hc X ok.toCok
  obtain ⟨u, p', q'⟩ := hy X ok
  obtain ⟨v, p2, q2⟩ := hn X ok
  refine ⟨_, ps_if p p' p2, fun D σ H W s ρ er A G => ?_⟩
  refine q σ H W s ρ _ er A ((Good.bnd G).mono fun c s1 h1 W1 H1 e1 A1 => ?_)
  cases c with
  | true => exact iteT (q' D σ H1 W1 s1 ρ (er.up e1) A1 (Good.mono h1 fun _ _ z => z.up e1))
  | false => exact iteF (q2 D σ H1 W1 s1 ρ (er.up e1) A1 (Good.mono h1 fun _ _ z => z.up e1))
def asgF (m : EF) (g : GF) : SF := fun ρ => bnd (m ρ) fun d => bnd (g d ρ) fun ρ' => ret (.nx ρ')
theorem x_asg {h : GF} {pl : List Nat} (he : SE C sc N k e m) (hg : SG C sc N k tg h pl) (hs : ∀ env : Env, env.scope = sc → swapsWithSole [tg] e pos.line env = pure false := by intro _ _; rfl) (hw : ∀ env : Env, env.scope = sc → swappedStores [tg] e env = pure none := by intro _ _; rfl)
    (h1 : ∀ env, (assignEach [tg] env).map (·.2) = [assign tg env] := by intro _; rfl) : SS C sc N k (.Assign [tg] e pos) (asgF m h) := fun X ok => by
  obtain ⟨t, p, q⟩ := he X ok.toCok
  obtain ⟨u, p', q'⟩ := hg X ok.toCok
  refine ⟨_, ps_asg p p' (hs X.env ok.eS) (hw X.env ok.eS) (h1 X.env), fun D σ H W s ρ er A g => ?_⟩
  refine q σ H W s ρ _ er A ((Good.bnd g).mono fun d s1 z W1 H1 v e1 r1 A1 => ?_)
  refine q' v d σ H1 W1 s1 ρ _ r1 (er.up e1) A1 ((Good.bnd z).mono fun ρ' s2 z2 W2 H2 σ2 e2 er2 A2 _ => ?_)
  exact z2 W2 H2 σ2 (e1.trans e2) er2 A2
/-- a, b = x, y with plain local names -/
def parF (i j : Nat) (ms : List EF) : SF := fun ρ => bnd (evA ms ρ) fun ds s => match ds with
  | [x, y] => .ok (.nx ((ρ.set i (some x)).set j (some y))) s
  | _ => .bad
theorem x_par (i j : Nat) {x y : Str} {px py pt : Pos} {kt k2 : Nat} {pt2 : Pos} (ha : SAs C sc N k [a, b] ms) (hi : N[i]? = some x := by rfl) (hj : N[j]? = some y := by rfl) (hij : i ≠ j := by decide) (hx : sc.names.lookup x = some .local := by rfl) (hy : sc.names.lookup y = some .local := by rfl)
    (hw : ∀ env : Env, env.scope = sc → swappedStores [.Tuple [.Name x px, .Name y py] kt pt] (.Tuple [a, b] k2 pt2) env = pure (some [x, y])) (hs : ∀ env, swapsWithSole [.Tuple [.Name x px, .Name y py] kt pt] (.Tuple [a, b] k2 pt2) pos.line env = pure false := by intro _; rfl) :
    SS C sc N k (.Assign [.Tuple [.Name x px, .Name y py] kt pt] (.Tuple [a, b] k2 pt2) pos) (parF i j ms) := fun X ok => by
  obtain ⟨t, p, q⟩ := ha X ok.toCok
  refine ⟨_, ps_par ok.calm (by rw [ok.nN]; exact ok.nd) (by rw [ok.nN]; exact hi) (by rw [ok.nN]; exact hj) hij (by rw [ok.eS]; exact hx) (by rw [ok.eS]; exact hy) p (hw X.env ok.eS) (hs X.env), fun D σ H W s ρ er A g => ?_⟩
  refine q σ H W s ρ _ er A ((Good.bnd g).mono fun ds s1 z W1 H1 vs e1 r1 A1 => ?_)
  split at z
  · obtain ⟨x', y', rfl, r2, r3⟩ := dvs2 r1
    exact ⟨_, _, rfl, z W1 H1 _ e1 (((er.up e1).put r2 i).put r3 j) A1⟩
  · exact z.elim
def par3F (i j l : Nat) (ms : List EF) : SF := fun ρ => bnd (evA ms ρ) fun ds s => match ds with
  | [x, y, z] => .ok (.nx (((ρ.set i (some x)).set j (some y)).set l (some z))) s
  | _ => .bad
theorem dvs3 {W : Wd} {H : Hp} {xs : List V} {d d' d2 : D} (r : DVs C.K W H xs [d, d', d2]) : ∃ x y z, xs = [x, y, z] ∧ DV C.K W H x d ∧ DV C.K W H y d' ∧ DV C.K W H z d2 := by
  match xs, r with
  | [x, y, z], .cons h (.cons h' (.cons h2 .nil)) => exact ⟨x, y, z, rfl, h, h', h2⟩
end
end CW
end
section
set_option maxRecDepth 100000
set_option maxHeartbeats 2000000
namespace CW
open PySem PySem.Spec PyProof.Rows L2
section
variable {C : Cf} {sc : Scope} {N : List Str} {k : Nat} {pos p2 apos cpos : Pos} {e a b c o tg : Expr} {m ma mb mo : EF} {es : List Expr} {ms : List EF} {st : Stmt} {sts : List Stmt} {f g : SF}
theorem obj_lst {W : Wd} {H : Hp} {s : S} {v : V} {n : Nat} {xs : List P} (r : DV C.K W H v (.obj n)) (A : Abs C.K W s H) (h : s[n]? = some (some (.lst xs))) : ∃ a vs, W.io[n]? = some a ∧ v = .ref a ∧ H a = some (.lst vs) ∧ PVs C.K W.fr H vs xs := by
  obtain ⟨a, h4, rfl⟩ := r
  obtain ⟨a', h5, _, vs, h6, h7⟩ := A.ob n _ h
  rw [h4] at h5
  cases h5
  exact ⟨a, vs, h4, rfl, h6, h7⟩
/-- a method of a list does g -/
def MtS (C : Cf) (k : Nat) (id : String) (g : D → List D → M D) : Prop :=
  ∀ X, Okx C k X → ∃ r, MtR X id r ∧ ∀ W s H x d xs ds Q, DV C.K W H x d → DVs C.K W H xs ds → Abs C.K W s H → Good (g d ds s) (Po C.K W H Q) → r x xs H Q
def metE (g : D → List D → M D) (mo : EF) (ms : List EF) : EF := fun ρ => bnd (mo ρ) fun d s => match its d s with
  | some _ => bnd (evA ms ρ) (g d) s
  | none => .bad
theorem s_met {name : Str} {id : String} {g : D → List D → M D} (pa : PlainAttrs "list") (slot : Slot "list" name id) (hty : typeOf (.builtin id) = pure (.type "method_descriptor")) (hm : MtS C k id g) (ho : SE C sc N k o mo) (ha : SAs C sc N k (e :: es) ms)
    (hb : ∀ env, attributeBase o name env (eval o env) = eval o env := by intro _; rfl)
    (hf : ∀ env, ((backTo cpos (starEach (e :: es) env)).all (fun x => !x.1) && (backToKw cpos (keywordEach [] env)).all (fun x => x.1.isSome) && decide ((e :: es).length + ([] : List Keyword).length + (if ([] : List Keyword).isEmpty then 0 else 1) < 30)) = true := by intro _; rfl)
    (hl : (apos.endLine == cpos.line) = true := by rfl) (hs : ∀ env, starEach (e :: es) env = (false, eval e env) :: starEach es env := by intro _; rfl) (hp : ∀ env, (backTo cpos (starEach es env)).any (·.1) = false := by intro _; rfl) :
    SE C sc N k (.Call (.Attribute o name apos) (e :: es) [] cpos) (metE g mo ms) := fun X ok => by
  obtain ⟨t1, p1, q1⟩ := ho X ok
  obtain ⟨t2, p2, q2⟩ := ha X ok
  obtain ⟨r, p3, q3⟩ := hm X ok.toOkx
  refine ⟨_, pe_bm pa slot hty p3 p1 p2 (hb X.env) (hf X.env) hl (hs X.env) (hp X.env), fun σ H W s ρ Q er A G => ?_⟩
  refine q1 σ H W s ρ _ er A ((Good.bnd G).mono fun d s1 z W1 H1 v e1 r1 A1 => ?_)
  split at z
  · rename_i xs hx
    obtain ⟨a, vs, rfl, h1, h2⟩ := its_sq r1 A1 hx
    refine ⟨by rw [ok.eK]; exact Or.inl ⟨rfl, _, h1⟩, q2 σ H1 W1 s1 ρ _ (er.up e1) A1 ((Good.bnd z).mono fun ds s2 z2 W2 H2 us e2 r2 A2 => ?_)⟩
    exact q3 W2 s2 H2 _ d us ds Q (r1.up e2) r2 A2 (Good.mono z2 fun _ _ w => w.up (e1.trans e2))
  · exact z.elim
theorem put_go {W : Wd} {H : Hp} {s : S} {n : Nat} {a : Addr} {xs ys : List P} {us : List V} {Q : VK} {v : V} {d : D} (A : Abs C.K W s H) (hn : s[n]? = some (some (.lst xs))) (ha : W.io[n]? = some a) (r : PVs C.K W.fr H us ys) (rv : DV C.K W H v d)
    (g : Good (.ok d (s.set n (some (.lst ys)))) (Po C.K W H Q)) : Q v (upd H a (.lst us)) := by
  have ev : Ev W H W (upd H a (.lst us)) := Ev.put (o' := .lst []) A hn ha
  exact g W _ _ ev (rv.up ev) (A.put hn ha ⟨_, upd_same, PVs.up ev r⟩)
def appD : D → List D → M D := fun d ds s => match d, ds with
  | .obj n, [.p x] => match s[n]? with
    | some (some (.lst xs)) => if xs.length < sizeLine then .ok (.p .non) (s.set n (some (.lst (xs ++ [x])))) else .bad
    | _ => .bad
  | _, _ => .bad
def extD : D → List D → M D := fun d ds s => match d, ds with
  | .obj n, [e] => match s[n]?, itm e s with
    | some (some (.lst xs)), some ys => if xs.length + ys.length ≤ sizeLine then .ok (.p .non) (s.set n (some (.lst (xs ++ ys)))) else .bad
    | _, _ => .bad
  | _, _ => .bad
theorem m_ext : MtS C k "list.extend" extD := fun X ok => ⟨_, mt_extend, fun W s H x d xs ds Q rx r A g => by
  unfold extD at g
  split at g
  · split at g
    · rename_i hn he
      split at g
      · rename_i hl
        obtain ⟨a, vs, ha, rfl, h1, h2⟩ := obj_lst rx A hn
        obtain ⟨y, rfl, hy⟩ := dvs1 r
        obtain ⟨b, us, rfl, h3, h4⟩ := itm_at hy A he
        exact ⟨a, b, vs, us, rfl, rfl, h1, h3, by rw [h2.len, h4.len]; exact hl, put_go A hn ha (h2.app h4) (d := .p .non) PV.non g⟩
      · exact g.elim
    · exact g.elim
  · exact g.elim⟩
def whN : Nat → TF → SF → SF
  | 0, _, _ => fun _ _ => .bad
  | n + 1, c, b => fun ρ => bnd (c ρ) fun t => if t = true then bnd (b ρ) (fun r => match r with
    | .nx ρ' => whN n c b ρ'
    | .ct ρ' => whN n c b ρ'
    | .bk ρ' => ret (.nx ρ')
    | .rt d => ret (.rt d)) else ret (.nx ρ)
open Classical in
noncomputable def whF (c : TF) (b : SF) : SF := fun ρ s => if h : ∃ n, whN n c b ρ s ≠ .bad then whN (choose h) c b ρ s else .bad
theorem x_while {cnd : Expr} {body : List Stmt} {t : TF} {f : SF} (hc : ST C sc N k cnd t) (hb : SB C sc N k body f) : SS C sc N k (.While cnd body [] pos) (whF t f) := fun X ok => by
  obtain ⟨tc, p, q⟩ := hc X ok.toCok
  obtain ⟨tb, p', q'⟩ := hb X ok
  refine ⟨_, ps_while ok.po p p', fun D σ H W s ρ er A g => ?_⟩
  obtain ⟨n, hn⟩ : ∃ n, Good (whN n t f ρ s) (PoF C W H D) := by
    unfold whF at g
    split at g
    · rename_i h
      exact ⟨_, g⟩
    · exact g.elim
  refine ⟨fun m σ' H' => ∃ W' s' ρ', Ev W H W' H' ∧ ER C W' H' σ' ρ' ∧ Abs C.K W' s' H' ∧ Good (whN m t f ρ' s') (PoF C W' H' D), ⟨n, W, s, ρ, Ev.rfl, er, A, hn⟩, ?_⟩
  rintro m σ1 H1 ⟨W1, s1, ρ1, e1, er1, A1, g1⟩
  cases m with
  | zero => exact g1.elim
  | succ m =>
    refine q σ1 H1 W1 s1 ρ1 _ er1 A1 ((Good.bnd g1).mono fun c s2 z W2 H2 e2 A2 => ?_)
    cases c with
    | false => exact iteF (z W2 H2 σ1 e2 (er1.up e2) A2)
    | true =>
      refine iteT ⟨fun σ' H' => ∃ W' s' ρ', Ev W H W' H' ∧ ER C W' H' σ' ρ' ∧ Abs C.K W' s' H' ∧ Good (whN m t f ρ' s') (PoF C W' H' D), fun σ' H' h => ⟨m, Nat.lt_succ_self m, h⟩, ?_⟩
      refine q' _ σ1 H2 W2 s2 ρ1 (er1.up e2) A2 ((Good.bnd z).mono fun r s3 z3 => ?_)
      cases r with
      | nx ρ' => exact fun W3 H3 σ3 e3 er3 A3 => ⟨W3, s3, ρ', (e1.trans e2).trans e3, er3, A3, Good.mono z3 fun _ _ w => w.up (e2.trans e3)⟩
      | ct ρ' => exact fun W3 H3 σ3 e3 er3 A3 => ⟨W3, s3, ρ', (e1.trans e2).trans e3, er3, A3, Good.mono z3 fun _ _ w => w.up (e2.trans e3)⟩
      | bk ρ' => exact fun W3 H3 σ3 e3 er3 A3 => z3 W3 H3 σ3 (e2.trans e3) er3 A3
      | rt d => exact fun W3 H3 v3 e3 r3 A3 => z3 W3 H3 v3 (e2.trans e3) r3 A3
/-- fuel does no harm -/
theorem whN_up {t : TF} {f : SF} : ∀ (n m : Nat) {ρ : En} {s : S}, n ≤ m → whN n t f ρ s ≠ .bad → whN m t f ρ s = whN n t f ρ s
  | 0, _, _, _, _, h => (h rfl).elim
  | n + 1, 0, _, _, hl, _ => (Nat.not_succ_le_zero n hl).elim
  | n + 1, m + 1, ρ, s, hl, h => by
    unfold whN at h ⊢
    cases ht : t ρ s with
    | bad => rw [bnd_bad ht, bnd_bad ht]
    | exn _ _ => rw [bnd_exn ht, bnd_exn ht]
    | ok b s1 =>
      rw [bnd_ok ht] at h
      rw [bnd_ok ht, bnd_ok ht]
      cases b with
      | false => rfl
      | true =>
        rw [if_pos rfl] at h
        rw [if_pos rfl, if_pos rfl]
        cases hf : f ρ s1 with
        | bad => rw [bnd_bad hf, bnd_bad hf]
        | exn _ _ => rw [bnd_exn hf, bnd_exn hf]
        | ok r s2 =>
          rw [bnd_ok hf] at h
          rw [bnd_ok hf, bnd_ok hf]
          cases r with
          | nx ρ' => exact whN_up n m (Nat.le_of_succ_le_succ hl) h
          | ct ρ' => exact whN_up n m (Nat.le_of_succ_le_succ hl) h
          | bk ρ' => rfl
          | rt d => rfl
theorem whF_of {t : TF} {f : SF} {ρ : En} {s : S} (n : Nat) (h : whN n t f ρ s ≠ .bad) : whF t f ρ s = whN n t f ρ s := by
  have hx : ∃ n, whN n t f ρ s ≠ .bad := ⟨n, h⟩
  unfold whF
  rw [dif_pos hx]
  have hc := Classical.choose_spec hx
  rcases Nat.le_total n (Classical.choose hx) with hl | hl
  · exact whN_up _ _ hl h
  · exact (whN_up _ _ hl hc).symm
/-- one turn of a while -/
theorem whF_eq (t : TF) (f : SF) (ρ : En) : whF t f ρ = bnd (t ρ) fun b => if b = true then bnd (f ρ) (fun r => match r with
    | .nx ρ' => whF t f ρ'
    | .ct ρ' => whF t f ρ'
    | .bk ρ' => ret (.nx ρ')
    | .rt d => ret (.rt d)) else ret (.nx ρ) := by
  funext s
  have key : ∀ n, whN (n + 1) t f ρ s = bnd (t ρ) (fun b => if b = true then bnd (f ρ) (fun r => match r with
    | .nx ρ' => whN n t f ρ'
    | .ct ρ' => whN n t f ρ'
    | .bk ρ' => ret (.nx ρ')
    | .rt d => ret (.rt d)) else ret (.nx ρ)) s := fun n => rfl
  have bads : ∀ ρ' s', (¬ ∃ n, whN n t f ρ' s' ≠ .bad) → whF t f ρ' s' = .bad := fun ρ' s' h => by
    unfold whF
    rw [dif_neg h]
  cases ht : t ρ s with
  | bad =>
    rw [bnd_bad ht]
    refine bads ρ s fun ⟨n, h⟩ => h ?_
    cases n with
    | zero => rfl
    | succ n => rw [key n, bnd_bad ht]
  | exn c s1 =>
    rw [bnd_exn ht]
    have h1 : whN 1 t f ρ s = .exn c s1 := by rw [key 0, bnd_exn ht]
    rw [whF_of 1 (by rw [h1]; exact fun z => nomatch z), h1]
  | ok b s1 =>
    rw [bnd_ok ht]
    cases b with
    | false =>
      have h1 : whN 1 t f ρ s = .ok (.nx ρ) s1 := by rw [key 0, bnd_ok ht]; rfl
      rw [whF_of 1 (by rw [h1]; exact fun z => nomatch z), h1]
      rfl
    | true =>
      rw [if_pos rfl]
      cases hf : f ρ s1 with
      | bad =>
        rw [bnd_bad hf]
        refine bads ρ s fun ⟨n, h⟩ => h ?_
        cases n with
        | zero => rfl
        | succ n => rw [key n, bnd_ok ht, if_pos rfl, bnd_bad hf]
      | exn c s2 =>
        rw [bnd_exn hf]
        have h1 : whN 1 t f ρ s = .exn c s2 := by rw [key 0, bnd_ok ht, if_pos rfl, bnd_exn hf]
        rw [whF_of 1 (by rw [h1]; exact fun z => nomatch z), h1]
      | ok r s2 =>
        rw [bnd_ok hf]
        have step : ∀ n, whN (n + 1) t f ρ s = (match r with
          | .nx ρ' => whN n t f ρ'
          | .ct ρ' => whN n t f ρ'
          | .bk ρ' => ret (.nx ρ')
          | .rt d => ret (.rt d)) s2 := fun n => by rw [key n, bnd_ok ht, if_pos rfl, bnd_ok hf]
        have go : ∀ ρ', (∀ n, whN (n + 1) t f ρ s = whN n t f ρ' s2) → whF t f ρ s = whF t f ρ' s2 := fun ρ' hst => by
          by_cases hx : ∃ n, whN n t f ρ' s2 ≠ .bad
          · obtain ⟨n, hn⟩ := hx
            rw [whF_of (n + 1) (by rw [hst n]; exact hn), hst n, whF_of n hn]
          · rw [bads ρ' s2 hx]
            refine bads ρ s fun ⟨n, h⟩ => ?_
            cases n with
            | zero => exact h rfl
            | succ n => exact hx ⟨n, by rw [← hst n]; exact h⟩
        cases r with
        | nx ρ' => exact go ρ' step
        | ct ρ' => exact go ρ' step
        | bk ρ' =>
          rw [whF_of 1 (by rw [step 0]; exact fun z => nomatch z), step 0]
        | rt d =>
          rw [whF_of 1 (by rw [step 0]; exact fun z => nomatch z), step 0]
end
end CW
end
section
set_option maxRecDepth 100000
set_option maxHeartbeats 2000000
namespace CW
open PySem PySem.Spec PyProof.Rows L2
/-- lists that must stay as they are while they are walked -/
abbrev Gd := List (Nat × List P)
def gok (g : Gd) (s : S) : Prop := ∀ p ∈ g, s[p.1]? = some (some (.lst p.2))
theorem gok_nil (s : S) : gok [] s := fun _ h => nomatch h
def ItOk (K : PySem.W.Frag) (J : It) (W0 : Wd) (H0 : Hp) (xs : List P) (g : Gd) : Prop :=
  ∀ W H s, Ev W0 H0 W H → Abs K W s H → gok g s → ∀ i, (∀ x, xs[i]? = some x → J.go i H ∧ ∀ v H', J.yld i H v H' → Ev W H W H' ∧ PV K W.fr H' v x ∧ Abs K W s H') ∧ (xs.length = i → J.stop i H)
abbrev IF := En → M (List P × Gd)
def SI (C : Cf) (sc : Scope) (N : List Str) (k : Nat) (tg iter : Expr) (m : IF) : Prop :=
  ∀ X, Cok C sc N k X → ∃ t, PI X tg iter t ∧ ∀ σ H W s ρ (R : It → Hp → Prop), ER C W H σ ρ → Abs C.K W s H →
    Good (m ρ s) (fun xg s' => ∀ W' H' J, Ev W H W' H' → Abs C.K W' s' H' → ItOk C.K J W' H' xg.1 xg.2 → R J H') → t σ H R
section
variable {C : Cf} {sc : Scope} {N : List Str} {k : Nat} {pos p2 : Pos} {e a b tg iter : Expr} {m ma mb : EF} {es : List Expr} {ms : List EF} {sts : List Stmt} {f : SF}
/-- a list's address, and how it stands for the walk -/
def rowD : D → S → Option (List P × Gd)
  | .p (.lst xs), _ => some (xs, [])
  | .p (.con xs), _ => some (xs, [])
  | .obj n, s => match s[n]? with
    | some (some (.lst xs)) => some (xs, [(n, xs)])
    | _ => none
  | _, _ => none
def RowOk (K : PySem.W.Frag) (a : Addr) (W0 : Wd) (H0 : Hp) (xs : List P) (g : Gd) : Prop := ∀ W H s, Ev W0 H0 W H → Abs K W s H → gok g s → ∃ vs, SqL K H a vs ∧ PVs K W.fr H vs xs
theorem row_go {W : Wd} {H : Hp} {s : S} {v : V} {d : D} {xs : List P} {g : Gd} (r : DV C.K W H v d) (A : Abs C.K W s H) (h : rowD d s = some (xs, g)) : ∃ a, v = .ref a ∧ (∃ vs, SqL C.K H a vs) ∧ RowOk C.K a W H xs g := by
  cases d with
  | obj n =>
    unfold rowD at h
    dsimp only at h
    split at h
    · rename_i ys hs
      cases h
      obtain ⟨a, h4, rfl⟩ := r
      obtain ⟨a', h5, _, vs, h6, h7⟩ := A.ob n _ hs
      rw [h4] at h5
      cases h5
      refine ⟨a, rfl, ⟨vs, SqL.of h6⟩, fun W1 H1 s1 e A1 hg => ?_⟩
      obtain ⟨a', h5, _, us, h8, h9⟩ := A1.ob n _ (hg (n, xs) List.mem_cons_self)
      obtain ⟨q, hq⟩ := e.io
      rw [hq, List.getElem?_append_left (List.getElem?_eq_some_iff.mp h4).1, h4] at h5
      cases h5
      exact ⟨us, SqL.of h8, h9⟩
    · cases h
  | p z =>
    cases r with
    | lst hf hq hr =>
      cases h
      exact ⟨_, rfl, ⟨_, SqL.of hq⟩, fun W1 H1 s1 e A1 hg => ⟨_, SqL.of (e.fk _ _ hf hq), PVs.up e hr⟩⟩
    | con hq hr =>
      cases h
      exact ⟨_, rfl, ⟨_, hq.sql⟩, fun W1 H1 s1 e A1 hg => ⟨_, (e.cs hq).sql, PVs.up e hr⟩⟩
    | _ => cases h
theorem PVs.len_get {K : PySem.W.Frag} {F : Addr → Prop} {H : Hp} {vs : List V} {xs : List P} {i : Nat} {v : V} {x : P} (h : PVs K F H vs xs) (hx : xs[i]? = some x) (hv : vs[i]? = some v) : PV K F H v x := by
  obtain ⟨u, h1, h2⟩ := h.get hx
  rw [hv] at h1
  cases h1
  exact h2
theorem itl_ok {a : Addr} {W : Wd} {H : Hp} {xs : List P} {g : Gd} (h : RowOk C.K a W H xs g) : ItOk C.K (Itl C.K a) W H xs g := fun W1 H1 s1 e A1 hg i => by
  obtain ⟨vs, h1, h2⟩ := h W1 H1 s1 e A1 hg
  refine ⟨fun x hx => ?_, fun hi => ⟨vs, h1, by rw [h2.len]; exact Nat.le_of_eq hi⟩⟩
  obtain ⟨v, h3, h4⟩ := h2.get hx
  refine ⟨⟨vs, v, h1, h3⟩, fun u H' hy => ?_⟩
  obtain ⟨rfl, hu⟩ := hy
  exact ⟨Ev.rfl, h2.len_get hx (hu vs h1), A1⟩
theorem itt_ok {a : Addr} {W : Wd} {H : Hp} {vs : List V} {xs : List P} (h1 : SqT C.K H a vs) (h2 : PVs C.K W.fr H vs xs) : ItOk C.K (Itt C.K a) W H xs [] := fun W1 H1 s1 e A1 hg i => by
  refine ⟨fun x hx => ?_, fun hi => ⟨vs, e.sqt h1, by rw [h2.len]; exact Nat.le_of_eq hi⟩⟩
  obtain ⟨v, h3, h4⟩ := h2.get hx
  refine ⟨⟨vs, v, e.sqt h1, h3⟩, fun u H' hy => ?_⟩
  obtain ⟨rfl, hu⟩ := hy
  exact ⟨Ev.rfl, (PVs.up e h2).len_get hx (hu vs (e.sqt h1)), A1⟩
theorem pi_or {X : Cx} {t u : TI} (h1 : PI X tg iter t) (h2 : PI X tg iter u) : PI X tg iter (fun σ H R => t σ H R ∨ u σ H R) := ⟨fun pins s σ H R I q => by
  rcases q with q | q
  · exact h1.run pins s σ H R I q
  · exact h2.run pins s σ H R I q⟩
/-- over a list or a tuple -/
def rowI (m : EF) : IF := fun ρ => bnd (m ρ) fun d s => match d with
  | .p (.tup xs) => .ok (xs, []) s
  | d => match rowD d s with
    | some r => .ok r s
    | none => .bad
/-- over a list, over a tuple: said which -/
def lstI (m : EF) : IF := fun ρ => bnd (m ρ) fun d s => match rowD d s with
  | some r => .ok r s
  | none => .bad
def tupI (m : EF) : IF := fun ρ => bnd (m ρ) fun d s => match d with
  | .p (.tup xs) => .ok (xs, []) s
  | _ => .bad
theorem i_lst (h : SE C sc N k e m) : SI C sc N k tg e (lstI m) := fun X ok => by
  obtain ⟨t, p, q⟩ := h X ok
  refine ⟨_, pi_list p, fun σ H W s ρ R er A g => ?_⟩
  refine q σ H W s ρ _ er A ((Good.bnd g).mono fun d s1 z W1 H1 v e1 r1 A1 => ?_)
  split at z
  · rename_i r hr
    obtain ⟨xs, gd⟩ := r
    obtain ⟨a, rfl, h1, h2⟩ := row_go r1 A1 hr
    rw [ok.eK]
    exact ⟨a, rfl, h1, z W1 H1 _ e1 A1 (itl_ok h2)⟩
  · exact z.elim
theorem i_tup (h : SE C sc N k e m) : SI C sc N k tg e (tupI m) := fun X ok => by
  obtain ⟨t, p, q⟩ := h X ok
  refine ⟨_, pi_tup p, fun σ H W s ρ R er A g => ?_⟩
  refine q σ H W s ρ _ er A ((Good.bnd g).mono fun d s1 z W1 H1 v e1 r1 A1 => ?_)
  split at z
  · cases r1 with
    | tup h1 h2 =>
      rw [ok.eK]
      exact ⟨_, rfl, ⟨_, h1⟩, z W1 H1 _ e1 A1 (itt_ok h1 h2)⟩
  · exact z.elim
/-- a name that holds a list or a tuple: asked twice, which is no matter -/
theorem i_row (h : SE C sc N k e m) : SI C sc N k tg e (rowI m) := fun X ok => by
  obtain ⟨t, p, q⟩ := i_lst (tg := tg) h X ok
  obtain ⟨t2, p2, q2⟩ := i_tup (tg := tg) h X ok
  refine ⟨_, pi_or p p2, fun σ H W s ρ R er A g => ?_⟩
  have g1 := Good.bnd g
  cases e1 : m ρ s with
  | bad =>
    rw [e1] at g1
    exact g1.elim
  | exn _ _ =>
    rw [e1] at g1
    exact g1.elim
  | ok d s1 =>
    rw [e1] at g1
    have left : Good (lstI m ρ s) (fun xg s' => ∀ W' H' J, Ev W H W' H' → Abs C.K W' s' H' → ItOk C.K J W' H' xg.1 xg.2 → R J H') → t σ H R ∨ t2 σ H R := fun z => Or.inl (q σ H W s ρ R er A z)
    have right : Good (tupI m ρ s) (fun xg s' => ∀ W' H' J, Ev W H W' H' → Abs C.K W' s' H' → ItOk C.K J W' H' xg.1 xg.2 → R J H') → t σ H R ∨ t2 σ H R := fun z => Or.inr (q2 σ H W s ρ R er A z)
    unfold lstI at left
    unfold tupI at right
    rw [bnd_ok e1] at left right
    cases d with
    | obj n => exact left g1
    | p z =>
      cases z with
      | tup xs => exact right g1
      | _ => exact left g1
def ranP (lo : Int) (n : Nat) : List P := (List.range n).map fun i => .int (lo + (i : Nat))
theorem ranP_len (lo : Int) (n : Nat) : (ranP lo n).length = n := by
  unfold ranP
  rw [List.length_map, List.length_range]
theorem itr_ok {lo : Int} {n : Nat} {W : Wd} {H : Hp} : ItOk C.K (Itr lo n) W H (ranP lo n) [] := fun W1 H1 s1 e A1 hg i => by
  refine ⟨fun x hx => ?_, fun hi => by rw [ranP_len] at hi; exact Nat.le_of_eq hi⟩
  have hi : i < n := by
    have z := (List.getElem?_eq_some_iff.mp hx).1
    rw [ranP_len] at z
    exact z
  refine ⟨hi, fun u H' hy => ?_⟩
  obtain ⟨rfl, rfl⟩ := hy
  unfold ranP at hx
  rw [List.getElem?_map, List.getElem?_range hi] at hx
  cases hx
  exact ⟨Ev.rfl, .int _, A1⟩
noncomputable def r1I (ms : List EF) : IF := fun ρ => bnd (evA ms ρ) fun ds s => match ds with
  | [.p (.int j)] => @ite _ (-(2 ^ 62) ≤ j ∧ j < 2 ^ 62) (Classical.propDecidable _) (.ok (ranP 0 j.toNat, []) s) .bad
  | _ => .bad
theorem i_r1 (ha : SAs C sc N k [a] ms) (hm : C.mg "range" = none) (hg : GlS sc "range" := by rfl) (hs : ∀ env, starEach [a] env = [(false, eval a env)] := by intro _; rfl) : SI C sc N k tg (.Call (.Name "range" p2) [a] [] pos) (r1I ms) := fun X ok => by
  obtain ⟨t, p, q⟩ := ha X ok
  refine ⟨_, pi_range1 (hg.of ok) (by rw [ok.em]; exact hm) p (hs X.env), fun σ H W s ρ R er A g => ?_⟩
  refine q σ H W s ρ _ er A ((Good.bnd g).mono fun ds s1 z W1 H1 vs e1 r1 A1 => ?_)
  split at z
  · split at z
    · rename_i hb
      obtain ⟨x, rfl, hx⟩ := dvs1 r1
      cases hx
      exact ⟨_, rfl, hb.1, hb.2, z W1 H1 _ e1 A1 itr_ok⟩
    · exact z.elim
  · exact z.elim
noncomputable def r2I (ms : List EF) : IF := fun ρ => bnd (evA ms ρ) fun ds s => match ds with
  | [.p (.int i), .p (.int j)] => @ite _ (-(2 ^ 62) ≤ i ∧ i < 2 ^ 62 ∧ -(2 ^ 62) ≤ j ∧ j < 2 ^ 62) (Classical.propDecidable _) (.ok (ranP i (j - i).toNat, []) s) .bad
  | _ => .bad
theorem i_r2 (ha : SAs C sc N k [a, b] ms) (hm : C.mg "range" = none) (hg : GlS sc "range" := by rfl) (hs : ∀ env, starEach [a, b] env = [(false, eval a env), (false, eval b env)] := by intro _; rfl) (hs2 : ∀ env, starEach [b] env = [(false, eval b env)] := by intro _; rfl) :
    SI C sc N k tg (.Call (.Name "range" p2) [a, b] [] pos) (r2I ms) := fun X ok => by
  obtain ⟨t, p, q⟩ := ha X ok
  refine ⟨_, pi_range2 (hg.of ok) (by rw [ok.em]; exact hm) p (hs X.env) (hs2 X.env), fun σ H W s ρ R er A g => ?_⟩
  refine q σ H W s ρ _ er A ((Good.bnd g).mono fun ds s1 z W1 H1 vs e1 r1 A1 => ?_)
  split at z
  · split at z
    · rename_i hb
      obtain ⟨x, y, rfl, hx, hy⟩ := dvs2 r1
      cases hx
      cases hy
      exact ⟨_, _, rfl, hb, z W1 H1 _ e1 A1 itr_ok⟩
    · exact z.elim
  · exact z.elim
def zipP (xs ys : List P) : List P := xs.zipWith (fun x y => .tup [x, y]) ys
open Classical in
noncomputable def forL (g : Gd) (t : GF) (b : SF) : List P → SF
  | [] => fun ρ s => if gok g s then .ok (.nx ρ) s else .bad
  | x :: xs => fun ρ s => if gok g s then bnd (t (.p x) ρ) (fun ρ1 => bnd (b ρ1) fun r => match r with
    | .nx ρ' => forL g t b xs ρ'
    | .ct ρ' => forL g t b xs ρ'
    | .bk ρ' => ret (.nx ρ')
    | .rt d => ret (.rt d)) s else .bad
noncomputable def forF (i : IF) (t : GF) (b : SF) : SF := fun ρ => bnd (i ρ) fun xg => forL xg.2 t b xg.1 ρ
theorem x_for {i : IF} {t : GF} {pl : List Nat} (hi : SI C sc N k tg iter i) (hg : SG C sc N k tg t pl) (hb : SB C sc N k sts f) (hs : ∀ env x, foldedSetIterable iter env x = pure x := by intro _ _; rfl) : SS C sc N k (.For tg iter sts [] pos) (forF i t f) := fun X ok => by
  obtain ⟨ti, p, q⟩ := hi X ok.toCok
  obtain ⟨tt, p', q'⟩ := hg X ok.toCok
  obtain ⟨tb, p2, q2⟩ := hb X ok
  refine ⟨_, ps_for ok.po ok.calm p p' p2 (hs X.env), fun D σ H W s ρ er A g => ?_⟩
  refine q σ H W s ρ _ er A ((Good.bnd g).mono fun xg s1 z W1 H1 J e1 A1 io => ?_)
  obtain ⟨xs, gd⟩ := xg
  refine ⟨fun i m σ' H' => ∃ W' s' ρ', Ev W1 H1 W' H' ∧ ER C W' H' σ' ρ' ∧ Abs C.K W' s' H' ∧ i + m = xs.length ∧ Good (forL gd t f (xs.drop i) ρ' s') (PoF C W' H' D), ⟨xs.length, W1, s1, ρ, Ev.rfl, er.up e1, A1, by simp, Good.mono z fun _ _ w => w.up e1⟩, ?_⟩
  rintro i m σ2 H2 ⟨W2, s2, ρ2, e2, er2, A2, hm, g2⟩
  by_cases hi : i < xs.length
  · rw [List.drop_eq_getElem_cons hi] at g2
    unfold forL at g2
    split at g2
    · rename_i gk
      obtain ⟨hgo, hy⟩ := (io W2 H2 s2 e2 A2 gk i).1 xs[i] (List.getElem?_eq_getElem hi)
      refine Or.inr ⟨hgo, fun σ' H' => ∃ W' s' ρ', Ev W1 H1 W' H' ∧ ER C W' H' σ' ρ' ∧ Abs C.K W' s' H' ∧ Good (forL gd t f (xs.drop (i + 1)) ρ' s') (PoF C W' H' D), ?_, fun v H3 hv => ?_⟩
      · rintro σ' H' ⟨W', s', ρ', a1, a2, a3, a4⟩
        exact ⟨m - 1, by omega, W', s', ρ', a1, a2, a3, by omega, a4⟩
      · obtain ⟨e3, r3, A3⟩ := hy v H3 hv
        refine q' v _ σ2 H3 W2 s2 ρ2 _ (show DV C.K W2 H3 v (.p xs[i]) from r3) (er2.up e3) A3 ((Good.bnd g2).mono fun ρ1 s4 z4 W4 H4 σ4 e4 er4 A4 _ => ?_)
        refine q2 _ σ4 H4 W4 s4 ρ1 er4 A4 ((Good.bnd z4).mono fun r s5 z5 => ?_)
        have e34 := e3.trans e4
        cases r with
        | nx ρ' => exact fun W5 H5 σ5 e5 er5 A5 => ⟨W5, s5, ρ', (e2.trans e34).trans e5, er5, A5, Good.mono z5 fun _ _ w => w.up (e34.trans e5)⟩
        | ct ρ' => exact fun W5 H5 σ5 e5 er5 A5 => ⟨W5, s5, ρ', (e2.trans e34).trans e5, er5, A5, Good.mono z5 fun _ _ w => w.up (e34.trans e5)⟩
        | bk ρ' => exact fun W5 H5 σ5 e5 er5 A5 => z5 W5 H5 σ5 (e34.trans e5) er5 A5
        | rt d => exact fun W5 H5 v5 e5 r5 A5 => z5 W5 H5 v5 (e34.trans e5) r5 A5
    · exact g2.elim
  · rw [List.drop_eq_nil_of_le (Nat.le_of_not_lt hi)] at g2
    unfold forL at g2
    split at g2
    · rename_i gk
      exact Or.inl ⟨(io W2 H2 s2 e2 A2 gk i).2 (show xs.length = i by omega), g2 W2 H2 σ2 Ev.rfl er2 A2⟩
    · exact g2.elim
end
end CW
end
section
set_option maxRecDepth 100000
set_option maxHeartbeats 2000000
namespace CW
open PySem PySem.Spec PyProof.Rows L2
section
variable {C : Cf} {sc scope : Scope} {N : List Str} {k : Nat} {pos p2 : Pos} {e a b tg iter elt : Expr} {m ma mb : EF} {es ifs : List Expr} {ms : List EF} {sts : List Stmt} {f : SF}
/-- a list that nobody has seen as yet comes to light -/
theorem own_go {W : Wd} {H : Hp} {s : S} {fr : Bool} {xs : List P} {vs : List V} {Q : VK} {p : Addr} (A : Abs C.K W s H) (hp : H p = some (.lst vs)) (n1 : ¬ W.fr p) (n2 : p ∉ W.io) (n3 : ¬ W.pv p) (n4 : W.ow p = none) (r : PVs C.K W.fr H vs xs) (g : Good (mkL fr xs s) (Po C.K W H Q)) : Q (.ref p) H := by
  have there : H p ≠ none := by rw [hp]; exact fun z => nomatch z
  have notb : ∀ a ps, H a = some (.tbl ps) → a ≠ p := fun a ps h e => by
    rw [e, hp] at h
    cases h
  unfold mkL at g
  cases fr with
  | true =>
    rw [if_pos rfl] at g
    have ev : Ev W H (W.keep p) H := ⟨⟨[], by simp [Wd.keep]⟩, fun _ h => Or.inl h, fun _ _ _ h => h, fun _ _ h => h, fun _ _ _ h => h, fun _ h => h, fun _ _ _ h => h, rfl, fun _ _ h => h⟩
    refine g (W.keep p) H _ ev (PV.lst (Or.inr rfl) hp (PVs.up ev r)) ⟨A.len, A.nd, A.tr, fun a h => ?_, fun n o h => ?_, fun a h => ⟨(A.pd a h).1, fun z => ?_, (A.pd a h).2.2⟩, A.tt, fun a ps h => ⟨fun z => z.elim (A.tn a ps h).1 fun e => notb a ps h e, (A.tn a ps h).2⟩, fun b q h => ⟨(A.po b q h).1, fun z => z.elim (A.po b q h).2.1 fun e => (by rw [e] at h; exact nomatch n4.symm.trans h), (A.po b q h).2.2⟩⟩
    · rcases h with h | h
      · exact A.ft a h
      · rw [h]
        exact there
    · obtain ⟨a, h1, h2, h3⟩ := A.ob n o h
      refine ⟨a, h1, fun z => ?_, OV.up ev rfl (fun _ _ _ => rfl) h3⟩
      rcases z with z | z
      · exact h2 z
      · exact n2 (by rw [← z]; exact List.mem_of_getElem? h1)
    · rcases z with z | z
      · exact (A.pd a h).2.1 z
      · exact n3 (by rw [← z]; exact h)
  | false =>
    rw [if_neg Bool.false_ne_true] at g
    have ev : Ev W H (W.add p) H := ⟨⟨[p], rfl⟩, fun _ h => h, fun _ _ _ h => h, fun _ _ h => h, fun _ _ _ h => h, fun _ h => h, fun _ _ _ h => h, rfl, fun _ _ h => h⟩
    have at_ : (W.add p).io[s.length]? = some p := by
      show (W.io ++ [p])[s.length]? = some p
      rw [← A.len]
      simp
    refine g (W.add p) H _ ev ⟨p, at_, rfl⟩ ⟨by simp [Wd.add, A.len], ?_, fun a h => ?_, A.ft, fun n o h => ?_, fun a h => ⟨(A.pd a h).1, (A.pd a h).2.1, fun z => ?_⟩, A.tt, fun a ps h => ⟨(A.tn a ps h).1, (A.tn a ps h).2.1, fun z => (List.mem_append.mp z).elim (A.tn a ps h).2.2 fun e => notb a ps h (by simpa using e)⟩, fun b q h => ⟨(A.po b q h).1, (A.po b q h).2.1, (A.po b q h).2.2.1, fun z => (List.mem_append.mp z).elim (A.po b q h).2.2.2 fun e => (by
      have e : b = p := by simpa using e
      have h : W.ow b = some q := h
      rw [e, n4] at h
      cases h)⟩⟩
    · refine List.nodup_append.mpr ⟨A.nd, by simp, fun a ha b hb e => ?_⟩
      have hb' : b = p := by simpa using hb
      exact n2 (by rw [← hb', ← e]; exact ha)
    · rcases List.mem_append.mp h with h | h
      · exact A.tr a h
      · have e : a = p := by simpa using h
        rw [e]
        exact there
    · by_cases hn : n < s.length
      · rw [List.getElem?_append_left hn] at h
        obtain ⟨a, h1, h2, h3⟩ := A.ob n o h
        refine ⟨a, ?_, h2, OV.up ev rfl (fun _ _ _ => rfl) h3⟩
        show (W.io ++ [p])[n]? = some a
        rw [List.getElem?_append_left (by rw [A.len]; exact hn)]
        exact h1
      · have hn2 : n = s.length := by
          have h4 := (List.getElem?_eq_some_iff.mp h).1
          simp at h4
          omega
        subst hn2
        have hq : o = .lst xs := by
          simp at h
          exact h.symm
        subst hq
        exact ⟨p, at_, n1, vs, hp, PVs.up ev r⟩
    · rcases List.mem_append.mp z with z | z
      · exact (A.pd a h).2.2 z
      · have e : a = p := by simpa using z
        exact n3 (by rw [← e]; exact h)
def wipE (ρ : En) : List Nat → En
  | [] => ρ
  | v :: vs => (wipE ρ vs).set v none
theorem ER.wip {C : Cf} {W : Wd} {H : Hp} {σ : L2.St} {ρ : En} (h : ER C W H σ ρ) : ∀ vs : List Nat, ER C W H (L2.wipe σ vs) (wipE ρ vs)
  | [] => h
  | v :: vs => ER.wipe (ER.wip h vs) v
theorem wipe_get {σ : L2.St} {j : Nat} : ∀ {vs : List Nat}, (L2.wipe σ vs)[j]? = if j ∈ vs ∧ j < σ.length then some none else σ[j]?
  | [] => by
    rw [if_neg (by simp)]
    rfl
  | v :: vs => by
    have ih := wipe_get (σ := σ) (j := j) (vs := vs)
    show ((L2.wipe σ vs).set v none)[j]? = _
    by_cases hv : v = j
    · subst hv
      by_cases hl : v < σ.length
      · rw [List.getElem?_set_self (by rw [wipe_length]; exact hl), if_pos ⟨List.mem_cons_self, hl⟩]
      · rw [List.getElem?_eq_none (by rw [List.length_set, wipe_length]; omega), if_neg fun z => hl z.2, List.getElem?_eq_none (by omega)]
    · rw [List.getElem?_set_ne hv, ih]
      have e : (j ∈ v :: vs ∧ j < σ.length) = (j ∈ vs ∧ j < σ.length) := by
        rw [List.mem_cons]
        apply propext
        constructor
        · rintro ⟨h | h, h2⟩
          · exact absurd h.symm hv
          · exact ⟨h, h2⟩
        · rintro ⟨h, h2⟩
          exact ⟨Or.inr h, h2⟩
      simp only [e]
theorem wipe_agr {σ σ2 : L2.St} {pl vs : List Nat} (h : Agr pl (L2.wipe σ vs) σ2) (hs : ∀ i ∈ pl, i ∈ vs) : L2.wipe σ2 vs = L2.wipe σ vs := by
  apply List.ext_getElem?
  intro j
  have hl : σ2.length = σ.length := by rw [h.1, wipe_length]
  rw [wipe_get, wipe_get, hl]
  split
  · rfl
  · rename_i hj
    by_cases hm : j ∈ pl
    · have hv := hs j hm
      have hge : ¬ j < σ.length := fun z => hj ⟨hv, z⟩
      rw [List.getElem?_eq_none (by omega), List.getElem?_eq_none (by omega)]
    · rw [h.2 j hm, wipe_get, if_neg hj]
open Classical in
noncomputable def lcL (own : List Nat) (g : Gd) (t : GF) (c : TF) (m : EF) (ρ : En) : List P → M (List P)
  | [] => fun s => if gok g s then .ok [] s else .bad
  | x :: xs => fun s => if gok g s then bnd (t (.p x) (wipE ρ own)) (fun ρ1 => bnd (c ρ1) fun b => if b = true then bnd (m ρ1) (fun d => match d with
      | .p y => bnd (lcL own g t c m ρ xs) fun r => ret (y :: r)
      | .obj _ => bad) else lcL own g t c m ρ xs) s else .bad
noncomputable def lcE (fr : Bool) (i : IF) (own : List Nat) (t : GF) (c : TF) (m : EF) : EF := fun ρ => bnd (i ρ) fun xg s => if xg.1.length ≤ sizeLine then bnd (lcL own xg.2 t c m ρ xg.1) (mkL fr) s else .bad
def yesT : TF := fun _ s => .ok true s
/-- the tests of a comprehension -/
def STs (C : Cf) (sc : Scope) (N : List Str) (k : Nat) (ifs : List Expr) (m : TF) : Prop :=
  ∀ X, Cok C sc N k X → ∃ t, PTs X ifs t ∧ ∀ σ H W s ρ Q, ER C W H σ ρ → Abs C.K W s H → Good (m ρ s) (PoT C.K W H Q) → t σ H Q
theorem c_yes : STs C sc N k [] yesT := fun X ok => ⟨_, pts_nil, fun σ H W s ρ Q er A g => g W H Ev.rfl A⟩
theorem c_if {t : TF} (h : ST C sc N k e t) : STs C sc N k [e] t := fun X ok => by
  obtain ⟨u, p, q⟩ := h X ok
  exact ⟨_, pts_one p, q⟩
abbrev Bx := Shared × Hp × Addr × List (Str × Addr) × List Addr
abbrev inB (X : Cx) (scope : Scope) (i : Bx) : Cx := X.blk i.1 i.2.1 scope (compEnvC scope i.2.2.2.1 i.2.2.1 X.env) i.2.2.2.2
theorem free_relS {sc : Scope} : ∀ {names : List (Str × NameKind)} {x : Str}, names.lookup x = some .free →
    (names.map fun (n, k) => if (k == NameKind.free && sc.kind == .function && sc.names.lookup n == some .cell) then (n, NameKind.cell) else (n, k)).lookup x = some .cell ∨
    (names.map fun (n, k) => if (k == NameKind.free && sc.kind == .function && sc.names.lookup n == some .cell) then (n, NameKind.cell) else (n, k)).lookup x = some .free
  | [], _, h => by simp at h
  | (n, k0) :: r, x, h => by
    have ih := @free_relS sc r x
    rw [List.map_cons]
    cases hx : x == n with
    | true =>
      simp only [List.lookup_cons, hx] at h
      cases h
      dsimp only
      split
      · exact Or.inl (by simp only [List.lookup_cons, hx])
      · exact Or.inr (by simp only [List.lookup_cons, hx])
    | false =>
      simp only [List.lookup_cons, hx] at h
      dsimp only
      split
      · simp only [List.lookup_cons, hx]
        exact ih h
      · simp only [List.lookup_cons, hx]
        exact ih h
theorem blk_lik {es : Scope} {own : List (Str × Nat)} (h : BlkOk N sc scope own) (l : Lik sc es) : BlkOk N es scope own :=
  ⟨h.kind, h.uniq, h.ix, fun y hy e => by
    rcases h.free y hy e with z | z
    · exact Or.inl (l.cel _ z)
    · exact l.fre _ z, h.own⟩
theorem blk_ok {X : Cx} (ok : Cok C sc N k X) (i : Bx) : Cok C scope N k (inB X scope i) where
  pr := ok.pr
  ew := ok.ew
  eK := ok.eK
  em := ok.em
  eb := ok.eb
  calm := ok.calm
  rm := ok.rm
  gd := ok.gd
  nN := ok.nN
  nd := ok.nd
  eL := {
    loc := fun x h => lookup_relS_keep (by decide) h
    cel := fun x h => lookup_relS_keep (by decide) h
    fre := fun x h => free_relS h
    glo := fun x h => lookup_relS_keep (by decide) h }
  po := PassesOwn.never
  fc := fun x h => by
    show (scope.names.lookup x == some .cell) = true
    rw [h]
    rfl
  cq := ok.cq
theorem uni_e {X : Cx} (ok : Cok C sc N k X) (h : SE C scope N k e m) : ∃ t, (∀ i, PE (inB X scope i) e t) ∧ ∀ σ H W s ρ Q, ER C W H σ ρ → Abs C.K W s H → Good (m ρ s) (Po C.K W H Q) → t σ H Q := by
  have hb := fun i => h (inB X scope i) (blk_ok ok i)
  exact ⟨fun σ H Q => ∀ i, Classical.choose (hb i) σ H Q, fun i => ⟨fun pins s σ H Q I w => (Classical.choose_spec (hb i)).1.run pins s σ H Q I (w i)⟩, fun σ H W s ρ Q er A g i => (Classical.choose_spec (hb i)).2 σ H W s ρ Q er A g⟩
theorem uni_t {X : Cx} {c : TF} (ok : Cok C sc N k X) (h : STs C scope N k ifs c) : ∃ t, (∀ i, PTs (inB X scope i) ifs t) ∧ ∀ σ H W s ρ Q, ER C W H σ ρ → Abs C.K W s H → Good (c ρ s) (PoT C.K W H Q) → t σ H Q := by
  have hb := fun i => h (inB X scope i) (blk_ok ok i)
  exact ⟨fun σ H Q => ∀ i, Classical.choose (hb i) σ H Q, fun i => ⟨fun pins s σ H Q I w => (Classical.choose_spec (hb i)).1.run pins s σ H Q I (w i)⟩, fun σ H W s ρ Q er A g i => (Classical.choose_spec (hb i)).2 σ H W s ρ Q er A g⟩
theorem uni_g {X : Cx} {g : GF} {pl : List Nat} (ok : Cok C sc N k X) (h : SG C scope N k tg g pl) : ∃ t, (∀ i, PG (inB X scope i) tg t) ∧ ∀ v d σ H W s ρ Q, DV C.K W H v d → ER C W H σ ρ → Abs C.K W s H → Good (g d ρ s) (PoG C W H pl σ Q) → t v σ H Q := by
  have hb := fun i => h (inB X scope i) (blk_ok ok i)
  exact ⟨fun v σ H Q => ∀ i, Classical.choose (hb i) v σ H Q, fun i => ⟨fun pins s σ H v u Q I r w => (Classical.choose_spec (hb i)).1.run pins s σ H v u Q I r (w i)⟩, fun v d σ H W s ρ Q r er A g i => (Classical.choose_spec (hb i)).2 v d σ H W s ρ Q r er A g⟩
theorem upd_id {H : Hp} {p : Addr} {o : HO} (h : H p = some o) : upd H p o = H := by
  funext b
  by_cases e : b = p
  · rw [e, upd_same, h]
  · rw [upd_ne e]
theorem lc_go {i : IF} {own : List Nat} {pl : List Nat} {t : GF} {c : TF} {fr : Bool} {ti : TI} {tt : TG} {tc : TT} {te : TE} {σ : L2.St} {H : Hp} {W : Wd} {s : S} {ρ : En} {Q : VK}
    (q : ∀ σ H W s ρ (R : It → Hp → Prop), ER C W H σ ρ → Abs C.K W s H → Good (i ρ s) (fun xg s' => ∀ W' H' J, Ev W H W' H' → Abs C.K W' s' H' → ItOk C.K J W' H' xg.1 xg.2 → R J H') → ti σ H R)
    (q1 : ∀ v d σ H W s ρ Q, DV C.K W H v d → ER C W H σ ρ → Abs C.K W s H → Good (t d ρ s) (PoG C W H pl σ Q) → tt v σ H Q) (hpl : ∀ i ∈ pl, i ∈ own)
    (q2 : ∀ σ H W s ρ Q, ER C W H σ ρ → Abs C.K W s H → Good (c ρ s) (PoT C.K W H Q) → tc σ H Q) (q3 : ∀ σ H W s ρ Q, ER C W H σ ρ → Abs C.K W s H → Good (m ρ s) (Po C.K W H Q) → te σ H Q)
    (er : ER C W H σ ρ) (A : Abs C.K W s H) (g : Good (lcE fr i own t c m ρ s) (Po C.K W H Q)) : tLc ti tt tc te own σ H Q := by
  refine q σ H W s ρ _ er A ((Good.bnd g).mono fun xg s1 z W1 H1 J e1 A1 io => ?_)
  obtain ⟨xs, gd⟩ := xg
  have z : Good (if xs.length ≤ sizeLine then bnd (lcL own gd t c m ρ xs) (mkL fr) s1 else .bad) (Po C.K W H Q) := z
  split at z
  · rename_i hsz
    intro D hD
    have io : ItOk C.K J W1 H1 xs gd := io
    have nD1 : ¬ W1.fr D := fun z => A1.ft D z hD
    have nD2 : D ∉ W1.io := fun z => A1.tr D z hD
    have nD3 : ¬ W1.pv D := fun z => A1.pn z hD
    refine ⟨fun i m' H' => ∃ W' s' acc ys, Ev W1 H1 W' H' ∧ ¬ W'.fr D ∧ D ∉ W'.io ∧ ¬ W'.pv D ∧ W'.ow D = none ∧ H' D = some (.lst acc) ∧ PVs C.K W'.fr H' acc ys ∧ Abs C.K W' s' H' ∧ i + m' = xs.length ∧ ys.length ≤ i ∧
      Good (lcL own gd t c m ρ (xs.drop i) s') (fun r s2 => Good (mkL fr (ys ++ r) s2) (Po C.K W' H' Q)), ⟨xs.length, W1, s1, [], [], Ev.new hD, nD1, nD2, nD3, A1.nw hD, upd_same, .nil, A1.new hD, by simp, Nat.le_refl _, ?_⟩, ?_⟩
    · exact (Good.bnd z).mono fun r s2 w => Good.mono w fun _ _ w2 => w2.up (e1.trans (Ev.new hD))
    rintro i m' H2 ⟨W2, s2, acc, ys, e2, f1, f2, f3, f4, hd, ra, A2, hm, hy, g2⟩
    have hid : Ev W2 H2 (W2.hide D) H2 := Ev.hide
    have Ah : Abs C.K (W2.hide D) s2 H2 := A2.hide ⟨_, hd⟩ f1 f2 f4
    by_cases hi : i < xs.length
    · rw [List.drop_eq_getElem_cons hi] at g2
      unfold lcL at g2
      split at g2
      · rename_i gk
        obtain ⟨hgo, hyl⟩ := (io (W2.hide D) H2 s2 (e2.trans hid) Ah gk i).1 xs[i] (List.getElem?_eq_getElem hi)
        refine Or.inr ⟨hgo, fun H' => ∃ W' s' acc ys, Ev W1 H1 W' H' ∧ ¬ W'.fr D ∧ D ∉ W'.io ∧ ¬ W'.pv D ∧ W'.ow D = none ∧ H' D = some (.lst acc) ∧ PVs C.K W'.fr H' acc ys ∧ Abs C.K W' s' H' ∧ ys.length ≤ i + 1 ∧
          Good (lcL own gd t c m ρ (xs.drop (i + 1)) s') (fun r s2 => Good (mkL fr (ys ++ r) s2) (Po C.K W' H' Q)), ?_, fun v H3 hv => ?_⟩
        · rintro H' ⟨W', s', acc', ys', b1, b2, b3, b4, b4o, b5, b6, b7, b8, b9⟩
          exact ⟨m' - 1, by omega, W', s', acc', ys', b1, b2, b3, b4, b4o, b5, b6, b7, by omega, b8, b9⟩
        · obtain ⟨e3, r3, A3⟩ := hyl v H3 hv
          have er3 : ER C (W2.hide D) H3 (L2.wipe σ own) (wipE ρ own) := ER.wip (er.up (e1.trans (e2.trans (hid.trans e3)))) own
          refine q1 v _ _ H3 _ s2 _ _ (show DV C.K (W2.hide D) H3 v (.p xs[i]) from r3) er3 A3 ((Good.bnd g2).mono fun ρ1 s4 z4 W4 H4 σ4 e4 er4 A4 ag => ?_)
          refine ⟨wipe_agr ag hpl, q2 σ4 H4 W4 s4 ρ1 _ er4 A4 ((Good.bnd z4).mono fun bb s5 z5 W5 H5 e5 A5 => ?_)⟩
          cases bb with
          | true =>
            rw [if_pos rfl] at z5
            refine iteT (q3 σ4 H5 W5 s5 ρ1 _ (er4.up e5) A5 ((Good.bnd z5).mono fun d s6 z6 W6 H6 y e6 r6 A6 => ?_))
            have e36 : Ev (W2.hide D) H2 W6 H6 := e3.trans (e4.trans (e5.trans e6))
            have hd6 : H6 D = some (.lst acc) := e36.pk D _ (Or.inr rfl) hd
            have pp : W6.pv D := e36.pv D (Or.inr rfl)
            cases d with
            | obj n => exact z6.elim
            | p y' =>
              have hal : acc.length < sizeLine := by rw [ra.len]; omega
              have ev : Ev W2 H2 (W6.show D) (upd H6 D (.lst (acc ++ [y]))) := Ev.grow e36 f3 A6 ⟨acc, hd6⟩
              obtain ⟨ev6, A7⟩ := Abs.grow (u := .lst (acc ++ [y])) A6 pp ⟨acc, hd6⟩
              have r6' : PV C.K (W6.show D).fr H6 y y' := r6
              refine ⟨acc, hd6, hal, W6.show D, s6, acc ++ [y], ys ++ [y'], e2.trans ev, (A6.pd D pp).2.1, (A6.pd D pp).2.2, fun z => z.2 rfl, A6.npo pp, upd_same, (PVs.up ev ra).app (.cons (PV.up ev6 r6') .nil), A7, by rw [List.length_append]; simp only [List.length_singleton]; omega, ?_⟩
              refine (Good.bnd z6).mono fun r s7 w => ?_
              rw [List.append_assoc]
              exact Good.mono w fun _ _ w2 => w2.up ev
          | false =>
            rw [if_neg Bool.false_ne_true] at z5
            refine iteF ?_
            have e35 : Ev (W2.hide D) H2 W5 H5 := e3.trans (e4.trans e5)
            have hd5 : H5 D = some (.lst acc) := e35.pk D _ (Or.inr rfl) hd
            have pp : W5.pv D := e35.pv D (Or.inr rfl)
            have ev : Ev W2 H2 (W5.show D) (upd H5 D (.lst acc)) := Ev.grow e35 f3 A5 ⟨acc, hd5⟩
            obtain ⟨ev5, A7⟩ := Abs.grow (u := .lst acc) A5 pp ⟨acc, hd5⟩
            rw [upd_id hd5] at ev A7
            exact ⟨W5.show D, s5, acc, ys, e2.trans ev, (A5.pd D pp).2.1, (A5.pd D pp).2.2, fun z => z.2 rfl, A5.npo pp, hd5, PVs.up ev ra, A7, by omega, Good.mono z5 fun _ _ w => Good.mono w fun _ _ w2 => w2.up ev⟩
      · exact g2.elim
    · rw [List.drop_eq_nil_of_le (Nat.le_of_not_lt hi)] at g2
      unfold lcL at g2
      split at g2
      · rename_i gk
        have g3 : Good (mkL fr (ys ++ []) s2) (Po C.K W2 H2 Q) := g2
        rw [List.append_nil] at g3
        exact Or.inl ⟨(io W2 H2 s2 e2 A2 gk i).2 (show xs.length = i by omega), own_go A2 hd f1 f2 f3 f4 ra g3⟩
      · exact g2.elim
  · exact z.elim
theorem s_lc (fr : Bool) (own : List (Str × Nat)) {i : IF} {t : GF} {c : TF} {pl : List Nat} (hi : SI C sc N k tg iter i) (hg : SG C scope N k tg t pl) (ht : STs C scope N k ifs c) (he : SE C scope N k elt m) (hpl : ∀ i ∈ pl, i ∈ own.map (·.2) := by decide)
    (bk : blkC N sc scope own = true := by decide +kernel) (hs : ∀ env x, foldedSetIterable iter env x = pure x := by intro _ _; rfl) : SE C sc N k (.ListComp elt [⟨tg, iter, ifs, 0⟩] scope pos) (lcE fr i (own.map (·.2)) t c m) := fun X ok => by
  obtain ⟨ti, p, q⟩ := hi X ok
  obtain ⟨tt, p1, q1⟩ := uni_g ok hg
  obtain ⟨tc, p2, q2⟩ := uni_t ok ht
  obtain ⟨te, p3, q3⟩ := uni_e ok he
  refine ⟨_, pe_lc ok.calm (by rw [ok.nN]; exact ok.nd) p (by rw [ok.nN]; exact blk_lik (blkOk_by bk) ok.eL) (fun s H C cl fp => p1 (s, H, C, cl, fp)) (fun s H C cl fp => p2 (s, H, C, cl, fp)) (fun s H C cl fp => p3 (s, H, C, cl, fp)) (hs X.env), fun σ H W s ρ Q er A g => ?_⟩
  exact lc_go q q1 hpl q2 q3 er A g
/-- y = [..] on one line -/
theorem x_lc (j : Nat) (fr : Bool) (own : List (Str × Nat)) {y : Str} {py spos : Pos} {i : IF} {t : GF} {c : TF} {pl : List Nat} (hi : SI C sc N k tg iter i) (hg : SG C scope N k tg t pl) (ht : STs C scope N k ifs c) (he : SE C scope N k elt m) (hy : N[j]? = some y := by rfl)
    (hyl : sc.names.lookup y = some .local := by rfl) (hk : sc.kind = .function := by rfl) (hl : (py.line == pos.line) = true := by rfl) (hn : (scope.names.any fun (n, k) => n == y && (k == .local || k == .cell)) = false := by decide +kernel)
    (hpl : ∀ i ∈ pl, i ∈ own.map (·.2) := by decide) (bk : blkC N sc scope own = true := by decide +kernel) (hs : ∀ env x, foldedSetIterable iter env x = pure x := by intro _ _; rfl) :
    SS C sc N k (.Assign [.Name y py] (.ListComp elt [⟨tg, iter, ifs, 0⟩] scope pos) spos) (asgF (lcE fr i (own.map (·.2)) t c m) (setG j)) := fun X ok => by
  obtain ⟨ti, p, q⟩ := hi X ok.toCok
  obtain ⟨tt, p1, q1⟩ := uni_g ok.toCok hg
  obtain ⟨tc, p2, q2⟩ := uni_t ok.toCok ht
  obtain ⟨te, p3, q3⟩ := uni_e ok.toCok he
  refine ⟨_, ps_setLc (i := j) ok.calm (by rw [ok.nN]; exact ok.nd) (by rw [ok.nN]; exact hy) (by rw [ok.eS]; exact hyl) (sw_true (by rw [ok.eS]; exact hk) (by rw [ok.eS]; exact hyl) hl hn) p (by rw [ok.nN]; exact blk_lik (blkOk_by bk) ok.eL) (fun s H C cl fp => p1 (s, H, C, cl, fp)) (fun s H C cl fp => p2 (s, H, C, cl, fp))
    (fun s H C cl fp => p3 (s, H, C, cl, fp)) (hs X.env), fun D σ H W s ρ er A g => ?_⟩
  refine lc_go q q1 hpl q2 q3 er A ((Good.bnd g).mono fun d s1 z W1 H1 v e1 r1 A1 => ?_)
  exact z W1 H1 _ e1 ((er.up e1).put r1 j) A1
/-- a def whose defaults don't matter -/
structure FunA (K : PySem.W.Frag) (x qual : Str) (st : Stmt) (f : Addr) (fd : FuncData) (dV : Value) : Prop where
  ex : ∃ (oc : Value) (od : Option Addr) (kV doc pm : Value) (an : Option Addr) (cdv ct : Value) (osl : Array (Option Value)),
    fd = PySem.W.fnOf x qual (defArgs st) (defBody st) (defScope st) dV kV doc pm an cdv ct ∧ K.lookup f = some ⟨oc, od, .func fd, osl⟩ ∧ PySem.W.codeIn K cdv qual = true
  kp : PySem.W.keepIn K (.ref f) = true
theorem FunA.of {K : PySem.W.Frag} {x qual : Str} {st : Stmt} {f : Addr} {fd : FuncData} (F : Fun K x qual st f fd) : FunA K x qual st f fd .none := ⟨F.ex, F.kp⟩
open Classical in
/-- what is left of the state behind a def -/
noncomputable def fin (s : S) : D → M D
  | .p x, s' => if Keeps s s' then .ok (.p x) (s'.take s.length) else .bad
  | .obj n, s' => if n < s.length then (if Keeps s s' then .ok (.obj n) (s'.take s.length) else .bad) else .ok (.obj n) s'
noncomputable def defM (n nl : Nat) (m : SF) : List D → M D := fun ds s => if ds.length = n then (match m (ds.map some ++ List.replicate (nl - n) none) s with
  | .ok (.rt d) s' => fin s d s'
  | .ok (.nx _) s' => fin s (.p .non) s'
  | .exn c s' => .exn c s'
  | _ => .bad) else .bad
open Classical in
theorem fin_go {W W' : Wd} {H H' : Hp} {s s' : S} {d : D} {v : V} {Q : VK} (A : Abs C.K W s H) (e : Ev W H W' H') (r : DV C.K W' H' v d) (A' : Abs C.K W' s' H') (g : Good (fin s d s') (Po C.K W H Q)) : Q v H' := by
  cases d with
  | p x =>
    have g : Good (if Keeps s s' then .ok (.p x) (s'.take s.length) else .bad) (Po C.K W H Q) := g
    by_cases hk : Keeps s s'
    · rw [if_pos hk] at g
      exact g _ H' v e.cut (show DV C.K ⟨W.io, W'.fr, W'.pv, W'.tb, W'.ow⟩ H' v (.p x) from r) (A.cut e A' hk)
    · rw [if_neg hk] at g
      exact g.elim
  | obj n =>
    have g : Good (if n < s.length then (if Keeps s s' then .ok (.obj n) (s'.take s.length) else .bad) else .ok (.obj n) s') (Po C.K W H Q) := g
    by_cases hn : n < s.length
    · rw [if_pos hn] at g
      by_cases hk : Keeps s s'
      · rw [if_pos hk] at g
        obtain ⟨q, hq⟩ := e.io
        refine g _ H' v e.cut (DV.old (n := 0) r hq fun m hm => ?_) (A.cut e A' hk)
        cases hm
        rw [A.len]
        exact hn
      · rw [if_neg hk] at g
        exact g.elim
    · rw [if_neg hn] at g
      exact g W' H' v e r A'
theorem start_er {W : Wd} {H : Hp} {vs : List V} {ds : List D} {n : Nat} (r : DVs C.K W H vs ds) (hT : W.tb = C.tb) (hl : vs.length = n) : ER C W H (L2.start N vs) (ds.map some ++ List.replicate (N.length - n) none) := by
  have h1 := Paired.length r
  unfold L2.start
  refine ⟨by simp only [List.length_append, List.length_map, List.length_replicate, h1, ← hl], fun i d hd => ?_, hT⟩
  by_cases hi : i < ds.length
  · rw [List.getElem?_append_left (by simpa using hi), List.getElem?_map, List.getElem?_eq_getElem hi] at hd
    have hd' : ds[i] = d := Option.some.inj (Option.some.inj hd)
    rw [List.getElem?_append_left (by rw [List.length_map]; omega), List.getElem?_map]
    have key : ∀ {vs : List V} {ds : List D} {i : Nat} {d : D}, DVs C.K W H vs ds → ds[i]? = some d → ∃ v, vs[i]? = some v ∧ DV C.K W H v d := by
      intro vs ds i d hr
      induction hr generalizing i with
      | nil => intro z; simp at z
      | cons hh _ ih =>
        intro z
        cases i with
        | zero =>
          simp at z
          subst z
          exact ⟨_, rfl, hh⟩
        | succ i =>
          obtain ⟨v, a1, a2⟩ := ih (by simpa using z)
          exact ⟨v, by simpa using a1, a2⟩
    obtain ⟨v, a1, a2⟩ := key r (List.getElem?_eq_getElem hi)
    exact ⟨v, by rw [a1]; rfl, by rw [← hd']; exact a2⟩
  · rw [List.getElem?_append_right (by simpa using Nat.le_of_not_lt hi), List.getElem?_replicate] at hd
    split at hd <;> cases hd
theorem fn_body {x qual : Str} {st : Stmt} {f : Addr} {fd : FuncData} {dV : Value} {ps : List Str} {m : SF} (F : FunA C.K x qual st f fd dV) (Sc : FnScope N ps (defScope st)) (hb : SB C (defScope st) N k (defBody st) m) (hX : C.ex = fun _ => True) (hq : ∀ v q, C.cq = some (v, q) → v = fd.code ∧ q = qual ++ ".<locals>.") : Fn C (k + 1) f fd ps (spM C ps.length (defM ps.length N.length m)) := by
  obtain ⟨oc, od, kV, doc, pm, an, cdv, ct, osl, rfl, lk, hcd⟩ := F.ex
  refine ⟨fun vs H Q E h => h.1, fun A outer s H args us vs Q E hr hgd e0 bd r hsp => ?_⟩
  have hl : vs.length = ps.length := hsp.1
  have kin : C.K.In s.heap := e0.mod.kin.keeps fun b o e => (e0.bs b o e).1
  have lim : s.heap.NoLimit := e0.mod.nolimit.keeps fun b o e => (e0.bs b o e).1
  refine codeAny_call_function hr.depth (kin _ _ lk) rfl Sc.co Sc.gen rfl (PySem.W.codeRec_of kin hcd) (bd _ _ _ _ ?_)
  refine wpAny_newFunctionEnv_cells Sc.kind (fun y hy => ?_) fun env he s1 ic => ?_
  · rcases Sc.par y.1 (List.of_mem_zip (show (y.1, y.2) ∈ ps.zip us from hy)).1 with q | q
    · exact Or.inl q
    · exact Or.inr ⟨q, PySem.W.cellsFrom_some _ _ _ (Or.inl q)⟩
  · subst he
    refine ⟨lim.keeps ic.toInCall.keep, codeAny_func ?_⟩
    have I : Inv (cxOf CX0 C.pg C.w C.K C.mg C.base N qual (defScope st) f cdv A outer s H E) [] (L2.start N vs) H s1 := inv_start Sc hr.hd e0 hl r ic
    have cod : Cod C (defScope st) N k (cxOf CX0 C.pg C.w C.K C.mg C.base N qual (defScope st) f cdv A outer s H E).nox :=
      { pr := rfl, ew := rfl, eK := rfl, em := rfl, eb := rfl, calm := rfl, rm := hr.deeper _, gd := hgd, nN := rfl, nd := Sc.nd, eL := Lik.rfl, po := PassesOwn.never, fc := fun _ _ => rfl, eS := rfl, sk := rfl, fm := rfl, nx := rfl, cx := by rw [hX]; trivial, cq := fun v q h => ⟨(hq v q h).1.symm, (hq v q h).2.symm⟩ }
    obtain ⟨t, p, q⟩ := hb _ cod
    obtain ⟨_, W, s0, ds, rd, hT, A0, g⟩ := hsp
    have hds : ds.length = ps.length := by rw [← Paired.length rd]; exact hl
    unfold defM at g
    rw [if_pos hds] at g
    have end_ : ∀ {d : D} {s' : S}, Good (fin s0 d s') (Po C.K W H Q) → Po C.K W H Q d s' := fun {d s'} h W' H' v e rv A' => fin_go A0 e rv A' h
    have run := q { nx := fun _ H' => Q .non H', rt := Q } (L2.start N vs) H W s0 _ (start_er rd hT hl) A0 (by
      cases e : m (ds.map some ++ List.replicate (N.length - ps.length) none) s0 with
      | bad =>
        rw [e] at g
        exact g
      | exn _ _ =>
        rw [e] at g
        exact g
      | ok fl s' =>
        rw [e] at g
        cases fl with
        | rt d => exact end_ g
        | nx ρ => exact fun W' H' σ' ev er A' => end_ (d := .p .non) g W' H' .non ev PV.non A'
        | bk ρ => exact g.elim
        | ct ρ => exact g.elim)
    refine wpAny_mono (p.nox.run [] s1 (L2.start N vs) H _ I run) (fun fl s' hs => ?_) fun e s' hs => hs
    have done : ∀ {σ' : L2.St} {H' : Hp} {v : V} {u : Value}, Inv (cxOf CX0 C.pg C.w C.K C.mg C.base N qual (defScope st) f cdv A outer s H E) [] σ' H' s' → RelV v u → Q v H' → CE outer C.pg C.w H s Q u s' :=
      fun {σ' H' v u} J rv w => ⟨v, H', J.os, J.bare, J.base, J.hok, rv, w⟩
    match fl, hs with
    | .ret u, ⟨v, σ', H', J, rv, w⟩ => exact done J rv w
    | .next, ⟨σ', H', J, w⟩ => exact done (v := V.non) (u := Value.none) J rfl w
    | .brk, ⟨_, _, _, w⟩ => exact False.elim w
    | .cont, ⟨_, _, _, w⟩ => exact False.elim w
end
/-- the setting of a law's defs -/
abbrev cfL (P : Program) (w : World) (K : PySem.W.Frag) (mg : Str → Option Value) (base : Heap) (tb : List (Addr × Str)) : Cf := ⟨P, w, K, mg, base, true, fun _ => True, tb, none⟩
/-- the defs that make lambdas: code object, table, the lambdas' name -/
abbrev Mks := List (Addr × Addr × Str)
def Mks.tb (ms : Mks) : List (Addr × Str) := ms.map (·.2)
structure MkK (K : PySem.W.Frag) (ms : Mks) : Prop where
  hd : ∀ p ∈ ms, PySem.W.codeHdIn K p.1 p.2.1 = true
  no : ∀ p ∈ ms, K.lookup p.2.1 = none
def TabF (ms : Mks) (mg : Str → Option Value) (base : Heap) : Prop := ∀ p ∈ ms, LamX.TabB base mg p.1 p.2.1
section
variable {P₀ : Program} {w : World} {K : PySem.W.Frag} {mg mb : Str → Option Value}
/-- one way that the script may lie -/
theorem law_way {k : Nat} {fa a : Addr} {fd : FuncData} {x : Str} {m : List D → M D} {s1 : Shared} {ns : List Int} {H : Hp} {ms : Mks} (KX : K.In s1.heap) (hns : s1.heap.Ns mainGlobals mg) (hb : s1.heap.Ns builtinsNs mb) (hbb : ∀ x : Str, x ≠ "__name__" → mb x = bootBuiltins x)
    (hlim : s1.heap.NoLimit) (hg : s1.gens = #[]) (hr : Room k callerA) (MK : MkK K ms) (hT : ∀ p ∈ ms, s1.heap.get? p.2.1 = some (PySem.W.tabObj #[]))
    (hbm : ∃ (bm : Addr) (ob : Obj), mg "__builtins__" = some (.ref bm) ∧ bm ≠ builtinsNs ∧ s1.heap.get? bm = some ob ∧ ob.cls = .type "module" ∧ ob.dict = some builtinsNs ∧ ob.data = .plain)
    (F : ∀ base : Heap, TabF ms mg base → Fn (cfL P₀ w K mg base ms.tb) k fa fd [x] (spM (cfL P₀ w K mg base ms.tb) 1 m)) (hbind : ∀ (s : Shared) (u : Value), BindsTo s fd ⟨[u], []⟩ [(x, u)])
    (hm : ∃ s', m [.p (.con (ns.map P.int))] [] = .ok (.p (.bl true)) s') (hS : CS K H a (ns.map V.int)) (hok : HOk P₀ w H s1.heap) (hHt : ∀ p ∈ ms, H p.2.1 = some (.tbl #[]))
    (hH : ∀ b u, H b = some u → K.lookup b = none ∧ ((∃ o xs vs n, u = .frz o (.lst xs) ∧ s1.heap.get? b = some o ∧ o.data = .seq vs n) ∨ (u = .tbl #[] ∧ ∃ p ∈ ms, p.2.1 = b))) :
    codeAny (model P₀ w) callerA (.call (.ref fa) ⟨[.ref a], []⟩) (fun r s' => r = .ok (.ret (.bool true)) ∧ OldK s1.heap s'.heap ∧ s'.os = s1.os ∧ AllBare s'.gens) s1 := by
  have what : ∀ {b : Addr} {u : HO}, H b = some u → ∃ o, s1.heap.get? b = some o ∧ ((∃ vs n, o.data = .seq vs n) ∨ o.data = .fields #[]) := fun {b u} z => by
    rcases (hH b u z).2 with ⟨o, _, vs, n, _, e, d⟩ | ⟨_, p, hp, rfl⟩
    · exact ⟨o, e, Or.inl ⟨vs, n, d⟩⟩
    · exact ⟨_, hT p hp, Or.inr rfl⟩
  have off : ∀ {b : Addr} {o : Obj}, s1.heap.get? b = some o → (∀ vs n, o.data ≠ .seq vs n) → o.data ≠ .fields #[] → H b = none := fun {b o} e h1 h2 => by
    cases z : H b with
    | none => rfl
    | some u =>
      obtain ⟨o', e', d⟩ := what z
      rw [e] at e'
      cases e'
      rcases d with ⟨vs, n, d⟩ | d
      · exact (h1 vs n d).elim
      · exact (h2 d).elim
  have stay : ∀ {b : Addr} {o : Obj}, s1.heap.get? b = some o → H b = none → (hidT s1.heap H).get? b = some o := fun e n => hidT_get e n
  have nsd : ∀ {b : Addr} {q : Str → Option Value}, s1.heap.Ns b q → (hidT s1.heap H).Ns b q := fun {b q} h => by
    obtain ⟨o, es, ep, e, d, r⟩ := h
    exact ⟨o, es, ep, stay e (off e (fun vs n z => by rw [d] at z; cases z) fun z => by rw [d] at z; cases z), d, r⟩
  have kin : K.In (hidT s1.heap H) := fun b o e => stay (KX b o e) (by
    cases z : H b with
    | none => rfl
    | some u =>
      rw [(hH b u z).1] at e
      cases e)
  have hM : Mod K mg (hidT s1.heap H) := ⟨kin, nsd hns, ⟨mb, nsd hb, hbb⟩, by
    obtain ⟨mc, h1, h2⟩ := hlim
    exact ⟨mc, nsd h1, h2⟩⟩
  have tabs : TabF ms mg (hidT s1.heap H) := fun p hp => by
    refine ⟨PySem.W.codeHd_of_K kin (MK.hd p hp), ?_, fun z => ?_⟩
    · obtain ⟨bm, ob, b1, b2, b3, b4, b5, b6⟩ := hbm
      refine ⟨bm, ob, b1, b2, fun z => ?_, fun z => ?_, stay b3 (off b3 (fun vs n z => by rw [b6] at z; cases z) fun z => by rw [b6] at z; cases z), b4, b5, b6⟩
      · obtain ⟨o, es, ep, e, d, _⟩ := hns
        rw [z, e] at b3
        cases b3
        rw [d] at b6
        cases b6
      · rw [z, hT p hp] at b3
        cases b3
        cases b6
    · obtain ⟨o, es, ep, e, d, _⟩ := hns
      rw [z, hT p hp] at e
      cases e
      cases d
  have e0 : Env0 P₀ w K mg (hidT s1.heap H) callerA [] s1 H :=
    { frames := rfl, mod := hM, bs := fun b o e => of_hidT e, bsz := Nat.le_of_eq (hidT_size _ _), funs := trivial, frf := fun b h => (nomatch h), hok := hok, bare := .of_eq hg }
  obtain ⟨s', hs'⟩ := hm
  have sp : ∀ base, spM (cfL P₀ w K mg base ms.tb) 1 m [.ref a] H (fun v _ => v = .bl true) E0 := fun base => by
    refine ⟨rfl, ⟨[], fun _ => False, fun _ => False, ms.tb, fun _ => none⟩, [], [.p (.con (ns.map P.int))], .cons (PV.con hS (PVs.ints ns)) .nil, rfl, ⟨rfl, List.nodup_nil, fun _ h => (nomatch h), fun _ h => h.elim, fun n o h => by simp at h, fun _ h => h.elim, fun q hq => ?_, fun _ _ _ => ⟨fun z => z, fun z => z, fun z => nomatch z⟩, fun _ _ h => nomatch h⟩, ?_⟩
    · obtain ⟨p, hp, rfl⟩ := List.mem_map.mp hq
      exact LamX.TabS.nil (hHt p hp)
    · rw [hs']
      intro W' H' v _ r _
      cases r
      rfl
  refine codeAny_mono ((F _ tabs).run callerA [] s1 H ⟨[.ref a], []⟩ [.ref a] [.ref a] _ _ hr (fun _ => rfl) e0 (hbind s1 (.ref a)) (.cons rfl .nil) (sp _)) fun r s2 h => ?_
  match r, h with
  | .error _, h => exact h.elim
  | .ok (.ret u), ⟨v, H', os, bare, un, hok', rv, q⟩ =>
    have q' : v = .bl true := q
    subst q'
    obtain rfl : u = Value.bool true := rv
    have grown : ∀ p ∈ ms, ∃ more : Array Value, s2.heap.get? p.2.1 = some (PySem.W.tabObj more) := fun p hp => by
      obtain ⟨more, z⟩ := un.tbls p.2.1 #[] (hHt p hp)
      exact ⟨_, hok' p.2.1 _ z⟩
    have same : ∀ b o, s1.heap.get? b = some o → (∀ p ∈ ms, p.2.1 ≠ b) → s2.heap.get? b = some o := fun b o e nt => by
      cases z : H b with
      | none => exact un.keep b o e z (fun h => by cases h) (fun h => by cases h)
      | some u =>
        rcases (hH b u z).2 with ⟨o', xs, vs, n, rfl, e', _⟩ | ⟨_, p, hp, e2⟩
        · rw [e] at e'
          cases e'
          exact (hok' b _ (un.frzs b _ _ z)).1
        · exact (nt p hp e2).elim
    refine ⟨rfl, ⟨fun b o e => ?_, fun b o e => ?_⟩, os, bare⟩
    · by_cases hb : ∃ p ∈ ms, p.2.1 = b
      · obtain ⟨p, hp, rfl⟩ := hb
        obtain ⟨more, hm⟩ := grown p hp
        rw [hT p hp] at e
        cases e
        exact Or.inr (Or.inl ⟨((PySem.W.codeHd_of_K KX (MK.hd p hp)).tab (hT p hp)).isCodeTable, rfl, #[], more, rfl, by rw [Array.empty_append]; exact hm⟩)
      · exact Or.inl (same b o e fun p hp z => hb ⟨p, hp, z⟩)
    · by_cases hb : ∃ p ∈ ms, p.2.1 = b
      · obtain ⟨p, hp, rfl⟩ := hb
        obtain ⟨more, hm⟩ := grown p hp
        exact ⟨_, hm⟩
      · exact ⟨o, same b o e fun p hp z => hb ⟨p, hp, z⟩⟩
end
end CW
end
section
set_option maxRecDepth 100000
set_option maxHeartbeats 2000000
namespace CW
open PySem PySem.Spec PyProof.Rows L2
section
variable {C : Cf} {sc scope : Scope} {N : List Str} {k : Nat} {pos p2 p3 apos cpos : Pos} {e a b o tg iter elt : Expr} {m ma mb mo : EF} {es ifs : List Expr} {ms : List EF} {sts : List Stmt} {f : SF}
/-- from now on plain -/
def frz : D → M D := fun d s => match d with
  | .obj n => match s[n]? with
    | some (some (.lst xs)) => .ok (.p (.lst xs)) (s.set n none)
    | _ => .ok d s
  | d => .ok d s
def frzE (m : EF) : EF := fun ρ => bnd (m ρ) frz
theorem s_frz (h : SE C sc N k e m) : SE C sc N k e (frzE m) := fun X ok => by
  obtain ⟨t, p, q⟩ := h X ok
  refine ⟨t, p, fun σ H W s ρ Q er A g => ?_⟩
  refine q σ H W s ρ _ er A ((Good.bnd g).mono fun d s1 z W1 H1 v e1 r1 A1 => ?_)
  unfold frz at z
  split at z
  · split at z
    · rename_i hn
      obtain ⟨a, ha, rfl⟩ := r1
      obtain ⟨ev, A2, r2⟩ := A1.freeze hn ha
      exact z _ H1 _ (e1.trans ev) r2 A2
    · exact z W1 H1 v e1 r1 A1
  · exact z W1 H1 v e1 r1 A1
end
end CW
end
section
set_option maxRecDepth 100000
set_option maxHeartbeats 2000000
namespace CW
open PySem PySem.Spec PyProof.Rows L2
section
variable {ρ : En} {s s' : S} {xs : List P} {m ma mb mc : EF} {f g : SF} {t : TF}
def R.bind {α β : Type} (r : R α) (k : α → S → R β) : R β := match r with
  | .ok a s => k a s
  | .bad => .bad
  | .exn c s => .exn c s
@[simp] theorem R.bind_ok {α β : Type} (a : α) (k : α → S → R β) : R.bind (.ok a s) k = k a s := rfl
@[simp] theorem R.bind_bad {α β : Type} (k : α → S → R β) : R.bind .bad k = .bad := rfl
@[simp] theorem R.bind_exn {α β : Type} (c : Xc) (s : S) (k : α → S → R β) : R.bind (.exn c s) k = .exn c s := rfl
theorem bnd_ev {α β : Type} (m : M α) (k : α → M β) : bnd m k s = R.bind (m s) k := by
  unfold bnd R.bind
  cases m s <;> rfl
@[simp] theorem R.bind_ite {α β : Type} (c : Prop) [Decidable c] (a b : R α) (k : α → S → R β) : R.bind (if c then a else b) k = if c then R.bind a k else R.bind b k := by
  split <;> rfl
@[simp] theorem vE_0 (d : D) (r : En) : vE 0 (some d :: r) s = .ok d s := rfl
@[simp] theorem vE_s (i : Nat) (d : Option D) (r : En) : vE (i + 1) (d :: r) s = vE i r s := rfl
@[simp] theorem vE_1 (d : Option D) (r : En) : vE 1 (d :: r) s = vE 0 r s := rfl
@[simp] theorem vE_2 (d0 d1 : Option D) (r : En) : vE 2 (d0 :: d1 :: r) s = vE 0 r s := rfl
@[simp] theorem vE_3 (d0 d1 d2 : Option D) (r : En) : vE 3 (d0 :: d1 :: d2 :: r) s = vE 0 r s := rfl
@[simp] theorem vE_4 (d0 d1 d2 d3 : Option D) (r : En) : vE 4 (d0 :: d1 :: d2 :: d3 :: r) s = vE 0 r s := rfl
@[simp] theorem vE_5 (d0 d1 d2 d3 d4 : Option D) (r : En) : vE 5 (d0 :: d1 :: d2 :: d3 :: d4 :: r) s = vE 0 r s := rfl
@[simp] theorem vE_6 (d0 d1 d2 d3 d4 d5 : Option D) (r : En) : vE 6 (d0 :: d1 :: d2 :: d3 :: d4 :: d5 :: r) s = vE 0 r s := rfl
@[simp] theorem vE_7 (d0 d1 d2 d3 d4 d5 d6 : Option D) (r : En) : vE 7 (d0 :: d1 :: d2 :: d3 :: d4 :: d5 :: d6 :: r) s = vE 0 r s := rfl
@[simp] theorem vE_8 (d0 d1 d2 d3 d4 d5 d6 d7 : Option D) (r : En) : vE 8 (d0 :: d1 :: d2 :: d3 :: d4 :: d5 :: d6 :: d7 :: r) s = vE 0 r s := rfl
@[simp] theorem vE_9 (d0 d1 d2 d3 d4 d5 d6 d7 d8 : Option D) (r : En) : vE 9 (d0 :: d1 :: d2 :: d3 :: d4 :: d5 :: d6 :: d7 :: d8 :: r) s = vE 0 r s := rfl
@[simp] theorem cE_ev (x : P) : cE x ρ s = .ok (.p x) s := rfl
@[simp] theorem ret_ev {α : Type} (a : α) : ret a s = .ok a s := rfl
@[simp] theorem bad_ev {α : Type} : (bad : M α) s = .bad := rfl
@[simp] theorem op2_ev (g : D → D → M D) : op2 g ma mb ρ s = R.bind (ma ρ s) fun x s1 => R.bind (mb ρ s1) fun y s2 => g x y s2 := by
  unfold op2; rw [bnd_ev]; congr
@[simp] theorem op1_ev (g : D → M D) : op1 g ma ρ s = R.bind (ma ρ s) fun x s1 => g x s1 := by
  unfold op1; simp only [bnd_ev]
def tBk : D → M Bool := fun d => match d with
    | .p (.bl b) => ret b
    | _ => bad
@[simp] theorem tBk_bl (b : Bool) : tBk (.p (.bl b)) s = .ok b s := rfl
@[simp] theorem tB_ev : tB m ρ s = R.bind (m ρ s) tBk := by unfold tB; rw [bnd_ev]; rfl
@[simp] theorem tT_ev : tT m ρ s = R.bind (m ρ s) truD := by unfold tT; rw [bnd_ev]
@[simp] theorem truD_bl (b : Bool) : truD (.p (.bl b)) s = .ok b s := rfl
@[simp] theorem truD_int (i : Int) : truD (.p (.int i)) s = .ok (i != 0) s := rfl
@[simp] theorem truD_non : truD (.p .non) s = .ok false s := rfl
@[simp] theorem truD_tup (xs : List P) : truD (.p (.tup xs)) s = .ok (!xs.isEmpty) s := rfl
@[simp] theorem truD_lst (xs : List P) : truD (.p (.lst xs)) s = .ok (!xs.isEmpty) s := rfl
@[simp] theorem andT_ev (a b : TF) : andT a b ρ s = R.bind (a ρ s) fun c s1 => if c = true then b ρ s1 else .ok false s1 := by
  unfold andT; rw [bnd_ev]; congr; funext c s1; cases c <;> rfl
@[simp] theorem orT_ev (a b : TF) : orT a b ρ s = R.bind (a ρ s) fun c s1 => if c = true then .ok true s1 else b ρ s1 := by
  unfold orT; rw [bnd_ev]; congr; funext c s1; cases c <;> rfl
@[simp] theorem notT_ev (a : TF) : notT a ρ s = R.bind (a ρ s) fun c s1 => .ok (!c) s1 := by unfold notT; rw [bnd_ev]; rfl
@[simp] theorem ifE_ev : ifE t ma mb ρ s = R.bind (t ρ s) fun c s1 => if c = true then ma ρ s1 else mb ρ s1 := by
  unfold ifE; rw [bnd_ev]; congr; funext c s1; cases c <;> rfl
def andk (k : M D) : D → M D := fun d => match d with
  | .p (.bl c) => if c = true then k else ret (.p (.bl false))
  | _ => bad
def ork (k : M D) : D → M D := fun d => match d with
  | .p (.bl c) => if c = true then ret (.p (.bl true)) else k
  | _ => bad
@[simp] theorem andk_bl (k : M D) (c : Bool) : andk k (.p (.bl c)) s = if c = true then k s else .ok (.p (.bl false)) s := by cases c <;> rfl
@[simp] theorem ork_bl (k : M D) (c : Bool) : ork k (.p (.bl c)) s = if c = true then .ok (.p (.bl true)) s else k s := by cases c <;> rfl
@[simp] theorem andE_ev : andE ma mb ρ s = R.bind (ma ρ s) (andk (mb ρ)) := by unfold andE; rw [bnd_ev]; rfl
@[simp] theorem orE_ev : orE ma mb ρ s = R.bind (ma ρ s) (ork (mb ρ)) := by unfold orE; rw [bnd_ev]; rfl
def notk : D → M D := fun d => match d with
  | .p (.bl c) => ret (.p (.bl (!c)))
  | _ => bad
@[simp] theorem notk_bl (c : Bool) : notk (.p (.bl c)) s = .ok (.p (.bl (!c))) s := rfl
@[simp] theorem notE_ev : notE ma ρ s = R.bind (ma ρ s) notk := by unfold notE; rw [bnd_ev]; rfl
@[simp] theorem negD_int (i : Int) : negD (.p (.int i)) s = .ok (.p (.int (-i))) s := rfl
@[simp] theorem evA_nil : evA [] ρ s = .ok [] s := rfl
@[simp] theorem evA_cons (ms : List EF) : evA (m :: ms) ρ s = R.bind (m ρ s) fun d s1 => R.bind (evA ms ρ s1) fun ds s2 => .ok (d :: ds) s2 := by
  show bnd _ _ _ = _
  simp only [bnd_ev]; rfl
@[simp] theorem plain_nil : plain [] = some [] := rfl
@[simp] theorem plain_cons (x : P) (r : List D) : plain (.p x :: r) = (plain r).map (x :: ·) := rfl
def tupk (f : List P → P) : List D → M D := fun ds s => match plain ds with
  | some xs => .ok (.p (f xs)) s
  | none => .bad
@[simp] theorem tupk_0 (f : List P → P) : tupk f [] s = .ok (.p (f [])) s := rfl
@[simp] theorem tupk_1 (f : List P → P) (a : P) : tupk f [.p a] s = .ok (.p (f [a])) s := rfl
@[simp] theorem tupk_2 (f : List P → P) (a b : P) : tupk f [.p a, .p b] s = .ok (.p (f [a, b])) s := rfl
@[simp] theorem tupk_3 (f : List P → P) (a b c : P) : tupk f [.p a, .p b, .p c] s = .ok (.p (f [a, b, c])) s := rfl
@[simp] theorem tupk_4 (f : List P → P) (a b c d : P) : tupk f [.p a, .p b, .p c, .p d] s = .ok (.p (f [a, b, c, d])) s := rfl
@[simp] theorem tupk_5 (f : List P → P) (a b c d e : P) : tupk f [.p a, .p b, .p c, .p d, .p e] s = .ok (.p (f [a, b, c, d, e])) s := rfl
@[simp] theorem tupk_6 (f : List P → P) (a b c d e e1 : P) : tupk f [.p a, .p b, .p c, .p d, .p e, .p e1] s = .ok (.p (f [a, b, c, d, e, e1])) s := rfl
@[simp] theorem tupk_8 (f : List P → P) (a b c d e e1 e2 e3 : P) : tupk f [.p a, .p b, .p c, .p d, .p e, .p e1, .p e2, .p e3] s = .ok (.p (f [a, b, c, d, e, e1, e2, e3])) s := rfl
@[simp] theorem tupE_ev (ms : List EF) : tupE ms ρ s = R.bind (evA ms ρ s) (tupk .tup) := by unfold tupE; rw [bnd_ev]; rfl
@[simp] theorem lstE_ev (ms : List EF) : lstE ms ρ s = R.bind (evA ms ρ s) (tupk .lst) := by unfold lstE; rw [bnd_ev]; rfl
def lsok : List D → M D := fun ds s => match plain ds with
  | some xs => newL xs s
  | none => .bad
@[simp] theorem lsoE_ev (ms : List EF) : lsoE ms ρ s = R.bind (evA ms ρ s) lsok := by unfold lsoE; rw [bnd_ev]; rfl
@[simp] theorem ix_tup (xs : List P) (i : Int) : ixD (.p (.tup xs)) (.p (.int i)) s = match L2.atI xs i with
  | some z => .ok (.p z) s
  | none => .bad := rfl
@[simp] theorem ix_lst (xs : List P) (i : Int) : ixD (.p (.lst xs)) (.p (.int i)) s = match L2.atI xs i with
  | some z => .ok (.p z) s
  | none => .bad := rfl
@[simp] theorem sub_int (i j : Int) : subD (.p (.int i)) (.p (.int j)) s = .ok (.p (.int (i - j))) s := rfl
@[simp] theorem mod_int (i j : Int) : modD (.p (.int i)) (.p (.int j)) s = if j = 0 then .bad else .ok (.p (.int (i.fmod j))) s := by
  unfold modD ii; by_cases h : j = 0 <;> simp [h]
@[simp] theorem div_int (i j : Int) : divD (.p (.int i)) (.p (.int j)) s = if divOk i j then .ok (.p (.int (i.fdiv j))) s else .bad := by
  unfold divD ii; by_cases h : divOk i j <;> simp [h]
@[simp] theorem pow_int (i j : Int) : powD (.p (.int i)) (.p (.int j)) s = if powOk i j then .ok (.p (.int (i ^ j.toNat))) s else .bad := by
  unfold powD ii; by_cases h : powOk i j <;> simp [h]
@[simp] theorem lt_int (i j : Int) : ltD (.p (.int i)) (.p (.int j)) s = .ok (.p (.bl (decide (i < j)))) s := rfl
@[simp] theorem le_int (i j : Int) : leD (.p (.int i)) (.p (.int j)) s = .ok (.p (.bl (decide (i ≤ j)))) s := rfl
@[simp] theorem gt_int (i j : Int) : gtD (.p (.int i)) (.p (.int j)) s = .ok (.p (.bl (decide (j < i)))) s := rfl
@[simp] theorem ge_int (i j : Int) : geD (.p (.int i)) (.p (.int j)) s = .ok (.p (.bl (decide (j ≤ i)))) s := rfl
@[simp] theorem add_int (fr : Bool) (i j : Int) : addD fr (.p (.int i)) (.p (.int j)) s = .ok (.p (.int (i + j))) s := rfl
@[simp] theorem mul_int (fr : Bool) (i j : Int) : mulD fr (.p (.int i)) (.p (.int j)) s = if mulOk i j then .ok (.p (.int (i * j))) s else .bad := rfl
@[simp] theorem eqv_int (i j : Int) : PyData.eqv (.int i) (.int j) = decide (i = j) := by
  unfold PyData.eqv
  by_cases h : i = j <;> simp [h]
theorem eq_dat (neg : Bool) {x y : D} {d e : PyData} (hx : toPyD x s = some d) (hy : toPyD y s = some e) (h : SeqAt.shaped d = true ∧ SeqAt.shaped e = true) : eqD neg x y s = .ok (.p (.bl (if neg = true then !PyData.eqv d e else PyData.eqv d e))) s := by
  unfold eqD
  rw [hx, hy]
  exact if_pos h
@[simp] theorem eq_int (i j : Int) : eqD false (.p (.int i)) (.p (.int j)) s = .ok (.p (.bl (decide (i = j)))) s := by
  rw [eq_dat (d := .int i) (e := .int j) false rfl rfl ⟨rfl, rfl⟩, eqv_int]
  rfl
@[simp] theorem ne_int (i j : Int) : eqD true (.p (.int i)) (.p (.int j)) s = .ok (.p (.bl (!decide (i = j)))) s := by
  rw [eq_dat (d := .int i) (e := .int j) true rfl rfl ⟨rfl, rfl⟩, eqv_int]
  rfl
@[simp] theorem calE_ev (g : List D → M D) (ms : List EF) : calE g ms ρ s = R.bind (evA ms ρ s) g := by unfold calE; rw [bnd_ev]
@[simp] theorem abs_ev (i : Int) : absD [.p (.int i)] s = .ok (.p (.int i.natAbs)) s := by
  show R.ok (D.p (.int (if i < 0 then -i else i))) s = _
  have : (if i < 0 then -i else i) = (i.natAbs : Int) := by split <;> omega
  rw [this]
@[simp] theorem max_ev (i j : Int) : maxD [.p (.int i), .p (.int j)] s = .ok (.p (.int (max i j))) s := by
  show R.ok (D.p (.int (if j > i then j else i))) s = _
  have : (if j > i then j else i) = max i j := by split <;> omega
  rw [this]
@[simp] theorem min_ev (i j : Int) : minD [.p (.int i), .p (.int j)] s = .ok (.p (.int (min i j))) s := by
  show R.ok (D.p (.int (if j < i then j else i))) s = _
  have : (if j < i then j else i) = min i j := by split <;> omega
  rw [this]
@[simp] theorem int_i (i : Int) : intD [.p (.int i)] s = .ok (.p (.int i)) s := rfl
@[simp] theorem int_b (b : Bool) : intD [.p (.bl b)] s = .ok (.p (.int (if b = true then 1 else 0))) s := rfl
@[simp] theorem len_tup (xs : List P) : lenD [.p (.tup xs)] s = .ok (.p (.int xs.length)) s := rfl
@[simp] theorem len_lst (xs : List P) : lenD [.p (.lst xs)] s = .ok (.p (.int xs.length)) s := rfl
theorem isi_ev (d : D) {c z : String} {b : Bool} (h : tyD d s = some z) (hk : kitB z c = some b) : isiD [d, .p (.ty c)] s = .ok (.p (.bl b)) s := by
  show (match tyD d s with
    | some z => (match kitB z c with
      | some b => R.ok (D.p (.bl b)) s
      | none => .bad)
    | none => .bad) = _
  rw [h]
  show (match kitB z c with
      | some b => R.ok (D.p (.bl b)) s
      | none => .bad) = _
  rw [hk]
@[simp] theorem isi_non_int : isiD [.p .non, .p (.ty "int")] s = .ok (.p (.bl false)) s := isi_ev _ rfl (by decide +kernel)
@[simp] theorem isi_non_bool : isiD [.p .non, .p (.ty "bool")] s = .ok (.p (.bl false)) s := isi_ev _ rfl (by decide +kernel)
@[simp] theorem isi_non_tuple : isiD [.p .non, .p (.ty "tuple")] s = .ok (.p (.bl false)) s := isi_ev _ rfl (by decide +kernel)
@[simp] theorem isi_non_list : isiD [.p .non, .p (.ty "list")] s = .ok (.p (.bl false)) s := isi_ev _ rfl (by decide +kernel)
@[simp] theorem isi_non_str : isiD [.p .non, .p (.ty "str")] s = .ok (.p (.bl false)) s := isi_ev _ rfl (by decide +kernel)
@[simp] theorem isi_bl_int (b : Bool) : isiD [.p (.bl b), .p (.ty "int")] s = .ok (.p (.bl true)) s := isi_ev _ rfl (by decide +kernel)
@[simp] theorem isi_bl_bool (b : Bool) : isiD [.p (.bl b), .p (.ty "bool")] s = .ok (.p (.bl true)) s := isi_ev _ rfl (by decide +kernel)
@[simp] theorem isi_bl_tuple (b : Bool) : isiD [.p (.bl b), .p (.ty "tuple")] s = .ok (.p (.bl false)) s := isi_ev _ rfl (by decide +kernel)
@[simp] theorem isi_bl_list (b : Bool) : isiD [.p (.bl b), .p (.ty "list")] s = .ok (.p (.bl false)) s := isi_ev _ rfl (by decide +kernel)
@[simp] theorem isi_bl_str (b : Bool) : isiD [.p (.bl b), .p (.ty "str")] s = .ok (.p (.bl false)) s := isi_ev _ rfl (by decide +kernel)
@[simp] theorem isi_int_int (i : Int) : isiD [.p (.int i), .p (.ty "int")] s = .ok (.p (.bl true)) s := isi_ev _ rfl (by decide +kernel)
@[simp] theorem isi_int_bool (i : Int) : isiD [.p (.int i), .p (.ty "bool")] s = .ok (.p (.bl false)) s := isi_ev _ rfl (by decide +kernel)
@[simp] theorem isi_int_tuple (i : Int) : isiD [.p (.int i), .p (.ty "tuple")] s = .ok (.p (.bl false)) s := isi_ev _ rfl (by decide +kernel)
@[simp] theorem isi_int_list (i : Int) : isiD [.p (.int i), .p (.ty "list")] s = .ok (.p (.bl false)) s := isi_ev _ rfl (by decide +kernel)
@[simp] theorem isi_int_str (i : Int) : isiD [.p (.int i), .p (.ty "str")] s = .ok (.p (.bl false)) s := isi_ev _ rfl (by decide +kernel)
@[simp] theorem isi_str_int (x : Str) : isiD [.p (.str x), .p (.ty "int")] s = .ok (.p (.bl false)) s := isi_ev _ rfl (by decide +kernel)
@[simp] theorem isi_str_bool (x : Str) : isiD [.p (.str x), .p (.ty "bool")] s = .ok (.p (.bl false)) s := isi_ev _ rfl (by decide +kernel)
@[simp] theorem isi_str_tuple (x : Str) : isiD [.p (.str x), .p (.ty "tuple")] s = .ok (.p (.bl false)) s := isi_ev _ rfl (by decide +kernel)
@[simp] theorem isi_str_list (x : Str) : isiD [.p (.str x), .p (.ty "list")] s = .ok (.p (.bl false)) s := isi_ev _ rfl (by decide +kernel)
@[simp] theorem isi_str_str (x : Str) : isiD [.p (.str x), .p (.ty "str")] s = .ok (.p (.bl true)) s := isi_ev _ rfl (by decide +kernel)
@[simp] theorem isi_tup_int (xs : List P) : isiD [.p (.tup xs), .p (.ty "int")] s = .ok (.p (.bl false)) s := isi_ev _ rfl (by decide +kernel)
@[simp] theorem isi_tup_bool (xs : List P) : isiD [.p (.tup xs), .p (.ty "bool")] s = .ok (.p (.bl false)) s := isi_ev _ rfl (by decide +kernel)
@[simp] theorem isi_tup_tuple (xs : List P) : isiD [.p (.tup xs), .p (.ty "tuple")] s = .ok (.p (.bl true)) s := isi_ev _ rfl (by decide +kernel)
@[simp] theorem isi_tup_list (xs : List P) : isiD [.p (.tup xs), .p (.ty "list")] s = .ok (.p (.bl false)) s := isi_ev _ rfl (by decide +kernel)
@[simp] theorem isi_tup_str (xs : List P) : isiD [.p (.tup xs), .p (.ty "str")] s = .ok (.p (.bl false)) s := isi_ev _ rfl (by decide +kernel)
@[simp] theorem isi_lst_int (xs : List P) : isiD [.p (.lst xs), .p (.ty "int")] s = .ok (.p (.bl false)) s := isi_ev _ rfl (by decide +kernel)
@[simp] theorem isi_lst_bool (xs : List P) : isiD [.p (.lst xs), .p (.ty "bool")] s = .ok (.p (.bl false)) s := isi_ev _ rfl (by decide +kernel)
@[simp] theorem isi_lst_tuple (xs : List P) : isiD [.p (.lst xs), .p (.ty "tuple")] s = .ok (.p (.bl false)) s := isi_ev _ rfl (by decide +kernel)
@[simp] theorem isi_lst_list (xs : List P) : isiD [.p (.lst xs), .p (.ty "list")] s = .ok (.p (.bl true)) s := isi_ev _ rfl (by decide +kernel)
@[simp] theorem isi_lst_str (xs : List P) : isiD [.p (.lst xs), .p (.ty "str")] s = .ok (.p (.bl false)) s := isi_ev _ rfl (by decide +kernel)
@[simp] theorem setG_ev (i : Nat) (d : D) : setG i d ρ s = .ok (ρ.set i (some d)) s := rfl
@[simp] theorem nilG_ev : nilG [] ρ s = .ok ρ s := rfl
@[simp] theorem consG_ev (g : GF) (r : List P → En → M En) (x : P) (xs : List P) : consG g r (x :: xs) ρ s = R.bind (g (.p x) ρ s) (r xs) := by
  show bnd _ _ _ = _
  rw [bnd_ev]
@[simp] theorem tupG_tup (n : Nat) (g : List P → En → M En) (xs : List P) : tupG n g (.p (.tup xs)) ρ s = if xs.length = n then g xs ρ s else .bad := rfl
@[simp] theorem tupG_lst (n : Nat) (g : List P → En → M En) (xs : List P) : tupG n g (.p (.lst xs)) ρ s = if xs.length = n then g xs ρ s else .bad := rfl
@[simp] theorem nopF_ev : nopF ρ s = .ok (.nx ρ) s := rfl
@[simp] theorem noF_ev : noF ρ s = .bad := rfl
def seqk (g : SF) : Fl → M Fl := fun r => match r with
  | .nx ρ' => g ρ'
  | r => ret r
@[simp] theorem seqk_nx (g : SF) : seqk g (.nx ρ) s = g ρ s := rfl
@[simp] theorem seqk_rt (g : SF) (d : D) : seqk g (.rt d) s = .ok (.rt d) s := rfl
@[simp] theorem seqk_bk (g : SF) : seqk g (.bk ρ) s = .ok (.bk ρ) s := rfl
@[simp] theorem seqk_ct (g : SF) : seqk g (.ct ρ) s = .ok (.ct ρ) s := rfl
@[simp] theorem seqF_ev : seqF f g ρ s = R.bind (f ρ s) (seqk g) := by unfold seqF; rw [bnd_ev]; rfl
@[simp] theorem retF_ev : retF m ρ s = R.bind (m ρ s) fun d s1 => .ok (.rt d) s1 := by unfold retF; rw [bnd_ev]; rfl
@[simp] theorem expF_ev : expF m ρ s = R.bind (m ρ s) fun d s1 => .ok (.nx ρ) s1 := by unfold expF; rw [bnd_ev]; rfl
@[simp] theorem iffF_ev : iffF t f g ρ s = R.bind (t ρ s) fun c s1 => if c = true then f ρ s1 else g ρ s1 := by
  unfold iffF; rw [bnd_ev]; congr; funext c s1; cases c <;> rfl
@[simp] theorem asgF_ev (g : GF) : asgF m g ρ s = R.bind (m ρ s) fun d s1 => R.bind (g d ρ s1) fun ρ' s2 => .ok (.nx ρ') s2 := by
  unfold asgF; simp only [bnd_ev]; rfl
def park (i j : Nat) (ρ : En) : List D → M Fl := fun ds s => match ds with
  | [x, y] => .ok (.nx ((ρ.set i (some x)).set j (some y))) s
  | _ => .bad
@[simp] theorem park_ev (i j : Nat) (x y : D) : park i j ρ [x, y] s = .ok (.nx ((ρ.set i (some x)).set j (some y))) s := rfl
@[simp] theorem parF_ev (i j : Nat) (ms : List EF) : parF i j ms ρ s = R.bind (evA ms ρ s) (park i j ρ) := by unfold parF; rw [bnd_ev]; rfl
def park3 (i j l : Nat) (ρ : En) : List D → M Fl := fun ds s => match ds with
  | [x, y, z] => .ok (.nx (((ρ.set i (some x)).set j (some y)).set l (some z))) s
  | _ => .bad
@[simp] theorem park3_ev (i j l : Nat) (x y z : D) : park3 i j l ρ [x, y, z] s = .ok (.nx (((ρ.set i (some x)).set j (some y)).set l (some z))) s := rfl
@[simp] theorem par3F_ev (i j l : Nat) (ms : List EF) : par3F i j l ms ρ s = R.bind (evA ms ρ s) (park3 i j l ρ) := by unfold par3F; rw [bnd_ev]; rfl
@[simp] theorem fin_self (x : P) : fin s (.p x) s = .ok (.p x) s := by
  unfold fin
  dsimp only
  rw [if_pos Keeps.self, List.take_length]
@[simp] theorem fin_more (x : P) (r : S) : fin s (.p x) (s ++ r) = .ok (.p x) s := by
  unfold fin
  dsimp only
  rw [if_pos (Keeps.more r), List.take_left]
@[simp] theorem atI2_0 {α} (x y : α) : L2.atI [x, y] 0 = some x := rfl
@[simp] theorem atI2_1 {α} (x y : α) : L2.atI [x, y] 1 = some y := rfl
@[simp] theorem atI1_0 {α} (x : α) : L2.atI [x] 0 = some x := rfl
@[simp] theorem atI3_0 {α} (x y z : α) : L2.atI [x, y, z] 0 = some x := rfl
@[simp] theorem atI3_1 {α} (x y z : α) : L2.atI [x, y, z] 1 = some y := rfl
@[simp] theorem atI3_2 {α} (x y z : α) : L2.atI [x, y, z] 2 = some z := rfl
noncomputable def defk (s : S) : Fl → M D := fun r => match r with
  | .rt d => fin s d
  | .nx _ => fin s (.p .non)
  | _ => bad
@[simp] theorem defk_rt (d : D) (s1 : S) : defk s (.rt d) s1 = fin s d s1 := rfl
@[simp] theorem defk_nx (s1 : S) : defk s (.nx ρ) s1 = fin s (.p .non) s1 := rfl
theorem defM_ev {n nl : Nat} {ds : List D} (hl : ds.length = n) : defM n nl f ds s = R.bind (f (ds.map some ++ List.replicate (nl - n) none) s) (defk s) := by
  unfold defM R.bind defk
  rw [if_pos hl]
  cases f (ds.map some ++ List.replicate (nl - n) none) s with
  | bad => rfl
  | exn _ _ => rfl
  | ok r s1 => cases r <;> rfl
theorem fin_take (x : P) (h : s'.take s.length = s) : fin s (.p x) s' = .ok (.p x) s := by
  have e : s' = s ++ s'.drop s.length := by conv => lhs; rw [← List.take_append_drop s.length s', h]
  rw [e]
  exact fin_more x _
@[simp] theorem fin_ex (x : P) (r : S) : fin [] (.p x) r = .ok (.p x) [] := fin_take x rfl
@[simp] theorem fin_ex1 (x : P) (a : Option O) (r : S) : fin [a] (.p x) (a :: r) = .ok (.p x) [a] := fin_take x rfl
@[simp] theorem fin_ex2 (x : P) (a b : Option O) (r : S) : fin [a, b] (.p x) (a :: b :: r) = .ok (.p x) [a, b] := fin_take x rfl
@[simp] theorem fin_ex3 (x : P) (a b c : Option O) (r : S) : fin [a, b, c] (.p x) (a :: b :: c :: r) = .ok (.p x) [a, b, c] := fin_take x rfl
@[simp] theorem gok_tru : gok [] s = True := by
  unfold gok
  simp
@[simp] theorem wipE_nil : wipE ρ [] = ρ := rfl
@[simp] theorem wipE_cons (v : Nat) (vs : List Nat) : wipE ρ (v :: vs) = (wipE ρ vs).set v none := rfl
theorem lcL_nil {own : List Nat} {tg : GF} {c : TF} : lcL own [] tg c m ρ [] s = .ok [] s := by
  unfold lcL
  rw [gok_tru]
  exact if_pos trivial
/-- a comprehension whose parts change nothing -/
theorem lcL_purg {g : Gd} {own : List Nat} {tg : GF} {c : TF} (hg : gok g s) (F : P → En) (keep : P → Bool) (f : P → P) : ∀ {xs : List P}, (∀ x ∈ xs, tg (.p x) (wipE ρ own) s = .ok (F x) s ∧ c (F x) s = .ok (keep x) s ∧ (keep x = true → m (F x) s = .ok (.p (f x)) s)) →
    lcL own g tg c m ρ xs s = .ok ((xs.filter keep).map f) s
  | [], _ => by
    unfold lcL
    exact if_pos hg
  | x :: xs, h => by
    have ih := lcL_purg (xs := xs) hg F keep f fun y hy => h y (List.mem_cons_of_mem _ hy)
    obtain ⟨h1, h2, h3⟩ := h x List.mem_cons_self
    unfold lcL
    rw [if_pos hg, bnd_ev, h1, R.bind_ok, bnd_ev, h2, R.bind_ok]
    cases hk : keep x with
    | false =>
      rw [if_neg (by decide), ih, List.filter_cons_of_neg (by rw [hk]; decide)]
    | true =>
      rw [if_pos rfl, bnd_ev, h3 hk, R.bind_ok]
      show bnd _ _ _ = _
      rw [bnd_ev, ih, R.bind_ok, List.filter_cons_of_pos hk]
      rfl
theorem lcL_pure {own : List Nat} {tg : GF} {c : TF} (F : P → En) (keep : P → Bool) (f : P → P) {xs : List P} (h : ∀ x ∈ xs, tg (.p x) (wipE ρ own) s = .ok (F x) s ∧ c (F x) s = .ok (keep x) s ∧ (keep x = true → m (F x) s = .ok (.p (f x)) s)) :
    lcL own [] tg c m ρ xs s = .ok ((xs.filter keep).map f) s := lcL_purg (by rw [gok_tru]; trivial) F keep f h
theorem lcL_all {own : List Nat} {tg : GF} (F : P → En) (f : P → P) {xs : List P} (h : ∀ x ∈ xs, tg (.p x) (wipE ρ own) s = .ok (F x) s ∧ m (F x) s = .ok (.p (f x)) s) :
    lcL own [] tg yesT m ρ xs s = .ok (xs.map f) s := by
  rw [lcL_pure F (fun _ => true) f fun x hx => ⟨(h x hx).1, rfl, fun _ => (h x hx).2⟩, show List.filter (fun _ => true) xs = xs from List.filter_eq_self.mpr fun _ _ => rfl]
@[simp] theorem mkL_true (xs : List P) : mkL true xs s = .ok (.p (.lst xs)) s := rfl
@[simp] theorem mkL_false (xs : List P) : mkL false xs s = .ok (.obj s.length) (s ++ [some (.lst xs)]) := rfl
theorem lcE_ev {fr : Bool} {i : IF} {own : List Nat} {tg : GF} {c : TF} : lcE fr i own tg c m ρ s = R.bind (i ρ s) fun xg s1 => if xg.1.length ≤ sizeLine then R.bind (lcL own xg.2 tg c m ρ xg.1 s1) (mkL fr) else .bad := by
  unfold lcE; rw [bnd_ev]; congr
/-- a comprehension over a row that stands still -/
theorem lcE_all {fr : Bool} {i : IF} {own : List Nat} {tg : GF} (F : P → En) (f : P → P) {xs : List P} {s1 : S} (hi : i ρ s = .ok (xs, []) s1) (hl : xs.length ≤ sizeLine) (h : ∀ x ∈ xs, tg (.p x) (wipE ρ own) s1 = .ok (F x) s1 ∧ m (F x) s1 = .ok (.p (f x)) s1) :
    lcE fr i own tg yesT m ρ s = mkL fr (xs.map f) s1 := by
  rw [lcE_ev, hi, R.bind_ok]
  show (if xs.length ≤ sizeLine then _ else _) = _
  rw [if_pos hl, lcL_all F f h, R.bind_ok]
theorem lcE_pure {fr : Bool} {i : IF} {own : List Nat} {tg : GF} {c : TF} (F : P → En) (keep : P → Bool) (f : P → P) {xs : List P} {s1 : S} (hi : i ρ s = .ok (xs, []) s1) (hl : xs.length ≤ sizeLine)
    (h : ∀ x ∈ xs, tg (.p x) (wipE ρ own) s1 = .ok (F x) s1 ∧ c (F x) s1 = .ok (keep x) s1 ∧ (keep x = true → m (F x) s1 = .ok (.p (f x)) s1)) :
    lcE fr i own tg c m ρ s = mkL fr ((xs.filter keep).map f) s1 := by
  rw [lcE_ev, hi, R.bind_ok]
  show (if xs.length ≤ sizeLine then _ else _) = _
  rw [if_pos hl, lcL_pure F keep f h, R.bind_ok]
/-- the list that stands at a place -/
def lsAt (n : Nat) (s : S) : Option (List P) := match s[n]? with
  | some (some (.lst xs)) => some xs
  | _ => none
@[simp] theorem lsAt_0 (xs : List P) (r : S) : lsAt 0 (some (.lst xs) :: r) = some xs := rfl
@[simp] theorem lsAt_s (n : Nat) (a : Option O) (r : S) : lsAt (n + 1) (a :: r) = lsAt n r := rfl
theorem its_obj (n : Nat) : its (.obj n) s = lsAt n s := rfl
@[simp] theorem its_lst (xs : List P) : its (.p (.lst xs)) s = some xs := rfl
def addk (fr : Bool) (xs : Option (List P)) (ys : List P) : M D := fun s => match xs with
  | some xs => if xs.length + ys.length ≤ sizeLine then mkL fr (xs ++ ys) s else .bad
  | none => .bad
@[simp] theorem addk_some (fr : Bool) (xs ys : List P) : addk fr (some xs) ys s = if xs.length + ys.length ≤ sizeLine then mkL fr (xs ++ ys) s else .bad := rfl
@[simp] theorem add_obj_lst (fr : Bool) (n : Nat) (ys : List P) : addD fr (.obj n) (.p (.lst ys)) s = addk fr (lsAt n s) ys s := by
  unfold addD addk lsAt its
  dsimp only
  cases s[n]? with
  | none => rfl
  | some o => cases o with
    | none => rfl
    | some o => cases o <;> rfl
@[simp] theorem add_lst_lst (fr : Bool) (xs ys : List P) : addD fr (.p (.lst xs)) (.p (.lst ys)) s = if xs.length + ys.length ≤ sizeLine then mkL fr (xs ++ ys) s else .bad := rfl
def appk (xs : Option (List P)) (n : Nat) (x : P) : M D := fun s => match xs with
  | some xs => if xs.length < sizeLine then .ok (.p .non) (s.set n (some (.lst (xs ++ [x])))) else .bad
  | none => .bad
@[simp] theorem appk_some (xs : List P) (n : Nat) (x : P) : appk (some xs) n x s = if xs.length < sizeLine then .ok (.p .non) (s.set n (some (.lst (xs ++ [x])))) else .bad := rfl
@[simp] theorem lsok_0 : lsok [] s = .ok (.obj s.length) (s ++ [some (.lst [])]) := rfl
@[simp] theorem lsok_1 (a : P) : lsok [.p a] s = .ok (.obj s.length) (s ++ [some (.lst [a])]) := rfl
@[simp] theorem lsok_2 (a b : P) : lsok [.p a, .p b] s = .ok (.obj s.length) (s ++ [some (.lst [a, b])]) := rfl
@[simp] theorem lsok_3 (a b c : P) : lsok [.p a, .p b, .p c] s = .ok (.obj s.length) (s ++ [some (.lst [a, b, c])]) := rfl
@[simp] theorem lsok_4 (a b c d : P) : lsok [.p a, .p b, .p c, .p d] s = .ok (.obj s.length) (s ++ [some (.lst [a, b, c, d])]) := rfl
@[simp] theorem eq_bl (a b : Bool) : eqD false (.p (.bl a)) (.p (.bl b)) s = .ok (.p (.bl (a == b))) s := by
  rw [eq_dat (d := .bool a) (e := .bool b) false rfl rfl ⟨rfl, rfl⟩]
  unfold PyData.eqv
  rfl
@[simp] theorem ne_bl (a b : Bool) : eqD true (.p (.bl a)) (.p (.bl b)) s = .ok (.p (.bl (!(a == b)))) s := by
  rw [eq_dat (d := .bool a) (e := .bool b) true rfl rfl ⟨rfl, rfl⟩]
  unfold PyData.eqv
  rfl
@[simp] theorem ne_nil_nil : eqD true (.p (.lst [])) (.p (.lst [])) s = .ok (.p (.bl false)) s := rfl
theorem rowI_ev (h : m ρ s = .ok (.p (.tup xs)) s') : rowI m ρ s = .ok (xs, []) s' := by
  unfold rowI; rw [bnd_ev, h]; rfl
theorem rowI_lst (h : m ρ s = .ok (.p (.lst xs)) s') : rowI m ρ s = .ok (xs, []) s' := by
  unfold rowI; rw [bnd_ev, h]; rfl
theorem all_lst {xs : List P} {bs : List Bool} (h : blsOf xs = some bs) : allD [.p (.lst xs)] s = .ok (.p (.bl (bs.all id))) s := by
  show (match blsOf xs with
      | some bs => R.ok (D.p (.bl (bs.all id))) s
      | none => .bad) = _
  rw [h]
theorem blsOf_trues {α : Type} (xs : List α) : blsOf (xs.map fun _ => P.bl true) = some (xs.map fun _ => true) := by
  induction xs with
  | nil => rfl
  | cons x xs ih =>
    show (blsOf (xs.map fun _ => P.bl true)).map _ = _
    rw [ih]; rfl
theorem all_trues {α : Type} (xs : List α) : allD [.p (.lst (xs.map fun _ => P.bl true))] s = .ok (.p (.bl true)) s := by
  rw [all_lst (blsOf_trues xs)]
  simp
theorem defM_if {n nl : Nat} {ds : List D} : defM n nl f ds s = if ds.length = n then R.bind (f (ds.map some ++ List.replicate (nl - n) none) s) (defk s) else .bad := by
  by_cases h : ds.length = n
  · rw [if_pos h, defM_ev h]
  · rw [if_neg h]; unfold defM; rw [if_neg h]
end
end CW
end
section
set_option maxRecDepth 100000
set_option maxHeartbeats 2000000
namespace CW
open PySem PySem.Spec PyProof.Rows L2
section
variable {ρ : En} {s s' : S} {xs : List P} {m ma mb mc : EF} {f g : SF} {t : TF}
def fork (k : SF) : Fl → M Fl := fun r => match r with
  | .nx ρ' => k ρ'
  | .ct ρ' => k ρ'
  | .bk ρ' => ret (.nx ρ')
  | .rt d => ret (.rt d)
@[simp] theorem fork_nx (k : SF) : fork k (.nx ρ) s = k ρ s := rfl
@[simp] theorem fork_ct (k : SF) : fork k (.ct ρ) s = k ρ s := rfl
@[simp] theorem fork_bk (k : SF) : fork k (.bk ρ) s = .ok (.nx ρ) s := rfl
@[simp] theorem fork_rt (k : SF) (d : D) : fork k (.rt d) s = .ok (.rt d) s := rfl
theorem forL_nil {tg : GF} : forL [] tg f [] ρ s = .ok (.nx ρ) s := by
  unfold forL
  rw [gok_tru]
  exact if_pos trivial
theorem forL_cons {tg : GF} (x : P) : forL [] tg f (x :: xs) ρ s = R.bind (tg (.p x) ρ s) fun ρ1 s1 => R.bind (f ρ1 s1) (fork (forL [] tg f xs)) := by
  conv => lhs; unfold forL
  rw [gok_tru, if_pos trivial, bnd_ev]
  congr
theorem forF_ev {i : IF} {tg : GF} : forF i tg f ρ s = R.bind (i ρ s) fun xg s1 => forL xg.2 tg f xg.1 ρ s1 := by
  unfold forF; rw [bnd_ev]
theorem whF_ev (ρ : En) (s : S) : whF t f ρ s = R.bind (t ρ s) fun b s1 => if b = true then R.bind (f ρ s1) (fork (whF t f)) else .ok (.nx ρ) s1 := by
  rw [whF_eq, bnd_ev]
  congr
  funext b s1
  cases b with
  | false => rfl
  | true =>
    rw [if_pos rfl, if_pos rfl, bnd_ev]
    rfl
/-- a loop that keeps something -/
theorem forL_inv {tg : GF} (I : En → S → Prop) : ∀ {xs : List P} {ρ : En} {s : S}, I ρ s → (∀ x ∈ xs, ∀ ρ s, I ρ s → ∃ ρ1 s1 ρ2 s2, tg (.p x) ρ s = .ok ρ1 s1 ∧ f ρ1 s1 = .ok (.nx ρ2) s2 ∧ I ρ2 s2) →
    ∃ ρ' s', forL [] tg f xs ρ s = .ok (.nx ρ') s' ∧ I ρ' s'
  | [], ρ, s, h, _ => ⟨ρ, s, forL_nil, h⟩
  | x :: xs, ρ, s, h, k => by
    obtain ⟨ρ1, s1, ρ2, s2, e1, e2, i2⟩ := k x List.mem_cons_self ρ s h
    obtain ⟨ρ', s', e3, i3⟩ := forL_inv I i2 (fun y hy => k y (List.mem_cons_of_mem _ hy))
    exact ⟨ρ', s', by rw [forL_cons, e1, R.bind_ok, e2, R.bind_ok, fork_nx, e3], i3⟩
def dputk (ρ : En) (v d : D) : D → M Fl := fun i s => match d, dctD d s, keyD i with
  | .obj n, some kvs, some q => if kvs.length < sizeLine then .ok (.nx ρ) (s.set n (some (.dic (putD kvs q v)))) else .bad
  | _, _, _ => .bad
def lputk (ρ : En) (v d : D) : D → M Fl := fun i s => match d, v, i with
  | .obj n, .p x, .p (.int z) => match s[n]? with
    | some (some (.lst xs)) => match ixN xs.length z with
      | some j => .ok (.nx ρ) (s.set n (some (.lst (xs.set j x))))
      | none => .bad
    | _ => .bad
  | _, _, _ => .bad
@[simp] theorem frzE_ev : frzE m ρ s = R.bind (m ρ s) frz := by unfold frzE; rw [bnd_ev]
@[simp] theorem frz_p (x : P) : frz (.p x) s = .ok (.p x) s := rfl
def dick (ks : List Str) (n : Nat) : List D → M D := fun ds s2 => match s2[n]? with
  | some (some (.dic [])) => .ok (.obj n) (s2.set n (some (.dic (mkD ((ks.map Sum.inr).zip ds) []))))
  | _ => .bad
@[simp] theorem dicE_ev (ks : List Str) (ms : List EF) : dicE ks ms ρ s = R.bind (evA ms ρ (s ++ [some (.dic [])])) (dick ks s.length) := by
  unfold dicE; rw [bnd_ev]; rfl
@[simp] theorem metE_ev {G : D → List D → M D} (ms : List EF) : metE G ma ms ρ s = R.bind (ma ρ s) fun d s1 => match its d s1 with
    | some _ => R.bind (evA ms ρ s1) (G d)
    | none => .bad := by
  unfold metE; rw [bnd_ev]; congr
@[simp] theorem app_obj (n : Nat) (x : P) : appD (.obj n) [.p x] s = appk (lsAt n s) n x s := by
  unfold appD appk lsAt
  dsimp only
  cases s[n]? with
  | none => rfl
  | some o => cases o with
    | none => rfl
    | some o => cases o <;> rfl
def mk (sm k : Int) (cells : List Int) (rest : S) : S := some (.dic [(.inr "great", .obj 1), (.inr "small", .p (.int sm)), (.inr "at", .p (.int k))]) :: some (.lst (cells.map .int)) :: rest
@[simp] theorem mk_great (sm k : Int) (cells : List Int) (rest : S) : dgetD (.obj 0) (.p (.str "great")) (mk sm k cells rest) = .ok (.obj 1) (mk sm k cells rest) := rfl
@[simp] theorem mk_small (sm k : Int) (cells : List Int) (rest : S) : dgetD (.obj 0) (.p (.str "small")) (mk sm k cells rest) = .ok (.p (.int sm)) (mk sm k cells rest) := rfl
@[simp] theorem mk_at (sm k : Int) (cells : List Int) (rest : S) : dgetD (.obj 0) (.p (.str "at")) (mk sm k cells rest) = .ok (.p (.int k)) (mk sm k cells rest) := rfl
@[simp] theorem mk_put_small (sm k i : Int) (cells : List Int) (rest : S) : dputk ρ (.p (.int i)) (.obj 0) (.p (.str "small")) (mk sm k cells rest) = .ok (.nx ρ) (mk i k cells rest) := rfl
@[simp] theorem mk_put_at (sm k i : Int) (cells : List Int) (rest : S) : dputk ρ (.p (.int i)) (.obj 0) (.p (.str "at")) (mk sm k cells rest) = .ok (.nx ρ) (mk sm i cells rest) := rfl
theorem ixN_ok {n : Nat} {z : Int} (h0 : 0 ≤ z) (h : z < n) : ixN n z = some z.toNat := by
  unfold ixN
  rw [if_pos h0]
  exact if_pos (by omega)
theorem toPys_int : ∀ cells : List Int, toPys (cells.map P.int) = some (cells.map PyData.int)
  | [] => rfl
  | x :: xs => by
    show (match toPy (.int x), toPys (xs.map P.int) with
      | some d, some ds => some (d :: ds)
      | _, _ => none) = _
    rw [toPys_int xs]
    rfl
end
end CW
end
section
set_option maxRecDepth 100000
set_option maxHeartbeats 2000000
namespace CW
open PySem PySem.Spec PyProof.Rows L2
section
variable {C : Cf} {sc scope : Scope} {N : List Str} {k : Nat} {pos p2 p3 pt apos cpos : Pos} {e a b o i tg iter elt : Expr} {m ma mb mo mi md : EF} {es ifs ts : List Expr} {ms : List EF} {sts : List Stmt} {f : SF}
def dputG (md mi : EF) : GF := fun v ρ => bnd (md ρ) fun d => bnd (mi ρ) fun i s => match d, dctD d s, keyD i with
  | .obj n, some kvs, some q => if kvs.length < sizeLine then .ok ρ (s.set n (some (.dic (putD kvs q v)))) else .bad
  | _, _, _ => .bad
def lputG (mo mi : EF) : GF := fun v ρ => bnd (mo ρ) fun d => bnd (mi ρ) fun i s => match d, v, i with
  | .obj n, .p x, .p (.int z) => match s[n]? with
    | some (some (.lst xs)) => match ixN xs.length z with
      | some j => .ok ρ (s.set n (some (.lst (xs.set j x))))
      | none => .bad
    | _ => .bad
  | _, _, _ => .bad
def SGD (C : Cf) (sc : Scope) (N : List Str) (k : Nat) (ts : List Expr) (g : List D → En → M En) (pl : List Nat) : Prop :=
  ∀ X, Cok C sc N k X → ∃ t, PGs X ts t ∧ ∀ vs ds σ H W s ρ Q, DVs C.K W H vs ds → ER C W H σ ρ → Abs C.K W s H → Good (g ds ρ s) (PoG C W H pl σ Q) → t vs σ H Q
def nilT : List D → En → M En := fun ds ρ s => match ds with
  | [] => .ok ρ s
  | _ => .bad
def consT (g : GF) (r : List D → En → M En) : List D → En → M En := fun ds ρ => match ds with
  | d :: ds => bnd (g d ρ) fun ρ' => r ds ρ'
  | [] => bad
theorem gd_nil : SGD C sc N k [] nilT [] := fun X ok => by
  refine ⟨_, pgs_nil, fun vs ds σ H W s ρ Q r er A g => ?_⟩
  cases r with
  | nil => exact ⟨rfl, g W H _ Ev.rfl er A Agr.rfl⟩
  | cons _ _ => exact g.elim
theorem gd_cons {h : GF} {r : List D → En → M En} {pl pl' : List Nat} (h1 : SG C sc N k tg h pl) (h2 : SGD C sc N k ts r pl') (hs : ∀ env, (assignEach (tg :: ts) env).map (·.2) = assign tg env :: (assignEach ts env).map (·.2) := by intro _; rfl) : SGD C sc N k (tg :: ts) (consT h r) (pl ++ pl') := fun X ok => by
  obtain ⟨t, p, q⟩ := h1 X ok
  obtain ⟨u, p', q'⟩ := h2 X ok
  refine ⟨_, pgs_cons p p' (hs X.env), fun vs ds σ H W s ρ Q rv er A g => ?_⟩
  cases rv with
  | nil => exact g.elim
  | cons hv hr =>
    refine ⟨_, _, rfl, q _ _ σ H W s ρ _ hv er A (Good.mono (Good.bnd g) fun ρ1 s1 h1 W1 H1 σ1 e1 er1 A1 ag => ?_)⟩
    exact q' _ _ σ1 H1 W1 s1 ρ1 Q (DVs.up e1 hr) er1 A1 (Good.mono h1 fun _ _ z W2 H2 σ2 e2 er2 A2 ag2 => z W2 H2 σ2 (e1.trans e2) er2 A2 (ag.trans ag2))
def tasF (ms : List EF) (g : List D → En → M En) : SF := fun ρ => bnd (evA ms ρ) fun ds => bnd (g ds ρ) fun ρ' => ret (.nx ρ')
theorem x_tas {j x1 : Nat} {g : List D → En → M En} {pl : List Nat} (he : SAs C sc N k es ms) (hg : SGD C sc N k ts g pl) (hl : ms.length ≤ sizeLine := by decide) (hlt : ts.length = ms.length := by rfl) (hs : ∀ env : Env, env.scope = sc → swapsWithSole [.Tuple ts j pt] (.Tuple es x1 p2) pos.line env = pure false := by intro _ _; rfl)
    (hw : ∀ env : Env, env.scope = sc → swappedStores [.Tuple ts j pt] (.Tuple es x1 p2) env = pure none := by intro env h; cases env; cases h; rfl)
    (hn : ∀ env, (assignEach ts env).length = ts.length := by intro _; rfl) (hst : ∀ env, (assignEach ts env).findIdx? (·.1) = none := by intro _; rfl)
    (h1 : ∀ env, (assignEach [.Tuple ts j pt] env).map (·.2) = [assign (.Tuple ts j pt) env] := by intro _; rfl) : SS C sc N k (.Assign [.Tuple ts j pt] (.Tuple es x1 p2) pos) (tasF ms g) := fun X ok => by
  obtain ⟨t, p, q⟩ := he X ok.toCok
  obtain ⟨u, p', q'⟩ := hg X ok.toCok
  refine ⟨_, ps_asg (pe_tup p) (pg_tup ok.calm p' (hn X.env) (hst X.env)) (hs X.env ok.eS) (hw X.env ok.eS) (h1 X.env), fun D σ H W s ρ er A g => ?_⟩
  rw [ok.eK]
  refine q σ H W s ρ _ er A (g.bnd.len.mono fun ds s1 ⟨z, h2⟩ W1 H1 vs e1 r1 A1 => ?_)
  refine ⟨by rw [Paired.length r1, z]; exact hl, fun o ho => ?_⟩
  have ev := Ev.new (W := W1) (o := HO.tup vs) ho
  refine ⟨_, _, rfl, SqT.of upd_same, by rw [Paired.length r1, z, hlt], ?_⟩
  refine q' _ _ σ _ W1 s1 ρ _ (DVs.up ev r1) ((er.up e1).up ev) (A1.new ho) ((Good.bnd h2).mono fun ρ' s2 z2 W2 H2 σ2 e2 er2 A2 _ => ?_)
  exact z2 W2 H2 σ2 ((e1.trans ev).trans e2) er2 A2
variable {ρ : En} {s : S}
@[simp] theorem nilT_ev : nilT [] ρ s = .ok ρ s := rfl
@[simp] theorem consT_ev (g : GF) (r : List D → En → M En) (x : D) (xs : List D) : consT g r (x :: xs) ρ s = R.bind (g x ρ s) (r xs) := by
  show bnd _ _ _ = _
  rw [bnd_ev]
@[simp] theorem tasF_ev (g : List D → En → M En) : tasF ms g ρ s = R.bind (evA ms ρ s) fun ds s1 => R.bind (g ds ρ s1) fun ρ' s2 => .ok (.nx ρ') s2 := by
  unfold tasF; rw [bnd_ev]; congr
def gk (ρ : En) : Fl → M En := fun r s => match r with
  | .nx _ => .ok ρ s
  | _ => .bad
@[simp] theorem gk_nx (ρ' : En) : gk ρ (.nx ρ') s = .ok ρ s := rfl
@[simp] theorem dputG_ev (v : D) : dputG ma mb v ρ s = R.bind (ma ρ s) fun d s2 => R.bind (mb ρ s2) fun i s3 => R.bind (dputk ρ v d i s3) (gk ρ) := by
  unfold dputG
  rw [bnd_ev]
  congr
  funext d s2
  rw [bnd_ev]
  congr
  funext i s3
  unfold dputk
  cases d with
  | p x => rfl
  | obj n =>
    cases dctD (.obj n) s3 with
    | none => rfl
    | some kvs =>
      cases keyD i with
      | none => rfl
      | some q =>
        dsimp only
        by_cases h : kvs.length < sizeLine
        · rw [if_pos h, if_pos h]; rfl
        · rw [if_neg h, if_neg h]; rfl
@[simp] theorem lputG_ev (v : D) : lputG ma mb v ρ s = R.bind (ma ρ s) fun d s2 => R.bind (mb ρ s2) fun i s3 => R.bind (lputk ρ v d i s3) (gk ρ) := by
  unfold lputG
  rw [bnd_ev]
  congr
  funext d s2
  rw [bnd_ev]
  congr
  funext i s3
  unfold lputk
  cases d with
  | p x => rfl
  | obj n =>
    cases v with
    | obj _ => rfl
    | p x =>
      cases i with
      | obj _ => rfl
      | p y =>
        cases y with
        | int z =>
          dsimp only
          cases s3[n]? with
          | none => rfl
          | some o => cases o with
            | none => rfl
            | some o => cases o with
              | dic _ => rfl
              | row _ => rfl
              | tpl _ => rfl
              | ins _ _ => rfl
              | own _ _ => rfl
              | lst xs =>
                dsimp only
                cases ixN xs.length z <;> rfl
        | _ => rfl
end
end CW
end
section
set_option maxRecDepth 100000
set_option maxHeartbeats 2000000
namespace CW
open PySem PySem.Spec PyProof.Rows L2
/-- what zip of the list at a and the tuple at b yields -/
def ItzM (K : PySem.W.Frag) (a b : Addr) : It :=
  ⟨fun n G => ∃ (l m : List V) (p q : V), (SqL K G a l ∧ SqT K G b m) ∧ l[n]? = some p ∧ m[n]? = some q,
    fun n G r G' => ∃ o p q, r = .ref o ∧ G o = none ∧ G' = upd G o (.tup [p, q]) ∧ (∀ l, SqL K G a l → l[n]? = some p) ∧ ∀ m, SqT K G b m → m[n]? = some q,
    fun n G => ∃ l m : List V, (SqL K G a l ∧ SqT K G b m) ∧ (n ≤ l.length ∧ n ≤ m.length) ∧ (n = l.length ∨ n = m.length)⟩
/-- how its cells stand -/
def ZmSt (a b z c d i j : Addr) (n : Nat) (h : Heap) : Prop := (IsZip h z c d .none ∧ IsPair h c (.ref i) (.ref j)) ∧ (∃ x y, IsPair h d x y) ∧ h.IsListIter i a n ∧ h.IsTupleIter j b n
theorem five_of {x z c d i j : Addr} (h : x ∈ [z, c, d, i, j]) : x = z ∨ x = c ∨ x = d ∨ x = i ∨ x = j := by simpa using h
theorem turn_zipM {P : Program} {w : World} {K : PySem.W.Frag} {elts : List Expr} {kk : Nat} {tpos : Pos} {a b z c d i j : Addr} (D : ZipApart z c d i j a b) : Turn P w K (.Tuple elts kk tpos) (ItzM K a b) [z, c, d, i, j] z (ZmSt a b z c d i j) := by
  have sep : ZipSep2 z c d i j [i, a] [j, b] := ⟨D.TIz, D.TOz, D.TITO, D.TIi1, by simp, by simp [D.i1z.symm, D.l1z.symm], by simp [D.TOi1, D.l1TO.symm], D.TIi2, by simp, by simp [D.i2z.symm, D.l2z.symm], by simp [D.TOi2, D.l2TO.symm], by simp [D.i12, D.l2i1.symm], by simp [D.i12.symm, D.l1i2.symm]⟩
  refine ⟨by simp, fun n h st x hx => ?_, fun n h h' st k => ?_, fun X hP hw hK hc n pins s σ H E I hf st hg => ?_, fun X hP hw hK hc n pins s σ H E I hf st hg => ?_, fun A n s Q E st h => wpAny_pyIter_zip st.1.1 h⟩
  · obtain ⟨⟨s1, s2⟩, ⟨u, v, s3⟩, ⟨o1, e1, _, d1⟩, ⟨o2, e2, _, d2⟩⟩ := st
    rcases five_of hx with rfl | rfl | rfl | rfl | rfl
    · exact ⟨_, s1, fun v q => nomatch q⟩
    · exact ⟨_, s2, fun v q => nomatch q⟩
    · exact ⟨_, s3, fun v q => nomatch q⟩
    · exact ⟨o1, e1, fun v q => by rw [d1] at q; cases q⟩
    · exact ⟨o2, e2, fun v q => by rw [d2] at q; cases q⟩
  · obtain ⟨⟨s1, s2⟩, ⟨u, v, s3⟩, s4, s5⟩ := st
    exact ⟨⟨k z (by simp) _ s1, k c (by simp) _ s2⟩, ⟨u, v, k d (by simp) _ s3⟩, s4.at fun o q => k i (by simp) o q, s5.at fun o q => k j (by simp) o q⟩
  · subst hP hw hK
    obtain ⟨⟨s1, s2⟩, ⟨u, v, s3⟩, s4, s5⟩ := st
    obtain ⟨l, m, p, q, ⟨hl, hm⟩, hp, hq⟩ := hg
    obtain ⟨us, ru, pl, _⟩ := I.list hl
    obtain ⟨vs, rv, pt, _⟩ := I.tuple hm
    have hh : X.A.in1.handled = none := I.ok.hd hc
    obtain ⟨x, hx, rx⟩ := ru.get hp
    obtain ⟨y, hy, ry⟩ := rv.get hq
    have n1 : n < us.toArray.size := by simpa using (List.getElem?_eq_some_iff.mp hx).1
    have n2 : n < vs.toArray.size := by simpa using (List.getElem?_eq_some_iff.mp hy).1
    have zl : z < s.heap.objs.size := Heap.lt_size s1
    refine wpAny_pyNext_zipD2_item sep (Draws.list hh i a D.l1i1 us.toArray) (Draws.tuple hh j b D.l2i2 vs.toArray) s1 s2 s3 ⟨s4, pl.isList⟩ ⟨s5, pt⟩ n1 n2 fun x1 x2 h1 tk g1 g2 z1 t1 f1 f2 hT hsz hk => ?_
    have q1 : x1 = x := by simpa [hx] using g1.symm
    have q2 : x2 = y := by simpa [hy] using g2.symm
    subst q1 q2
    refine ⟨_, rfl, wpAny_letOwnedTupleGo_zip (s := { s with heap := h1, toks := tk }) z1 fun h2 z2 sb => ?_⟩
    have hT2 : h2.get? s.heap.objs.size = some _ := (sb.2 _ (Nat.ne_of_gt zl)).trans hT
    have new : ObjOk X.prog X.w (upd H s.heap.objs.size (.tup [p, q])) h2 s.heap.objs.size (.tup [p, q]) := ⟨(by decide : 2 ≤ sizeLine), [x1, x2], .cons rx (.cons ry .nil), ⟨_, hT2, rfl, _, rfl⟩⟩
    have I1 : Inv X pins σ (upd H s.heap.objs.size (.tup [p, q])) { s with heap := h2, toks := tk } := I.turnedNew (t' := tk) (ch := [z, c, d, i, j]) (fun x o hb e => (sb.2 x fun e' => hb (by simp [e'])).trans (hk x o (fun e' => hb (by simp [e'])) (fun e' => hb (by simp [e'])) (fun e' => hb (by simp [e'])) (fun e' => hb (by simp [e'])) e)) hf (Nat.le_refl _) new
    refine ⟨.ref s.heap.objs.size, _, I1, rfl, ⟨_, p, q, rfl, I.hok.fresh (Nat.le_refl _), rfl, fun l' h' => ?_, fun m' h' => by rw [I.tuple_inj h' hm]; exact hq⟩, ⟨⟨z2, (sb.2 _ D.TIz).trans (hk _ _ D.TIz D.TITO D.TIi1 D.TIi2 s2)⟩, ⟨x1, x2, (sb.2 _ D.TOz).trans t1⟩, f1.1.at fun o e => (sb.2 _ D.i1z).trans e, f2.1.at fun o e => (sb.2 _ D.i2z).trans e⟩, fun x hx => ?_⟩
    · rw [I.list_inj h' hl]; exact hp
    · have lt : x < s.heap.objs.size := by
        rcases five_of hx with rfl | rfl | rfl | rfl | rfl
        · exact zl
        · exact Heap.lt_size s2
        · exact Heap.lt_size s3
        · exact s4.elim fun _ e => Heap.lt_size e.1
        · exact s5.elim fun _ e => Heap.lt_size e.1
      rw [upd_ne (Nat.ne_of_lt lt)]
      exact (hf x hx).1
  · subst hP hw hK
    obtain ⟨⟨s1, s2⟩, ⟨u, v, s3⟩, s4, s5⟩ := st
    obtain ⟨l, m, ⟨hl, hm⟩, ⟨hl1, hm1⟩, he⟩ := hg
    obtain ⟨us, ru, pl, _⟩ := I.list hl
    obtain ⟨vs, rv, pt, _⟩ := I.tuple hm
    have hh : X.A.in1.handled = none := I.ok.hd hc
    have c1 : us.toArray.size = l.length := by rw [List.size_toArray]; exact ru.length.symm
    have c2 : vs.toArray.size = m.length := by rw [List.size_toArray]; exact rv.length.symm
    exact wpAny_pyNext_zipD2_end sep (Draws.list hh i a D.l1i1 us.toArray) (Draws.tuple hh j b D.l2i2 vs.toArray) s1 s2 s3 ⟨s4, pl.isList⟩ ⟨s5, pt⟩ (by omega) (by omega) (by omega) fun h1 tk hk => ⟨rfl, I.turnedL (t' := tk) (ch := [z, c, d, i, j]) (fun x o hb e => hk x o (fun e' => hb (by simp [e'])) (fun e' => hb (by simp [e'])) (fun e' => hb (by simp [e'])) (fun e' => hb (by simp [e'])) e) hf⟩
end CW
namespace CW
open PySem PySem.Spec PyProof.Rows L2
section
variable {C : Cf} {sc scope : Scope} {N : List Str} {k : Nat} {pos p2 p3 apos cpos : Pos} {e a b o tg iter elt : Expr} {m ma mb mo : EF} {es ifs : List Expr} {ms : List EF} {sts : List Stmt} {f : SF}
def iZipM (K : PySem.W.Frag) (ta : TA) : TI := fun σ H R => ta σ H fun vs H1 => ∃ a b l m, vs = [.ref a, .ref b] ∧ (SqL K H1 a l ∧ SqT K H1 b m) ∧ R (ItzM K a b) H1
theorem pi_zipM {X : Cx} {e1 e2 : Expr} {ta : TA} {p pos tpos : Pos} {elts : List Expr} {kk : Nat} (hg : Gl X "zip") (hm : X.mg "zip" = none) (ha : PA X [e1, e2] ta)
    (hs : starEach [e1, e2] X.env = (false, eval e1 X.env) :: starEach [e2] X.env) (hpl : (backTo pos (starEach [e2] X.env)).any (·.1) = false) : PI X (.Tuple elts kk tpos) (.Call (.Name "zip" p) [e1, e2] [] pos) (iZipM X.K ta) := ⟨fun pins s σ H R I h => by
  refine Call_ (ld_blt I hg hm boot_zip (callWith_type1 (thn (ha.run pos pins s σ H _ I h) fun us s1 ⟨vs, H1, I1, r1, q1⟩ => ?_) hs hpl))
  obtain ⟨a, b, l, m, rfl, ⟨hl, hm⟩, q⟩ := q1
  cases r1 with
  | cons r rr => cases rr with
    | cons r' rr =>
      cases rr; cases r; cases r'
      obtain ⟨us, ru, pl, _⟩ := I1.list hl
      obtain ⟨vs, rv, pt, _⟩ := I1.tuple hm
      obtain ⟨ot, hot, _⟩ := id pt
      refine zip_begins2 (begins_list a us.toArray) (begins_tuple b vs.toArray) pl.isList pt fun h1 z1 c1 d1 f1 f2 hsz hk => wpAny_pyIter_zip z1 ?_
      have I2 : Inv X pins σ H1 { s1 with heap := h1 } := I1.kept (t' := s1.toks) hk
      refine ⟨s1.heap.objs.size + 4, [s1.heap.objs.size + 4, s1.heap.objs.size + 2, s1.heap.objs.size + 3, s1.heap.objs.size, s1.heap.objs.size + 1], _, _, H1, rfl, I2, turn_zipM (PySem.W.ktu_apart s1.heap.objs.size a b pl.lt (Heap.lt_size hot)), ⟨⟨z1, c1⟩, ⟨_, _, d1⟩, ⟨_, f1, rfl, rfl⟩, ⟨_, f2, rfl, rfl⟩⟩, fun x hx => ?_, q⟩
      have hle : s1.heap.objs.size ≤ x := by rcases five_of hx with rfl | rfl | rfl | rfl | rfl <;> first | exact Nat.le_refl _ | exact Nat.le_add_right _ _
      exact I1.fpOk hle (I1.hok.fresh hle)⟩
theorem itm_ok {a b : Addr} {W : Wd} {H : Hp} {xs ys : List P} {us : List V} {g : Gd} (h : RowOk C.K a W H xs g) (h3 : SqT C.K H b us) (h4 : PVs C.K W.fr H us ys) : ItOk C.K (ItzM C.K a b) W H (zipP xs ys) g := fun W1 H1 s1 e A1 hg i => by
  obtain ⟨vs, h1, h2⟩ := h W1 H1 s1 e A1 hg
  have t3 := e.sqt h3
  have t4 := PVs.up e h4
  refine ⟨fun z hz => ?_, fun hi => ?_⟩
  · obtain ⟨x, y, hx, hy, rfl⟩ : ∃ x y, xs[i]? = some x ∧ ys[i]? = some y ∧ z = .tup [x, y] := by
      unfold zipP at hz
      rw [List.getElem?_zipWith] at hz
      cases e1 : xs[i]? with
      | none => rw [e1] at hz; cases hz
      | some x => cases e2 : ys[i]? with
        | none => rw [e1, e2] at hz; cases hz
        | some y => rw [e1, e2] at hz; exact ⟨x, y, rfl, rfl, (Option.some.inj hz).symm⟩
    obtain ⟨v, g1, g2⟩ := h2.get hx
    obtain ⟨u, g3, g4⟩ := t4.get hy
    refine ⟨⟨vs, us, v, u, ⟨h1, t3⟩, g1, g3⟩, fun w H' hw => ?_⟩
    obtain ⟨T, p, q, rfl, hT, rfl, hp, hq⟩ := hw
    have ev : Ev W1 H1 W1 (upd H1 T (.tup [p, q])) := Ev.new hT
    exact ⟨ev, .tup (SqT.of upd_same) (.cons (PV.up ev (h2.len_get hx (hp vs h1))) (.cons (PV.up ev (t4.len_get hy (hq us t3))) .nil)), A1.new hT⟩
  · have l1 := h2.len
    have l2 := t4.len
    unfold zipP at hi
    rw [List.length_zipWith] at hi
    exact ⟨vs, us, ⟨h1, t3⟩, by omega, by omega⟩
def zimI (ma mb : EF) : IF := fun ρ => bnd (ma ρ) fun x => bnd (mb ρ) fun y s => match rowD x s, y with
  | some r, .p (.tup ys) => .ok (zipP r.1 ys, r.2) s
  | _, _ => .bad
theorem i_zim {elts : List Expr} {kk : Nat} {tpos : Pos} (h : SE C sc N k a ma) (h' : SE C sc N k b mb) (hm : C.mg "zip" = none) (hg : GlS sc "zip" := by rfl) (hs : ∀ env, starEach [a, b] env = (false, eval a env) :: starEach [b] env := by intro _; rfl)
    (hs2 : ∀ env, starEach [b] env = (false, eval b env) :: starEach [] env := by intro _; rfl) (hp : ∀ env, (backTo pos (starEach [b] env)).any (·.1) = false := by intro _; rfl) :
    SI C sc N k (.Tuple elts kk tpos) (.Call (.Name "zip" p2) [a, b] [] pos) (zimI ma mb) := fun X ok => by
  obtain ⟨t, p, q⟩ := h X ok
  obtain ⟨t', p', q'⟩ := h' X ok
  refine ⟨_, pi_zipM (hg.of ok) (by rw [ok.em]; exact hm) (pa_cons p (pa_cons p' pa_nil (hs2 X.env)) (hs X.env)) (hs X.env) (hp X.env), fun σ H W s ρ R er A g => ?_⟩
  refine q σ H W s ρ _ er A ((Good.bnd g).mono fun d s1 z W1 H1 v e1 r1 A1 => ?_)
  refine q' σ H1 W1 s1 ρ _ (er.up e1) A1 ((Good.bnd z).mono fun d' s2 z2 W2 H2 v' e2 r2 A2 => ?_)
  split at z2
  · rename_i r ys hr
    obtain ⟨xs, gd⟩ := r
    obtain ⟨a, rfl, ⟨vs, h1⟩, h2⟩ := row_go (r1.up e2) A2 hr
    cases r2 with
    | tup h3 h4 =>
      rw [ok.eK]
      exact ⟨a, _, vs, _, rfl, ⟨h1, h3⟩, z2 W2 H2 _ (e1.trans e2) A2 (itm_ok h2 h3 h4)⟩
  · exact z2.elim
end
end CW
namespace CW
open PySem PySem.Spec PyProof.Rows L2
section
variable {C : Cf} {k : Nat}
def popD : D → List D → M D := fun d ds s => match d, ds with
  | .obj n, [] => match s[n]? with
    | some (some (.lst xs)) => match xs[xs.length - 1]? with
      | some y => .ok (.p y) (s.set n (some (.lst xs.dropLast)))
      | none => .bad
    | _ => .bad
  | _, _ => .bad
def popk (xs : Option (List P)) (n : Nat) : M D := fun s => match xs with
  | some xs => match xs[xs.length - 1]? with
    | some y => .ok (.p y) (s.set n (some (.lst xs.dropLast)))
    | none => .bad
  | none => .bad
@[simp] theorem pop_obj (n : Nat) (s : S) : popD (.obj n) [] s = popk (lsAt n s) n s := by
  unfold popD popk lsAt
  dsimp only
  cases s[n]? with
  | none => rfl
  | some o => cases o with
    | none => rfl
    | some o => cases o <;> rfl
end
end CW
end
section
set_option maxRecDepth 100000
set_option maxHeartbeats 2000000
namespace CW
open PySem PySem.Spec PyProof.Rows L2
section
variable {C : Cf} {sc : Scope} {N : List Str} {k : Nat} {pos p2 : Pos} {e a b : Expr} {m ma mb : EF}
def intsOf : List P → Option (List Int)
  | [] => some []
  | .int i :: r => (intsOf r).map (i :: ·)
  | _ => none
theorem intsOf_eq : ∀ {xs : List P} {is : List Int}, intsOf xs = some is → xs = is.map P.int
  | [], is, h => by
    cases h
    rfl
  | .int i :: r, is, h => by
    unfold intsOf at h
    cases hr : intsOf r with
    | none => rw [hr] at h; cases h
    | some js =>
      rw [hr] at h
      cases h
      rw [intsOf_eq hr]
      rfl
  | .non :: r, is, h => by cases h
  | .bl _ :: r, is, h => by cases h
  | .str _ :: r, is, h => by cases h
  | .ty _ :: r, is, h => by cases h
  | .ref _ :: r, is, h => by cases h
  | .tup _ :: r, is, h => by cases h
  | .lst _ :: r, is, h => by cases h
  | .con _ :: r, is, h => by cases h
theorem intsOf_map : ∀ is : List Int, intsOf (is.map P.int) = some is
  | [] => rfl
  | i :: r => by
    show (intsOf (r.map P.int)).map (i :: ·) = _
    rw [intsOf_map r]
    rfl
/-- x in a list of data; a whole number in a tuple of such -/
def inD (neg : Bool) (x y : D) : M D := fun s => match y with
  | .p (.tup ys) => match x, intsOf ys with
    | .p (.int i), some is => .ok (.p (.bl (if neg = true then !is.any fun j => decide (j = i) else is.any fun j => decide (j = i)))) s
    | _, _ => .bad
  | y => match toPyD x s, toPyD y s with
    | some d, some (.list ds) => if SeqAt.shaped d = true ∧ SeqAt.shaped (.list ds) = true then .ok (.p (.bl (if neg = true then !ds.any fun z => PyData.eqv z d else ds.any fun z => PyData.eqv z d))) s else .bad
    | _, _ => .bad
theorem inV_ints (i : Int) (is : List Int) : inV (.int i) (is.map V.int) = is.any fun j => decide (j = i) := by
  unfold inV
  rw [List.any_map]
  congr 1
theorem flat_ints (is : List Int) : (is.map V.int).all flatV = true := by
  rw [List.all_map]
  exact List.all_eq_true.mpr fun _ _ => rfl
theorem op_or2 {X : Cx} {f : Value → Value → Sem Value} {r r' : R2} (h : OpR X f r) (h' : OpR X f r') : OpR X f (fun x y H Q => r x y H Q ∨ r' x y H Q) := by
  intro pins s σ H x y v u Q I rx ry q
  rcases q with q | q
  · exact h pins s σ H x y v u Q I rx ry q
  · exact h' pins s σ H x y v u Q I rx ry q
theorem inD_go {neg : Bool} {W : Wd} {s : S} {H : Hp} {x y : V} {dx dy : D} {Q : VK} (rx : DV C.K W H x dx) (ry : DV C.K W H y dy) (A : Abs C.K W s H) (g : Good (inD neg dx dy s) (Po C.K W H Q)) :
    (∃ d ds, Dp C.K H x d ∧ Dp C.K H y (.list ds) ∧ SeqAt.shaped d = true ∧ SeqAt.shaped (.list ds) = true ∧ Q (.bl (if neg = true then !ds.any fun z => PyData.eqv z d else ds.any fun z => PyData.eqv z d)) H) ∨ rIn C.K neg x y H Q := by
  unfold inD at g
  split at g
  · rename_i ys
    split at g
    · rename_i i is h2
      cases ry with
      | tup hq hr =>
        have e := intsOf_eq h2
        subst e
        have e2 := hr.int_eq
        subst e2
        cases rx
        refine Or.inr ⟨_, _, rfl, Or.inr hq, rfl, flat_ints is, ?_⟩
        rw [inV_ints]
        cases neg
        · exact g W H _ Ev.rfl (PV.bl _) A
        · exact g W H _ Ev.rfl (PV.bl _) A
    · exact g.elim
  · split at g
    · rename_i d ds h1 h2
      split at g
      · rename_i hs
        exact Or.inl ⟨d, ds, DV.dp rx A h1, DV.dp ry A h2, hs.1, hs.2, g W H _ Ev.rfl (PV.bl _) A⟩
      · exact g.elim
    · exact g.elim
theorem u65 {X : Cx} (hr : Room k X.A) : X.A.units + 65 < cLine := by have := hr.un; omega
theorem o_in2 : OpS C k (compareOp .NotIn) (inD true) := fun X ok => by
  refine ⟨_, op_or2 (op_notInD (u65 ok.rm)) op_notIn_seq, fun W s H x y dx dy Q rx ry A g => ?_⟩
  rw [ok.eK]
  exact inD_go rx ry A g
end
end CW
end
section
set_option maxRecDepth 100000
set_option maxHeartbeats 2000000
namespace CW
open PySem PySem.Spec PyProof.Rows L2
/-- a piece that is not asked to raise -/
def R.nox {α : Type} : R α → R α
  | .ok a s => .ok a s
  | .bad => .bad
  | .exn _ _ => .bad
def noX {α : Type} (m : En → M α) : En → M α := fun ρ s => R.nox (m ρ s)
@[simp] theorem R.nox_ok {α : Type} (a : α) (s : S) : R.nox (.ok a s) = .ok a s := rfl
@[simp] theorem R.nox_bad {α : Type} : R.nox (.bad : R α) = .bad := rfl
@[simp] theorem R.nox_exn {α : Type} (c : Xc) (s : S) : R.nox (.exn c s : R α) = .bad := rfl
@[simp] theorem noX_ev {α : Type} (m : En → M α) (ρ : En) (s : S) : noX m ρ s = R.nox (m ρ s) := rfl
section
variable {C : Cf} {sc : Scope} {N : List Str} {k : Nat} {pos p2 : Pos} {e a b tg : Expr} {m ma mb : EF} {es : List Expr} {ms : List EF} {st : Stmt} {sts : List Stmt} {f g : SF}
def noG (g : GF) : GF := fun d => noX (g d)
@[simp] theorem noG_ev (g : GF) (d : D) (ρ : En) (s : S) : noG g d ρ s = R.nox (g d ρ s) := rfl
/-- raise c(e); raiX where the field is asked for later -/
def raiF (c : Str) (m : EF) : SF := fun ρ => bnd (noX m ρ) fun _ => rais c
end
end CW
end
section
set_option maxRecDepth 100000
set_option maxHeartbeats 2000000
namespace CW
open PySem PySem.Spec PyProof.Rows L2
def tryF (cat : Str → Bool) (i j : Nat) (m : SF) : SF := fun ρ s => match m ρ s with
  | .ok fl s' => .ok fl s'
  | .exn c s' => if cat c.c = true then .ok (.nx (((ρ.set i (some (.p c.toP))).set j (some (.p c.toP))).set i none)) s' else .bad
  | .bad => .bad
end CW
end
section
set_option maxRecDepth 100000
set_option maxHeartbeats 2000000
namespace CW
open PySem PySem.Spec PyProof.Rows L2
end CW
end
section
set_option maxRecDepth 100000
set_option maxHeartbeats 2000000
namespace CW
open PySem PySem.Spec PyProof.Rows L2
section
variable {K : PySem.W.Frag} {W : Wd} {H H1 : Hp} {s : S} {c : Addr} {q : Str}
/-- more objects, longer tables -/
theorem ext_world (A : Abs K W s H) (x : LamX.ExtN H H1) (t : LamX.Tabs W.tb H1) : Ev W H W H1 ∧ Abs K W s H1 := by
  have st : ∀ b o, H b = some o → (W.fr b ∨ W.pv b ∨ b ∈ W.io) → H1 b = some o := fun b o e h => x b o e fun ps z => by
    subst z
    obtain ⟨n1, n2, n3⟩ := A.tn b ps e
    rcases h with h | h | h
    · exact n1 h
    · exact n2 h
    · exact n3 h
  have ev : Ev W H W H1 := ⟨⟨[], by simp⟩, fun _ h => h, fun b o h e => st b o e (Or.inl h), fun b xs e => x b _ e fun _ z => (nomatch z), fun b o u e => x b _ e fun _ z => (nomatch z), fun _ h => h, fun b o h e => st b o e (Or.inr (Or.inl h)), rfl, fun _ _ h => h⟩
  have eq_ : ∀ b, H b ≠ none → (W.fr b ∨ W.pv b ∨ b ∈ W.io) → H1 b = H b := fun b n h => by
    cases e : H b with
    | none => exact (n e).elim
    | some o => exact st b o e h
  refine ⟨ev, A.len, A.nd, fun b h => ?_, fun b h => ?_, fun n o hn => ?_, fun b h => ⟨?_, (A.pd b h).2⟩, t, fun b ps e => ?_, fun b q h => ⟨(by
    obtain ⟨vs, e⟩ := (A.po b q h).1
    exact ⟨vs, x b _ e fun _ z => nomatch z⟩), (A.po b q h).2⟩⟩
  · rw [eq_ b (A.tr b h) (Or.inr (Or.inr h))]
    exact A.tr b h
  · rw [eq_ b (A.ft b h) (Or.inl h)]
    exact A.ft b h
  · obtain ⟨b, h1, h2, h3⟩ := A.ob n o hn
    exact ⟨b, h1, h2, h3.up ev (eq_ b h3.there (Or.inr (Or.inr (List.mem_of_getElem? h1)))) fun c f hc => (by
      obtain ⟨vs, e⟩ := (A.po c _ hc).1
      rw [e]
      exact x c _ e fun _ z => nomatch z)⟩
  · rw [eq_ b (A.pn h) (Or.inr (Or.inl h))]
    exact (A.pd b h).1
  · refine ⟨fun z => ?_, fun z => ?_, fun z => ?_⟩
    · rw [eq_ b (A.ft b z) (Or.inl z)] at e
      exact (A.tn b ps e).1 z
    · rw [eq_ b (A.pn z) (Or.inr (Or.inl z))] at e
      exact (A.tn b ps e).2.1 z
    · rw [eq_ b (A.tr b z) (Or.inr (Or.inr z))] at e
      exact (A.tn b ps e).2.2 z
/-- the lambda's code object stays -/
theorem code_keep (A : Abs K W s H) (h : H c = some (LamX.CodeO c q)) : Ev W H (W.keep c) H ∧ Abs K (W.keep c) s H := by
  have notL : ∀ vs, H c ≠ some (.lst vs) := fun vs z => by
    rw [h] at z
    unfold LamX.CodeO at z
    cases z
  have ev : Ev W H (W.keep c) H := ⟨⟨[], by simp [Wd.keep]⟩, fun _ h => Or.inl h, fun _ _ _ h => h, fun _ _ h => h, fun _ _ _ h => h, fun _ h => h, fun _ _ _ h => h, rfl, fun _ _ h => h⟩
  refine ⟨ev, A.len, A.nd, A.tr, fun b z => ?_, fun n o hn => ?_, fun b z => ⟨(A.pd b z).1, fun w => ?_, (A.pd b z).2.2⟩, A.tt, fun b ps e => ⟨fun z => ?_, (A.tn b ps e).2⟩, fun b q e => ⟨(A.po b q e).1, fun z => z.elim (A.po b q e).2.1 fun z => (by
    obtain ⟨vs, e⟩ := (A.po b q e).1
    rw [z] at e
    exact notL vs e), (A.po b q e).2.2⟩⟩
  · rcases z with z | z
    · exact A.ft b z
    · rw [z, h]
      exact fun w => nomatch w
  · obtain ⟨b, h1, h2, h3⟩ := A.ob n o hn
    refine ⟨b, h1, fun z => ?_, h3.up ev rfl fun _ _ _ => rfl⟩
    rcases z with z | z
    · exact h2 z
    · exact h3.ne_ext (by rw [z, h]; rfl)
  · rcases w with w | w
    · exact (A.pd b z).2.1 w
    · obtain ⟨vs, e⟩ := (A.pd b z).1
      rw [w] at e
      exact notL vs e
  · rcases z with z | z
    · exact (A.tn b ps e).1 z
    · rw [z, h] at e
      unfold LamX.CodeO at e
      cases e
end
/-- the lambda that lies in slot 0 does q -/
def actE (f c : Addr) (qn : Str) (q : M D) : EF := fun ρ s => match (ρ[0]? : Option (Option D)) with
  | some (some (.p (.lam f1 c1 q1))) => if f1 = f ∧ c1 = c ∧ q1 = qn then q s else .bad
  | _ => .bad
/-- the said def's term for a lambda -/
abbrev SaidF := Addr → Addr → Str → M D → SF
open Classical in
noncomputable def saidM (n : Nat) (B : SaidF) (q : M D) : M D := fun s => if h : ∃ r, ∀ f c qn, defM 1 n (B f c qn q) [.p (.lam f c qn)] s = r then Classical.choose h else .bad
noncomputable def saidE (n : Nat) (B : SaidF) (m : EF) : EF := fun ρ => saidM n B (m ρ)
@[simp] theorem saidE_ev (n : Nat) (B : SaidF) (m : EF) (ρ : En) (s : S) : saidE n B m ρ s = saidM n B (m ρ) s := rfl
abbrev Cf.lamb (C : Cf) : Cf := { C with rg := false, ex := fun _ => True, cq := none }
end CW
end
section
set_option maxRecDepth 100000
set_option maxHeartbeats 2000000
namespace CW
open PySem PySem.Spec PyProof.Rows L2
/-- how a call with n values and the keywords ks binds: gD puts all in the parameters' order -/
structure KwB (C : Cf) (fd : FuncData) (ps : List Str) (n : Nat) (ks : List Str) (gD : List D → List D → List D) : Prop where
  len : ∀ ds es : List D, ds.length = n → es.length = ks.length → (gD ds es).length = ps.length
  go : ∀ (s : Shared) (W : Wd) (H : Hp) (us ws : List Value) (vs zs : List V) (ds es : List D), C.K.In s.heap → Vals vs us → Vals zs ws → DVs C.K W H vs ds → DVs C.K W H zs es → us.length = n → ws.length = ks.length →
    ∃ (bs : List Value) (vs' : List V), BindsTo s fd ⟨us, ks.zip ws⟩ (ps.zip bs) ∧ Vals vs' bs ∧ DVs C.K W H vs' (gD ds es)
section
variable {C : Cf} {sc : Scope} {N : List Str} {k : Nat} {pos p2 : Pos} {e a b : Expr} {ma mb : EF} {es : List Expr} {ms ks' : List EF} {kws : List Keyword}
/-- the keywords' values -/
def SKs (C : Cf) (sc : Scope) (N : List Str) (k : Nat) (kws : List Keyword) (ms : List EF) : Prop :=
  ∀ X, Cok C sc N k X → ∃ t, PK X kws t ∧ ∀ σ H W s ρ Q, ER C W H σ ρ → Abs C.K W s H → Good (evA ms ρ s) (PoA C.K W H Q) → t σ H Q
theorem k_nil : SKs C sc N k [] [] := fun X ok => ⟨_, pk_nil, fun σ H W s ρ Q er A g => g W H [] Ev.rfl .nil A⟩
def kwE (m : List D → M D) (gD : List D → List D → List D) (ms zs : List EF) : EF := fun ρ => bnd (evA ms ρ) fun ds => bnd (evA zs ρ) fun es => m (gD ds es)
theorem run_kw {X : Cx} {j n : Nat} {f : Addr} {fd : FuncData} {ps ks : List Str} {gD : List D → List D → List D} {m : List D → M D} {pins : List (Addr × Obj)} {σ : L2.St} {H : Hp} {s : Shared} {Q : VK} {us ws : List Value} {vs zs : List V} {W : Wd} {s0 : S} {ds es : List D} (F : Fn C j f fd ps (spM C ps.length m)) (ok : Okx C j X) (hb : KwB C fd ps n ks gD)
    (I : Inv X pins σ H s) (r : Vals vs us) (r' : Vals zs ws) (d1 : DVs C.K W H vs ds) (d2 : DVs C.K W H zs es) (l1 : ds.length = n) (l2 : es.length = ks.length) (hT : W.tb = C.tb) (A : Abs C.K W s0 H) (g : Good (m (gD ds es) s0) (Po C.K W H Q)) :
    wpAny (model X.prog X.w) X.A (call (.ref f) us (ks.zip ws)) (EP X pins σ Q) X.xe s := by
  have e0 := I.env0
  have kin := I.kIn
  rw [ok.pr, ok.ew, ok.eK, ok.em, ok.eb] at e0
  rw [ok.eK] at kin
  have lu : us.length = n := by rw [← r.length, Paired.length d1]; exact l1
  have lw : ws.length = ks.length := by rw [← r'.length, Paired.length d2]; exact l2
  obtain ⟨bs, vs', hbt, rv, rd⟩ := hb.go s W H us ws vs zs ds es kin r r' d1 d2 lu lw
  have run := F.run X.A X.stack s H ⟨us, ks.zip ws⟩ bs vs' Q E0 ok.rm ok.gd e0 hbt rv ⟨(Paired.length rd).trans (hb.len ds es l1 l2), W, s0, _, rd, hT, A, g⟩
  rw [← ok.pr, ← ok.ew] at run
  refine wpAny_call (codeAny_mono run fun q s' hq => ?_)
  match q, hq with
  | .error _, hq => exact hq.elim
  | .ok (.ret u), hq => exact I.after hq
theorem s_kw {x : Str} {j n : Nat} {f : Addr} {fd : FuncData} {ps ks : List Str} {gD : List D → List D → List D} {m : List D → M D} (F : Fn C j f fd ps (spM C ps.length m)) (hj : j ≤ k) (hm : C.mg x = some (.ref f)) (hk : PySem.W.keepIn C.K (.ref f) = true) (hb : KwB C fd ps n ks gD)
    (ha : SAs C sc N k (e :: es) ms) (hz : SKs C sc N k kws ks') (hn : ms.length = n := by rfl) (hn2 : ks'.length = ks.length := by rfl) (hg : GlS sc x := by rfl) (hd : (x == ("__debug__" : Str)) = false := by decide)
    (hall : ∀ env, (backToKw pos (keywordEach kws env)).all (·.1.isSome) = true := by intro _; rfl) (hks : ∀ env, (backToKw pos (keywordEach kws env)).filterMap (·.1) = ks := by intro _; rfl)
    (he : ∀ env, starEach (e :: es) env = (false, eval e env) :: starEach es env := by intro _; rfl) (hpl : ∀ env, ((backTo pos (starEach (e :: es) env)).any (·.1) || (backToKw pos (keywordEach kws env)).any (·.1.isNone)) = false := by intro _; rfl) :
    SE C sc N k (.Call (.Name x p2) (e :: es) kws pos) (kwE m gD ms ks') := fun X ok => by
  obtain ⟨t, p, q⟩ := ha X ok
  obtain ⟨u, p', q'⟩ := hz X ok
  refine ⟨fun σ H Q => t σ H fun vs H1 => u σ H1 fun zs H2 => ∃ W s0 ds es, DVs C.K W H2 vs ds ∧ DVs C.K W H2 zs es ∧ ds.length = n ∧ es.length = ks.length ∧ W.tb = C.tb ∧ Abs C.K W s0 H2 ∧ Good (m (gD ds es) s0) (Po C.K W H2 Q), ⟨fun pins s σ H Q I h => ?_⟩, fun σ H W s ρ Q er A g => ?_⟩
  · refine wpAny_Call_Name_kw (ld_glob I (hg.of ok) (by rw [ok.em]; exact hm) ?_ hd)
    refine PySem.W.callWith_KW (h₀ := X.base) I.ok.mod.kin (by rw [ok.eK]; exact hk) (hall _) (thn (p.run pos pins s σ H _ I h) fun us s1 ⟨vs, H1, I1, r, q1⟩ => ?_) (hpl _) (he _)
    refine thn (p'.run pos pins s1 σ H1 _ I1 q1) fun ws s2 ⟨zs, H2, I2, rz, W, s0, ds, es, d1, d2, l1, l2, hT, A, g⟩ => ⟨I2.kIn, ?_⟩
    rw [hks]
    exact run_kw (F.mono hj) ok.toOkx hb I2 r rz d1 d2 l1 l2 hT A g
  · refine q σ H W s ρ _ er A (g.bnd.len.mono fun ds s1 ⟨z, h1⟩ W1 H1 vs e1 r1 A1 => ?_)
    refine q' σ H1 W1 s1 ρ _ (er.up e1) A1 (h1.bnd.len.mono fun es s2 ⟨z2, h2⟩ W2 H2 zs e2 r2 A2 => ?_)
    exact ⟨W2, s2, ds, es, DVs.up e2 r1, r2, z.trans hn, z2.trans hn2, (er.up (e1.trans e2)).tb, A2, h2.mono fun _ _ w => w.up (e1.trans e2)⟩
end
@[simp] theorem isi_emp_int {s : S} : isiD [.p .emp, .p (.ty "int")] s = .ok (.p (.bl false)) s := isi_ev _ rfl (by decide +kernel)
@[simp] theorem isi_emp_bool {s : S} : isiD [.p .emp, .p (.ty "bool")] s = .ok (.p (.bl false)) s := isi_ev _ rfl (by decide +kernel)
@[simp] theorem isi_emp_tuple {s : S} : isiD [.p .emp, .p (.ty "tuple")] s = .ok (.p (.bl false)) s := isi_ev _ rfl (by decide +kernel)
@[simp] theorem isi_emp_list {s : S} : isiD [.p .emp, .p (.ty "list")] s = .ok (.p (.bl false)) s := isi_ev _ rfl (by decide +kernel)
@[simp] theorem isi_emp_str {s : S} : isiD [.p .emp, .p (.ty "str")] s = .ok (.p (.bl false)) s := isi_ev _ rfl (by decide +kernel)
@[simp] theorem kwE_ev (m : List D → M D) (gD : List D → List D → List D) (ms zs : List EF) (ρ : En) (s : S) : kwE m gD ms zs ρ s = R.bind (evA ms ρ s) fun ds s1 => R.bind (evA zs ρ s1) fun es s2 => m (gD ds es) s2 := by
  unfold kwE
  rw [bnd_ev]
  rfl
end CW
end
section
set_option maxRecDepth 100000
set_option maxHeartbeats 2000000
namespace CW
open PySem PySem.Spec PyProof.Rows L2
abbrev Cf.cqd (C : Cf) (v : Value) (q : Str) : Cf := { C with cq := some (v, q) }
theorem Fn.cqd {C : Cf} {v : Value} {q : Str} {k n : Nat} {f : Addr} {fd : FuncData} {ps : List Str} {m : List D → M D} (F : Fn (C.cqd v q) k f fd ps (spM (C.cqd v q) n m)) : Fn C k f fd ps (spM C n m) := ⟨F.len, F.run⟩
abbrev Cf.noq (C : Cf) : Cf := { C with cq := none }
theorem Fn.noq {C : Cf} {k n : Nat} {f : Addr} {fd : FuncData} {ps : List Str} {m : List D → M D} (F : Fn C.noq k f fd ps (spM C.noq n m)) : Fn C k f fd ps (spM C n m) := ⟨F.len, F.run⟩
theorem cq_of {C : Cf} {v : Value} {c : Addr} {q : Str} (h : v = .ref c) : (C.cqd v q).cq = some (.ref c, q) := by rw [h]
theorem kw_cons {α β : Type} {R : α → β → Prop} {a : List α} {b : List β} {n : Nat} (h : Paired R a b) (l : a.length = n + 1) : ∃ x r y q, a = x :: r ∧ b = y :: q ∧ R x y ∧ Paired R r q ∧ r.length = n := by
  cases h with
  | nil => cases l
  | cons r h => exact ⟨_, _, _, _, rfl, rfl, r, h, Nat.succ.inj l⟩
theorem kw_nil {α β : Type} {R : α → β → Prop} {a : List α} {b : List β} (h : Paired R a b) (l : a.length = 0) : a = [] ∧ b = [] := by
  cases h with
  | nil => exact ⟨rfl, rfl⟩
  | cons r h => cases l
section
variable {s : S} {ρ : En}
@[simp] theorem raiF_ev (c : Str) (m : EF) : raiF c m ρ s = R.bind (R.nox (m ρ s)) fun _ s1 => .exn c s1 := by
  unfold raiF
  rw [bnd_ev]
  rfl
def tryk (cat : Str → Bool) (i j : Nat) (ρ : En) : R Fl → R Fl
  | .ok fl s' => .ok fl s'
  | .exn c s' => if cat c.c = true then .ok (.nx (((ρ.set i (some (.p c.toP))).set j (some (.p c.toP))).set i none)) s' else .bad
  | .bad => .bad
@[simp] theorem tryF_ev (cat : Str → Bool) (i j : Nat) (m : SF) : tryF cat i j m ρ s = tryk cat i j ρ (m ρ s) := rfl
@[simp] theorem tryk_ok (cat : Str → Bool) (i j : Nat) (fl : Fl) : tryk cat i j ρ (.ok fl s) = .ok fl s := rfl
@[simp] theorem tryk_exn (cat : Str → Bool) (i j : Nat) (c : Xc) : tryk cat i j ρ (.exn c s) = if cat c.c = true then .ok (.nx (((ρ.set i (some (.p c.toP))).set j (some (.p c.toP))).set i none)) s else .bad := rfl
@[simp] theorem actE_ev (f c : Addr) (qn : Str) (q : M D) (r : En) : actE f c qn q (some (.p (.lam f c qn)) :: r) s = q s := by
  show (if f = f ∧ c = c ∧ qn = qn then q s else .bad) = q s
  rw [if_pos ⟨rfl, rfl, rfl⟩]
@[simp] theorem its_end (xs : List P) : its (.obj s.length) (s ++ [some (.lst xs)]) = some xs := by
  rw [its_obj]
  unfold lsAt
  rw [List.getElem?_append_right (Nat.le_refl _), Nat.sub_self]
  rfl
@[simp] theorem isN3_exn (g : Bool) (c : Str) : isN g (.p (.exn c)) (.p .non) s = .ok (.p (.bl g)) s := rfl
@[simp] theorem isN3_str (g : Bool) (c : Str) : isN g (.p (.str c)) (.p .non) s = .ok (.p (.bl g)) s := rfl
@[simp] theorem isN3_lst (g : Bool) (c : List P) : isN g (.p (.lst c)) (.p .non) s = .ok (.p (.bl g)) s := rfl
@[simp] theorem isN3_tup (g : Bool) (c : List P) : isN g (.p (.tup c)) (.p .non) s = .ok (.p (.bl g)) s := rfl
@[simp] theorem isN3_int (g : Bool) (c : Int) : isN g (.p (.int c)) (.p .non) s = .ok (.p (.bl g)) s := rfl
@[simp] theorem isN3_bl (g : Bool) (c : Bool) : isN g (.p (.bl c)) (.p .non) s = .ok (.p (.bl g)) s := rfl
@[simp] theorem isN3_emp (g : Bool) : isN g (.p .emp) (.p .non) s = .ok (.p (.bl g)) s := rfl
@[simp] theorem isN3_obj (g : Bool) (n : Nat) : isN g (.obj n) (.p .non) s = .ok (.p (.bl g)) s := rfl
@[simp] theorem isN3_non (g : Bool) : isN g (.p .non) (.p .non) s = .ok (.p (.bl (!g))) s := rfl
def lcq (k : M (List P)) : D → M (List P)
  | .p y => fun s => R.bind (k s) fun r s' => .ok (y :: r) s'
  | .obj _ => fun _ => .bad
@[simp] theorem lcq_p (k : M (List P)) (y : P) : lcq k (.p y) s = R.bind (k s) fun r s' => .ok (y :: r) s' := rfl
theorem lcL_cns {own : List Nat} {t : GF} {c : TF} {m : EF} (x : P) (xs : List P) : lcL own [] t c m ρ (x :: xs) s = R.bind (t (.p x) (wipE ρ own) s) fun ρ1 s1 => R.bind (c ρ1 s1) fun b s2 => if b = true then R.bind (m ρ1 s2) (lcq (lcL own [] t c m ρ xs)) else lcL own [] t c m ρ xs s2 := by
  conv => lhs; unfold lcL
  rw [if_pos (gok_nil s), bnd_ev]
  congr 1
  funext ρ1 s1
  rw [bnd_ev]
  congr 1
  funext b s2
  by_cases hb : b = true
  · rw [if_pos hb, if_pos hb, bnd_ev]
    congr 1
  · rw [if_neg hb, if_neg hb]
def rowk : D → M (List P × Gd) := fun d s => match d with
  | .p (.tup xs) => .ok (xs, []) s
  | d => match rowD d s with
    | some r => .ok r s
    | none => .bad
theorem rowI_k (m : EF) : rowI m ρ s = R.bind (m ρ s) rowk := by
  unfold rowI
  rw [bnd_ev]
  rfl
@[simp] theorem rowk_tup (xs : List P) : rowk (.p (.tup xs)) s = .ok (xs, []) s := rfl
@[simp] theorem rowk_lst (xs : List P) : rowk (.p (.lst xs)) s = .ok (xs, []) s := rfl
@[simp] theorem rowk_con (xs : List P) : rowk (.p (.con xs)) s = .ok (xs, []) s := rfl
end
end CW
end
section
set_option maxRecDepth 100000
set_option maxHeartbeats 2000000
namespace CW
open PySem PySem.Spec PyProof.Rows L2
def strsOf : List P → Option (List Str)
  | [] => some []
  | .str x :: r => (strsOf r).map (x :: ·)
  | _ => none
@[simp] theorem strsOf_map : ∀ ys : List Str, strsOf (ys.map P.str) = some ys
  | [] => rfl
  | y :: r => by
    show (strsOf (r.map P.str)).map (y :: ·) = _
    rw [strsOf_map r]
    rfl
def bitsD : D → M D := fun d s => match d with
  | .p (.int i) => .ok (.p (.int (Builtin.Int.intBits i : Nat))) s
  | _ => .bad
section
variable {C : Cf} {sc : Scope} {N : List Str} {k : Nat} {apos pos : Pos} {o e : Expr} {mo m : EF}
theorem s_bits (ho : SE C sc N k o mo) (hb : ∀ env, attributeBase o "bit_length" env (eval o env) = eval o env := by intro _; rfl) (hl : (apos.endLine == pos.line) = true := by rfl) : SE C sc N k (.Call (.Attribute o "bit_length" apos) [] [] pos) (op1 bitsD mo) := fun X ok => by
  obtain ⟨t, p, q⟩ := ho X ok
  refine ⟨_, pe_bits p (hb _) hl, fun σ H W s ρ Q er A g => ?_⟩
  refine q σ H W s ρ _ er A ((Good.bnd g).mono fun d s1 z W1 H1 v e1 r1 A1 => ?_)
  unfold bitsD at z
  split at z
  · cases r1
    exact ⟨_, rfl, z W1 H1 _ e1 (PV.int _) A1⟩
  · exact z.elim
end
theorem kwB_dG {C : Cf} {x qual : Str} {st : Stmt} {f T : Addr} {fd : FuncData} {ps ks : List Str} {n : Nat} {o : Obj} {u : Value} {z : V} {d : P} {sz : Nat} (F : FunA C.K x qual st f fd (.ref T)) (lT : C.K.lookup T = some o) (oT : o.data = .seq #[u] sz) (rz : RelV z u) (dz : ∀ F H, PV C.K F H z d) (g : {α : Type} → List α → List α → α → List α)
    (hl : ∀ {α : Type} (a c : List α) (w : α), a.length = n → c.length = ks.length → (g a c w).length = ps.length)
    (hg : ∀ {α β : Type} {R : α → β → Prop} {a c : List α} {b e : List β} {v : α} {w : β}, Paired R a b → Paired R c e → R v w → a.length = n → c.length = ks.length → Paired R (g a c v) (g b e w))
    (h : ∀ (kV doc pm : Value) (an : Option Addr) (cdv ct : Value) (us ws : List Value) (w : Value), us.length = n → ws.length = ks.length →
      ∃ k, bindArgs (PySem.W.fnOf x qual (defArgs st) (defBody st) (defScope st) (.ref T) kV doc pm an cdv ct) ⟨us, ks.zip ws⟩ = seqItems? (.ref T) >>= k ∧ k (some #[w]) = pure (ps.zip (g us ws w))) : KwB C fd ps n ks (fun ds es => g ds es (.p d)) := by
  obtain ⟨oc, od, kV, doc, pm, an, cdv, ct, osl, rfl, lk, hcd⟩ := F.ex
  refine ⟨fun ds es => hl ds es (.p d), fun s W H us ws vs zs ds es kin r1 r2 d1 d2 l1 l2 => ⟨g us ws u, g vs zs z, ?_, hg r1 r2 rz (r1.length.trans l1) (r2.length.trans l2), hg d1 d2 (show DV C.K W H z (.p d) from dz _ _) (r1.length.trans l1) (r2.length.trans l2)⟩⟩
  obtain ⟨k, e1, e2⟩ := h kV doc pm an cdv ct us ws u l1 l2
  refine L2.BindsTo.of_looks fun M => ?_
  rw [e1]
  exact looks_items kin lT oT (.of_pure e2)
end CW
end
section
set_option maxRecDepth 100000
set_option maxHeartbeats 2000000
namespace CW
open PySem PySem.Spec PyProof.Rows L2
/-- the items of a row from lo to hi -/
def cutP (xs : List P) (lo hi : Option Int) : List P := (xs.drop (HT.sIx xs.length 0 lo)).take (HT.sIx xs.length xs.length hi - HT.sIx xs.length 0 lo)
theorem PVs.cut {K : PySem.W.Frag} {F : Addr → Prop} {H : Hp} {vs : List V} {xs : List P} (h : PVs K F H vs xs) (lo hi : Option Int) : PVs K F H (cutV vs lo hi) (cutP xs lo hi) := by
  unfold cutV cutP
  rw [h.len]
  exact PVs.take _ (PVs.drop _ h)
def slcD (fr : Bool) (x : D) (lo hi : Option Int) : M D := fun s => match x with
  | .p (.str z) => if z.length ≤ sizeLine then .ok (.p (.str (Txt.slice z lo hi))) s else .bad
  | .p (.tup xs) => .ok (.p (.tup (cutP xs lo hi))) s
  | x => match its x s with
    | some xs => mkL fr (cutP xs lo hi) s
    | none => .bad
def partE (d : D) : M (Option Int) := fun s => match d with
  | .p (.int i) => .ok (some i) s
  | _ => .bad
def optE : Option EF → En → M (Option Int)
  | none => fun _ s => .ok none s
  | some m => fun ρ => bnd (m ρ) partE
def slcE (fr : Bool) (ma : EF) (lo hi : Option EF) : EF := fun ρ => bnd (ma ρ) fun x => bnd (optE lo ρ) fun l => bnd (optE hi ρ) fun u => slcD fr x l u
def PoI (K : PySem.W.Frag) (W : Wd) (H : Hp) (Q : Option Int → Hp → Prop) : Option Int → S → Prop := fun d s => ∀ W' H', Ev W H W' H' → Abs K W' s H' → Q d H'
def SO (C : Cf) (sc : Scope) (N : List Str) (k : Nat) (e : Option Expr) (m : En → M (Option Int)) : Prop :=
  ∀ X, Cok C sc N k X → ∃ t, PO X e t ∧ ∀ σ H W s ρ Q, ER C W H σ ρ → Abs C.K W s H → Good (m ρ s) (PoI C.K W H Q) → t σ H Q
section
variable {C : Cf} {sc : Scope} {N : List Str} {k : Nat} {pos p2 : Pos} {e a b : Expr} {m ma mb : EF} {lo hi : Option Expr} {l u : Option EF}
theorem o_none : SO C sc N k none (optE none) := fun X ok => ⟨_, po_none, fun σ H W s ρ Q er A g => g W H Ev.rfl A⟩
theorem o_some (ha : SE C sc N k a ma) : SO C sc N k (some a) (optE (some ma)) := fun X ok => by
  obtain ⟨ta, pa, qa⟩ := ha X ok
  refine ⟨_, po_some pa, fun σ H W s ρ Q er A g => ?_⟩
  refine qa σ H W s ρ _ er A (Good.bnd g |>.mono fun dx s1 h1 W1 H1 x e1 r1 A1 => ?_)
  unfold partE at h1
  split at h1
  · cases r1
    exact ⟨_, rfl, h1 W1 H1 e1 A1⟩
  · exact h1.elim
theorem slc_go {W : Wd} {s : S} {H : Hp} {fr : Bool} {x : V} {d : D} {lo hi : Option Int} {Q : VK} (rx : DV C.K W H x d) (A : Abs C.K W s H) (g : Good (slcD fr d lo hi s) (Po C.K W H Q)) : ((C8.rSlX x lo hi H Q ∨ rSlA C.K x lo hi H Q) ∨ rSlL C.K x lo hi H Q) := by
  unfold slcD at g
  split at g
  · rename_i z
    split at g
    · rename_i hl
      cases rx
      exact Or.inl (Or.inl ⟨z, rfl, hl, g W H _ Ev.rfl (PV.str _) A⟩)
    · exact g.elim
  · rename_i xs
    cases rx with
    | tup h1 h2 =>
      have hn := h2.len
      refine Or.inl (Or.inr ⟨_, _, rfl, h1, fun hw => ?_, fun hw p hp => ?_⟩)
      · rw [hn] at hw
        have e : cutP xs lo hi = xs := by
          unfold cutP
          rw [hw.1, hw.2, List.drop_zero, Nat.sub_zero, List.take_length]
        rw [e] at g
        exact g W H _ Ev.rfl (PV.tup h1 h2) A
      · exact g W _ _ (Ev.new hp) (PV.tup (SqT.of upd_same) (PVs.up (Ev.new hp) (h2.cut lo hi))) (A.new hp)
  · split at g
    · rename_i xs e1
      obtain ⟨a, vs, rfl, h1, h2⟩ := its_sq rx A e1
      exact Or.inr ⟨a, vs, rfl, h1, fun p hp => mkL_go Ev.rfl A (h2.cut lo hi) g hp⟩
    · exact g.elim
theorem s_slc (fr : Bool) (ha : SE C sc N k a ma) (hl : SO C sc N k lo (optE l)) (hu : SO C sc N k hi (optE u)) : SE C sc N k (.Subscript a (.Slice lo hi none p2) pos) (slcE fr ma l u) := fun X ok => by
  obtain ⟨ta, pa, qa⟩ := ha X ok
  obtain ⟨tl, pl, ql⟩ := hl X ok
  obtain ⟨tu, pu, qu⟩ := hu X ok
  refine ⟨_, pe_slice (SlR.or (SlR.or C8.sl_txt sl_tupA) sl_list) pa pl pu, fun σ H W s ρ Q er A g => ?_⟩
  refine qa σ H W s ρ _ er A (Good.bnd g |>.mono fun dx s1 h1 W1 H1 x e1 r1 A1 => ?_)
  refine ql σ H1 W1 s1 ρ _ (er.up e1) A1 (h1.bnd.mono fun dl s2 h2 W2 H2 e2 A2 => ?_)
  refine qu σ H2 W2 s2 ρ _ (er.up (e1.trans e2)) A2 (h2.bnd.mono fun du s3 h3 W3 H3 e3 A3 => ?_)
  rw [ok.eK]
  exact slc_go (r1.up (e2.trans e3)) A3 (h3.mono fun d s z => z.up (e1.trans (e2.trans e3)))
end
end CW
end
section
set_option maxRecDepth 100000
set_option maxHeartbeats 2000000
namespace CW
open PySem PySem.Spec PyProof.Rows L2
/-- the items of a row of things -/
def rowAt (d : D) (s : S) : Option (List D) := match d with
  | .obj n => match s[n]? with
    | some (some (.row ds)) => some ds
    | _ => none
  | _ => none
section
variable {C : Cf} {K : PySem.W.Frag} {W : Wd} {H : Hp} {s : S} {v : V} {d : D}
theorem rowAt_obj {W : Wd} {H : Hp} {s : S} {v : V} {d : D} {ds : List D} (r : DV C.K W H v d) (A : Abs C.K W s H) (h : rowAt d s = some ds) : ∃ n a vs, d = .obj n ∧ s[n]? = some (some (.row ds)) ∧ W.io[n]? = some a ∧ v = .ref a ∧ H a = some (.lst vs) ∧ DVs C.K W H vs ds := by
  unfold rowAt at h
  split at h
  · rename_i n
    split at h
    · rename_i qs hs
      cases h
      obtain ⟨a, h4, rfl⟩ := r
      obtain ⟨a', h5, _, vs, h6, h7⟩ := A.ob n _ hs
      rw [h4] at h5
      cases h5
      exact ⟨n, a, vs, rfl, hs, h4, rfl, h6, h7⟩
    · cases h
  · cases h
theorem DVs.get : ∀ {vs : List V} {ds : List D} {i : Nat} {d : D}, DVs K W H vs ds → ds[i]? = some d → ∃ v, vs[i]? = some v ∧ DV K W H v d
  | _, _, _, _, .nil, e => by simp at e
  | _, _, 0, _, .cons h _, e => by
    simp at e
    subst e
    exact ⟨_, rfl, h⟩
  | _, _, i + 1, d, .cons _ r, e => by
    obtain ⟨v, h1, h2⟩ := DVs.get (i := i) (d := d) r (by simpa using e)
    exact ⟨v, by simpa using h1, h2⟩
theorem DVs.put {v : V} {d : D} (h : DV K W H v d) : ∀ {vs : List V} {ds : List D} (i : Nat), DVs K W H vs ds → DVs K W H (vs.set i v) (ds.set i d)
  | _, _, _, .nil => .nil
  | _, _, 0, .cons _ r => .cons h r
  | _, _, i + 1, .cons q r => .cons q (DVs.put h i r)
theorem DVs.atI {vs : List V} {ds : List D} {i : Int} {d : D} (h : DVs K W H vs ds) (e : L2.atI ds i = some d) : ∃ v, L2.atI vs i = some v ∧ DV K W H v d := by
  unfold L2.atI at e ⊢
  rw [Paired.length h]
  cases hj : ixN ds.length i with
  | none =>
    rw [hj] at e
    cases e
  | some j =>
    rw [hj] at e
    exact h.get e
end
/-- a new row of things -/
def newR (ds : List D) : M D := fun s => .ok (.obj s.length) (s ++ [some (.row ds)])
def lsrE (ms : List EF) : EF := fun ρ => bnd (evA ms ρ) newR
/-- an item of a row of things -/
def rixD (x y : D) : M D := fun s => match rowAt x s, y with
  | some ds, .p (.int i) => match L2.atI ds i with
    | some d => .ok d s
    | none => .bad
  | _, _ => .bad
def rputF (mo mi mv : EF) : SF := fun ρ => bnd (mv ρ) fun v => bnd (mo ρ) fun d => bnd (mi ρ) fun i s => match d, rowAt d s, i with
  | .obj n, some ds, .p (.int z) => match ixN ds.length z with
    | some j => .ok (.nx ρ) (s.set n (some (.row (ds.set j v))))
    | none => .bad
  | _, _, _ => .bad
def popD0 : D → List D → M D := fun d ds s => match d, ds with
  | .obj n, [.p (.int 0)] => match s[n]? with
    | some (some (.lst (x :: xs))) => .ok (.p x) (s.set n (some (.lst xs)))
    | _ => .bad
  | _, _ => .bad
noncomputable def r3I (ms : List EF) : IF := fun ρ => bnd (evA ms ρ) fun ds s => match ds with
  | [.p (.int i), .p (.int j), .p (.int c)] => @ite _ (c ≠ 0 ∧ c.natAbs < 1073741824 ∧ Builtin.Range.small i j c = true ∧ 0 ≤ Builtin.Range.rangeSize i j c) (Classical.propDecidable _) (.ok ((List.range (Builtin.Range.rangeSize i j c).toNat).map (fun k => P.int (i + (k : Nat) * c)), []) s) .bad
  | _ => .bad
section
variable {C : Cf} {sc : Scope} {N : List Str} {k : Nat} {pos p2 : Pos} {e a b c tg : Expr} {m ma mb : EF} {es : List Expr} {ms : List EF}
theorem s_lsr (h : SAs C sc N k es ms) (hl : ms.length ≤ sizeLine := by decide) : SE C sc N k (.List es pos) (lsrE ms) := fun X ok => by
  obtain ⟨t, p, q⟩ := h X ok
  refine ⟨_, pe_lst p, fun σ H W s ρ Q er A g => ?_⟩
  refine q σ H W s ρ _ er A (g.bnd.len.mono fun ds s1 ⟨z, h1⟩ W1 H1 vs e1 r1 A1 => ?_)
  refine ⟨by rw [Paired.length r1, z]; exact hl, fun o ho => ?_⟩
  have ev : Ev W1 H1 (W1.add o) (upd H1 o (.lst vs)) := Ev.add ho
  exact h1 _ _ _ (e1.trans ev) ⟨o, A1.nobj ho, rfl⟩ (A1.add ho ⟨vs, upd_same, DVs.up ev r1⟩)
theorem s_rix (ha : SE C sc N k a ma) (hb : SE C sc N k b mb) (hs : PlainIx b := by exact fun _ _ => rfl) : SE C sc N k (.Subscript a b pos) (op2 rixD ma mb) := fun X ok => by
  obtain ⟨ta, pa, qa⟩ := ha X ok
  obtain ⟨tb, pb, qb⟩ := hb X ok
  refine ⟨_, pe_ix ix_seq pa pb hs, fun σ H W s ρ Q er A g => ?_⟩
  rw [ok.eK]
  exact two qa qb er A g fun W' H' s' x y dx dy e rx ry A' g' => by
    unfold rixD at g'
    split at g'
    · rename_i ds i hd
      cases ry
      split at g'
      · rename_i d hz
        obtain ⟨n, a, vs, rfl, hs, h3, rfl, h4, h5⟩ := rowAt_obj rx A' hd
        obtain ⟨v, h1, h2⟩ := h5.atI hz
        exact Or.inl ⟨_, _, _, _, rfl, rfl, SqL.of h4, h1, g' W' H' v Ev.rfl h2 A'⟩
      · exact g'.elim
    · exact g'.elim
theorem x_rput {o i value : Expr} {p3 : Pos} {mo mi mv : EF} (ho : SE C sc N k o mo) (hi : SE C sc N k i mi) (hv : SE C sc N k value mv) (hs : ∀ env : Env, env.scope = sc → swapsWithSole [.Subscript o i p3] value pos.line env = pure false := by intro _ _; rfl)
    (hw : ∀ env : Env, swappedStores [.Subscript o i p3] value env = pure none := by intro _; rfl) (h1 : ∀ env, (assignEach [.Subscript o i p3] env).map (·.2) = [assign (.Subscript o i p3) env] := by intro _; rfl)
    (ha : ∀ env v, assign (.Subscript o i p3) env v = (do
      let ov ← holding [v] (eval o env)
      let iv ← holding [v, ov] (eval i env)
      standAt p3
      holding [v, ov, iv] (setItem ov iv v)
      release [v, ov, iv] []) := by intro _ _; rfl) : SS C sc N k (.Assign [.Subscript o i p3] value pos) (rputF mo mi mv) := fun X ok => by
  obtain ⟨t1, p1, q1⟩ := ho X ok.toCok
  obtain ⟨t2, p2, q2⟩ := hi X ok.toCok
  obtain ⟨t3, p3, q3⟩ := hv X ok.toCok
  refine ⟨_, ps_asg p3 (pg_sub p1 p2 set_list (ha X.env)) (hs X.env ok.eS) (hw X.env) (h1 X.env), fun D σ H W s ρ er A g => ?_⟩
  refine q3 σ H W s ρ _ er A ((Good.bnd g).mono fun v s1 z W1 H1 vv e1 r1 A1 => ?_)
  refine q1 σ H1 W1 s1 ρ _ (er.up e1) A1 ((Good.bnd z).mono fun d s2 z2 W2 H2 vd e2 r2 A2 => ?_)
  refine q2 σ H2 W2 s2 ρ _ ((er.up e1).up e2) A2 ((Good.bnd z2).mono fun i s3 z3 W3 H3 vi e3 r3 A3 => ?_)
  split at z3
  · rename_i n ds iz hd
    split at z3
    · rename_i j hj
      cases r3
      obtain ⟨n', a, vs, hn, hx, h4, rfl, h6, h7⟩ := rowAt_obj (r2.up e3) A3 hd
      cases hn
      have ev : Ev W3 H3 W3 (upd H3 a (.lst (vs.set j vv))) := Ev.put (o' := .row []) A3 hx h4
      refine ⟨a, vs, _, j, rfl, rfl, h6, by rw [Paired.length h7]; exact hj, z3 W3 _ _ (((e1.trans e2).trans e3).trans ev) ((((er.up e1).up e2).up e3).up ev) (A3.put hx h4 ⟨_, upd_same, DVs.put ?_ j (DVs.up ev h7)⟩)⟩
      exact ((r1.up e2).up e3).up ev
    · exact z3.elim
  · exact z3.elim
theorem m_pop0 : MtS C k "list.pop" popD0 := fun X ok => ⟨_, mt_popAt, fun W s H x d xs ds Q rx r A g => by
  unfold popD0 at g
  split at g
  · split at g
    · rename_i y ys hn
      obtain ⟨a, vs, ha, rfl, h1, h2⟩ := obj_lst rx A hn
      cases h2 with
      | cons hv hr =>
        cases r with
        | cons ri rr =>
          cases rr
          cases ri
          exact ⟨a, _, 0, 0, _, rfl, rfl, h1, by decide, by decide, by simp [seqIndex?], rfl, put_go A hn ha hr (d := .p y) hv g⟩
    · exact g.elim
  · exact g.elim⟩
theorem itc_ok {lo c : Int} {n : Nat} {W : Wd} {H : Hp} : ItOk C.K (Itc lo c n) W H ((List.range n).map fun k => P.int (lo + (k : Nat) * c)) [] := fun W1 H1 s1 e A1 hg i => by
  refine ⟨fun x hx => ?_, fun hi => by rw [List.length_map, List.length_range] at hi; exact Nat.le_of_eq hi⟩
  have hi : i < n := by
    have z := (List.getElem?_eq_some_iff.mp hx).1
    rw [List.length_map, List.length_range] at z
    exact z
  refine ⟨hi, fun u H' hy => ?_⟩
  obtain ⟨rfl, rfl⟩ := hy
  rw [List.getElem?_map, List.getElem?_range hi] at hx
  cases hx
  exact ⟨Ev.rfl, .int _, A1⟩
theorem i_r3 (ha : SAs C sc N k [a, b, c] ms) (hm : C.mg "range" = none) (hg : GlS sc "range" := by rfl) (hs : ∀ env, starEach [a, b, c] env = (false, eval a env) :: starEach [b, c] env := by intro _; rfl)
    (hpl : ∀ env, (backTo pos (starEach [b, c] env)).any (·.1) = false := by intro _; rfl) : SI C sc N k tg (.Call (.Name "range" p2) [a, b, c] [] pos) (r3I ms) := fun X ok => by
  obtain ⟨t, p, q⟩ := ha X ok
  refine ⟨_, pi_range3 (hg.of ok) (by rw [ok.em]; exact hm) p (hs X.env) (hpl X.env), fun σ H W s ρ R er A g => ?_⟩
  refine q σ H W s ρ _ er A ((Good.bnd g).mono fun ds s1 z W1 H1 vs e1 r1 A1 => ?_)
  split at z
  · split at z
    · rename_i hb
      obtain ⟨x, y, w, rfl, hx, hy, hw⟩ := dvs3 r1
      cases hx
      cases hy
      cases hw
      obtain ⟨b1, b2, b3, b4⟩ := hb
      exact ⟨_, _, _, _, rfl, ⟨b1, b2, b3, (Int.toNat_of_nonneg b4).symm⟩, z W1 H1 _ e1 A1 itc_ok⟩
    · exact z.elim
  · exact z.elim
end
section
variable {s : S} {ρ : En} {ma mb mc : EF} {ms : List EF}
theorem lsrE_ev : lsrE ms ρ s = R.bind (evA ms ρ s) newR := by
  unfold lsrE
  rw [bnd_ev]
theorem rixD_ev {n : Nat} {ds : List D} {z : Int} {d : D} (h4 : s[n]? = some (some (.row ds))) (h5 : L2.atI ds z = some d) : rixD (.obj n) (.p (.int z)) s = .ok d s := by
  have hr : rowAt (.obj n) s = some ds := by
    unfold rowAt
    try dsimp only
    rw [h4]
  unfold rixD
  rw [hr]
  try dsimp only
  rw [h5]
theorem popD0_ev {n : Nat} {x : P} {xs : List P} (h : s[n]? = some (some (.lst (x :: xs)))) : popD0 (.obj n) [.p (.int 0)] s = .ok (.p x) (s.set n (some (.lst xs))) := by
  show (match s[n]? with
    | some (some (O.lst (x :: xs))) => R.ok (D.p x) (s.set n (some (O.lst xs)))
    | _ => R.bad) = _
  rw [h]
end
end CW
end
section
set_option maxRecDepth 100000
set_option maxHeartbeats 2000000
namespace CW
open PySem PySem.Spec PyProof.Rows L2
section
variable {C : Cf} {sc : Scope} {N : List Str} {k : Nat} {pos p2 apos cpos : Pos} {e a b c o f : Expr} {m ma mb mc : EF}
/-- is True -/
def isB (neg : Bool) (x y : D) : M D := fun s => match x, y with
  | .p (.bl a), .p (.bl b) => .ok (.p (.bl (if neg = true then !decide (a = b) else decide (a = b)))) s
  | _, _ => .bad
@[simp] theorem isB_ev (neg a b : Bool) (s : S) : isB neg (.p (.bl a)) (.p (.bl b)) s = .ok (.p (.bl (if neg = true then !decide (a = b) else decide (a = b)))) s := rfl
theorem pvs_ints {K : PySem.W.Frag} {F : Addr → Prop} {H : Hp} : ∀ is : List Int, PVs K F H (is.map V.int) (is.map P.int)
  | [] => .nil
  | i :: is => .cons (PV.int _) (pvs_ints is)
variable {ρ : En} {s s1 s2 s3 : S} {n : Nat} {kvs : List (Key × D)} {y z d : D} {q : Key}
end
end CW
end
section
set_option maxRecDepth 100000
set_option maxHeartbeats 2000000
namespace CW
open PySem PySem.Spec PyProof.Rows L2
section
variable {prog : Program} {w : World} {A : Around} {s : Shared}
def IsTI (h : Heap) (v : Value) (is : List Int) : Prop := ∃ a o xs n, v = Value.ref a ∧ h.get? a = some o ∧ o.cls = .type "tuple" ∧ o.data = .seq xs n ∧ IntsAre xs.toList is ∧ is ≠ []
theorem IsTI.keeps {h h' : Heap} {v : Value} {is : List Int} (t : IsTI h v is) (k : ∀ b o, h.get? b = some o → o.cls = .type "tuple" → h'.get? b = some o) : IsTI h' v is := by
  obtain ⟨a, o, xs, n, e, ho, hc, hd, hi, hn⟩ := t
  exact ⟨a, o, xs, n, e, k a o ho hc, hc, hd, hi, hn⟩
theorem ti_items : ∀ {xs : List Value} {is : List Int}, IntsAre xs is → ∀ i, tupItems (fun _ => false) i xs = some (is.map Sum.inl)
  | _, _, .nil, i => rfl
  | _, _, .cons n t r, i => by
    show (if false = true then none else (tupItems (fun _ => false) (i + 1) _).map (Sum.inl n :: ·)) = _
    rw [if_neg Bool.false_ne_true, ti_items r (i + 1)]
    rfl
theorem ti_lex : ∀ is js : List Int, PyProof.Rows.lexLt itemOrd (is.map Sum.inl) (js.map Sum.inl) = HT.lexLt is js := by
  intro is
  induction is with
  | nil => intro js; cases js <;> rfl
  | cons x xs ih =>
    intro js
    cases js with
    | nil => rfl
    | cons y ys =>
      rw [List.map_cons, List.map_cons, HT.lexLt_cons]
      by_cases e : x = y
      · subst e
        rw [if_pos rfl]
        exact (PyProof.Rows.lex_self (O := itemOrd) (Sum.inl x) _ _).trans (ih ys)
      · rw [if_neg e]
        exact PyProof.Rows.lex_diff (O := itemOrd) (x := Sum.inl x) (y := Sum.inl y) (fun z => e (Sum.inl.inj z))
theorem ti_cmp {vs : List Value} {k : Value → List Int} (hv : ∀ v ∈ vs, IsTI s.heap v (k v)) : SrtO.Cmp prog w A s (tuples' true) (fun p => p.1 ∈ vs) (SrtO.lt2 fun v u => HT.lexLt (k v) (k u)) := by
  intro p q hm hm'
  have h1 := hv _ hm
  have h2 := hv _ hm'
  show wpAny (model prog w) A (keyLt' (tuples' true) p.1 q.1) (fun r s' => s' = s ∧ r = HT.lexLt (k p.1) (k q.1)) (fun _ _ => False) s
  generalize k p.1 = is at h1 ⊢
  generalize k q.1 = js at h2 ⊢
  obtain ⟨a, o, xs, n, e, ho, hc, hd, hi, _⟩ := h1
  obtain ⟨a', o', xs', n', e', ho', hc', hd', hi', _⟩ := h2
  rw [e, e']
  refine PySem.W.kat_lt ho hd ho' hd' (tup_lex xs.toList xs'.toList 0 _ _ (ti_items hi 0) (ti_items hi' 0) (by rw [Array.length_toList, Array.length_toList]) ⟨rfl, ti_lex is js⟩)
theorem ti_tups {h : Heap} {k : Value → List Int} : ∀ {vs : List Value}, (∀ v ∈ vs, IsTI h v (k v)) → ∃ fs, TupsOf h (fun _ => false) vs fs
  | [], _ => ⟨[], .nil⟩
  | v :: vs, hv => by
    obtain ⟨fs, r⟩ := ti_tups fun u hu => hv u (List.mem_cons_of_mem _ hu)
    obtain ⟨a, o, xs, n, e, ho, hc, hd, hi, hn⟩ := hv v List.mem_cons_self
    cases hx : xs.toList with
    | nil =>
      rw [hx] at hi
      have := hi.length
      exact absurd (List.length_eq_zero_iff.mp this.symm) hn
    | cons f r' =>
      rw [hx] at hi
      generalize k v = is at hi
      cases hi with
      | cons m t ri =>
        exact ⟨_ :: fs, .cons ⟨a, o, xs, n, e, ho, hc, hd, by rw [← Array.getElem?_toList, hx]; rfl, fun _ => ⟨m, t, rfl⟩, fun z => nomatch z⟩ r⟩
theorem tups_len {h : Heap} {shape : Nat → Bool} : ∀ {vs fs : List Value}, TupsOf h shape vs fs → fs.length = vs.length
  | _, _, .nil => rfl
  | _, _, .cons _ r => by rw [List.length_cons, List.length_cons, tups_len r]
theorem ti_sortable {a : Addr} {vs : List Value} {k : Value → List Int} (h2 : 2 ≤ vs.length) (hv : ∀ v ∈ vs, IsTI s.heap v (k v)) (ha : ∀ o, s.heap.get? a = some o → o.cls ≠ .type "tuple") : SrtO.SortableO prog w A s a vs fun v u => HT.lexLt (k v) (k u) := by
  intro h' keep
  have hv' : ∀ v ∈ vs, IsTI h' v (k v) := fun v hm => (hv v hm).keeps fun b o e c => keep b o (fun z => by subst z; exact ha o e c) e
  obtain ⟨fs, ht⟩ := ti_tups hv'
  exact ⟨tuples' true, fun Q E hq => tup_kind (s := { s with heap := h' }) (by rw [tups_len ht]; omega) ht hq, ti_cmp (s := { s with heap := h' }) hv'⟩
end
/-- a tuple of whole numbers -/
def RTI (K : PySem.W.Frag) (H : Hp) (y : V) (is : List Int) : Prop := ∃ t, y = V.ref t ∧ SqT K H t (is.map V.int) ∧ is ≠ []
def rSortedT (K : PySem.W.Frag) : List V → Hp → VK → Prop := fun vs H Q => ∃ (a : Addr) (ys : List V) (iss : List (List Int)), vs = [V.ref a] ∧ SqL K H a ys ∧ Paired (RTI K H) ys iss ∧
  ∀ (zs : List V) (jss : List (List Int)) (p : Addr), Paired (RTI K H) zs jss → jss.Perm iss → jss.Pairwise (fun x y => HT.lexLt y x = false) → H p = none → Q (.ref p) (upd H p (.lst zs))
/-- the numbers of a tuple in a heap -/
def kvH (h : Heap) : Value → List Int
  | .ref a => match h.get? a with
    | some o => match o.data with
      | .seq xs _ => xs.toList.map SrtO.iv
      | _ => []
    | none => []
  | _ => []
theorem kvH_is {h : Heap} {v : Value} {is : List Int} (t : IsTI h v is) : kvH h v = is := by
  obtain ⟨a, o, xs, n, rfl, ho, hc, hd, hi, hn⟩ := t
  unfold kvH
  dsimp only
  rw [ho]
  dsimp only
  rw [hd]
  exact SrtO.iv_ints hi
section
variable {X : Cx}
theorem cr_sortedT : CallR X (.builtin "sorted") (rSortedT X.K) := by
  intro pins s σ H vs us Q I r h
  obtain ⟨a, ys, iss, rfl, hs, hp, q⟩ := h
  obtain ⟨its, rv, hl, hz⟩ := I.list hs
  rw [Vals.ref1 r]
  have key : ∀ {ys : List V} {iss : List (List Int)} {its : List Value}, Vals ys its → Paired (RTI X.K H) ys iss → its.map (kvH s.heap) = iss ∧ ∀ u ∈ its, IsTI s.heap u (kvH s.heap u) ∧ RTI X.K H (backV u) (kvH s.heap u) ∧ ∃ b, u = .ref b := by
    intro ys iss its rv hp
    induction hp generalizing its with
    | nil =>
      cases rv
      exact ⟨rfl, fun u hu => nomatch hu⟩
    | @cons y is ys iss hy _ ih =>
      obtain ⟨t, rfl, ht, hn⟩ := hy
      cases rv with
      | cons r1 r2 =>
        cases r1
        obtain ⟨g1, g2⟩ := ih r2
        obtain ⟨jts, rj, ⟨o, ho, hc, n, hd⟩, _⟩ := I.tuple ht
        have ti : IsTI s.heap (.ref t) is := ⟨t, o, jts.toArray, n, rfl, ho, hc, hd, by simpa using rj.ints, hn⟩
        have e := kvH_is ti
        refine ⟨by rw [List.map_cons, g1, e], fun u hu => ?_⟩
        rcases List.mem_cons.mp hu with z | z
        · subst z
          rw [e]
          exact ⟨ti, ⟨t, rfl, ht, hn⟩, t, rfl⟩
        · exact g2 u z
  obtain ⟨k1, k2⟩ := key rv hp
  refine SrtO.sorted_ord (NtL.swo_lexL (kvH s.heap)) hl.isList (by rw [← rv.length]; exact hz) (fun h2 h₁ a' ha' keep => ti_sortable (s := { s with heap := h₁ }) h2 (fun v hm => (k2 v hm).1.keeps fun b o e _ => (keep b o e).2) fun o e c => ?_) fun out h1 h2 => ?_
  · have e' := e.symm.trans ha'
    cases e'
    exact absurd (Value.type.inj c) (by decide)
  · have hm : ∀ u ∈ out, u ∈ its := fun u hu => h2.perm.mem_iff.mp hu
    obtain ⟨ep, he'⟩ := PyProof.Rows.sortedAll_at s.heap its out.toArray
    have hb : Vals (out.map backV) out := vals_back fun u hu => (k2 u (hm u hu)).2.2
    have hlen : (out.map backV).length ≤ sizeLine := by
      rw [List.length_map, h2.perm.length_eq, ← rv.length]
      exact hz
    have pr : ∀ l : List Value, (∀ u ∈ l, u ∈ its) → Paired (RTI X.K H) (l.map backV) (l.map (kvH s.heap)) := by
      intro l
      induction l with
      | nil => intro _; exact .nil
      | cons u l ih => exact fun hl => .cons (k2 u (hl u List.mem_cons_self)).2.1 (ih fun v hv => hl v (List.mem_cons_of_mem _ hv))
    refine ⟨.ref _, upd H (s.heap.objs.size + 1) (.lst (out.map backV)), I.laid (t' := s.toks) (fun _ _ => PyProof.Rows.sortedAll_old) (Nat.le_succ _) ⟨hlen, out, ep, hb, he'⟩, rfl, q _ (out.map (kvH s.heap)) _ (pr out hm) ?_ ?_ (I.hok.fresh (Nat.le_succ _))⟩
    · have := h2.perm.map (kvH s.heap)
      rw [k1] at this
      exact this
    · exact List.pairwise_map.mpr (h1.imp fun z => z)
end
def tisOf : List P → Option (List (List Int))
  | [] => some []
  | .tup ys :: r => match intsOf ys, tisOf r with
    | some is, some iss => if is ≠ [] then some (is :: iss) else none
    | _, _ => none
  | _ :: _ => none
def tiP (is : List Int) : P := .tup (is.map P.int)
theorem tisOf_eq : ∀ {xs : List P} {iss : List (List Int)}, tisOf xs = some iss → xs = iss.map tiP ∧ ∀ is ∈ iss, is ≠ []
  | [], iss, h => by cases h; exact ⟨rfl, fun _ h => nomatch h⟩
  | x :: r, iss, h => by
    cases x with
    | tup ys =>
      unfold tisOf at h
      split at h
      · rename_i is iss' h1 h2
        split at h
        · rename_i hn
          cases h
          obtain ⟨e1, e2⟩ := tisOf_eq h2
          refine ⟨?_, fun js hj => ?_⟩
          · rw [List.map_cons, ← e1, tiP, ← intsOf_eq h1]
          · rcases List.mem_cons.mp hj with z | z
            · rw [z]; exact hn
            · exact e2 js z
        · cases h
      · cases h
    | _ => cases h
theorem tisOf_map : ∀ {iss : List (List Int)}, (∀ is ∈ iss, is ≠ []) → tisOf (iss.map tiP) = some iss
  | [], _ => rfl
  | is :: iss, h => by
    show (match intsOf (is.map P.int), tisOf (iss.map tiP) with
      | some is, some iss => if is ≠ [] then some (is :: iss) else none
      | _, _ => none) = _
    rw [intsOf_map, tisOf_map fun js hj => h js (List.mem_cons_of_mem _ hj)]
    exact if_pos (h is List.mem_cons_self)
def lexLe (x y : List Int) : Bool := !HT.lexLt y x
theorem lex_anti : ∀ {x y : List Int}, HT.lexLt x y = false → HT.lexLt y x = false → x = y
  | [], [], _, _ => rfl
  | [], _ :: _, h, _ => by cases h
  | _ :: _, [], _, h => by cases h
  | a :: x, b :: y, h1, h2 => by
    rw [HT.lexLt_cons] at h1 h2
    by_cases e : a = b
    · subst e
      rw [if_pos rfl] at h1 h2
      rw [lex_anti h1 h2]
    · rw [if_neg e] at h1
      rw [if_neg fun z => e z.symm] at h2
      have := of_decide_eq_false h1
      have := of_decide_eq_false h2
      omega
theorem tsort_eq {iss jss : List (List Int)} (h : jss.Perm iss) (hp : jss.Pairwise (fun x y => HT.lexLt y x = false)) : iss.mergeSort lexLe = jss := by
  have O := NtL.swo_lexL (fun x : List Int => x)
  have h1 : (iss.mergeSort lexLe).Pairwise (fun x y => HT.lexLt y x = false) := by
    have := List.pairwise_mergeSort (le := lexLe) (fun a b c h1 h2 => by
      unfold lexLe at *
      have z1 : HT.lexLt b a = false := by simpa using h1
      have z2 : HT.lexLt c b = false := by simpa using h2
      have := O.tr a b c z1 z2
      simpa using this) (fun a b => by
      unfold lexLe
      cases e : HT.lexLt b a with
      | false => rfl
      | true =>
        have := O.asym b a e
        simp [this]) iss
    exact this.imp fun h => by unfold lexLe at h; simpa using h
  exact List.Perm.eq_of_pairwise (fun a b _ _ h1 h2 => lex_anti h2 h1) h1 hp ((List.mergeSort_perm _ _).trans h.symm)
def srtT (fr : Bool) : List D → M D := fun ds s => match ds with
  | [d] => match its d s with
    | some xs => match tisOf xs with
      | some iss => mkL fr ((iss.mergeSort lexLe).map tiP) s
      | none => .bad
    | none => .bad
  | _ => .bad
section
variable {C : Cf} {k : Nat}
theorem pvs_rti {K : PySem.W.Frag} {F : Addr → Prop} {H : Hp} {zs : List V} {jss : List (List Int)} (h : Paired (RTI K H) zs jss) : PVs K F H zs (jss.map tiP) := by
  induction h with
  | nil => exact .nil
  | cons hh _ ih =>
    obtain ⟨t, rfl, ht, _⟩ := hh
    exact .cons (.tup ht (pvs_ints _)) ih
theorem rti_of {K : PySem.W.Frag} {F : Addr → Prop} {H : Hp} : ∀ {ys : List V} {iss : List (List Int)}, PVs K F H ys (iss.map tiP) → (∀ is ∈ iss, is ≠ []) → Paired (RTI K H) ys iss
  | [], [], _, _ => .nil
  | [], _ :: _, h, _ => nomatch h
  | _ :: _, [], h, _ => nomatch h
  | y :: ys, is :: iss, h, hn => by
    cases h with
    | cons h1 h2 =>
      refine .cons ?_ (rti_of h2 fun js hj => hn js (List.mem_cons_of_mem _ hj))
      cases h1 with
      | tup ht hr =>
        have e := hr.int_eq
        subst e
        exact ⟨_, rfl, ht, hn is List.mem_cons_self⟩
theorem c_srtT (fr : Bool) : CaS C k (.builtin "sorted") (srtT fr) := fun X ok => ⟨_, cr_sortedT, fun W s H xs ds Q r A g => by
  rw [ok.eK]
  unfold srtT at g
  split at g
  · split at g
    · rename_i ys hx
      split at g
      · rename_i iss hi
        obtain ⟨x, rfl, h⟩ := dvs1 r
        obtain ⟨a, vs, rfl, h1, h2⟩ := its_sq h A hx
        obtain ⟨e, hn⟩ := tisOf_eq hi
        subst e
        refine ⟨a, vs, iss, rfl, h1, rti_of h2 hn, fun zs jss p hz hp hs ho => ?_⟩
        rw [tsort_eq hp hs] at g
        exact mkL_go Ev.rfl A (pvs_rti hz) g ho
      · exact g.elim
    · exact g.elim
  · exact g.elim⟩
theorem srtT_ev {iss jss : List (List Int)} {s : S} (hn : ∀ is ∈ iss, is ≠ []) (h : jss.Perm iss) (hp : jss.Pairwise (fun x y => HT.lexLt y x = false)) : srtT true [.p (.lst (iss.map tiP))] s = .ok (.p (.lst (jss.map tiP))) s := by
  show (match tisOf (iss.map tiP) with
    | some iss => mkL true ((iss.mergeSort lexLe).map tiP) s
    | none => .bad) = _
  rw [tisOf_map hn]
  dsimp only
  rw [tsort_eq h hp, mkL_true]
end
end CW
end
section
set_option maxRecDepth 100000
set_option maxHeartbeats 2000000
namespace CW
open PySem PySem.Spec PyProof.Rows L2
namespace HdE
def lits : List Value → Option (List Int)
  | [] => some []
  | .int i _ :: r => (lits r).map (i :: ·)
  | _ => none
theorem lits_ok : ∀ {l : List Value} {rs : List Int}, lits l = some rs → ∃ ts : List Tok, ts.length = rs.length ∧ l = List.zipWith (fun i t => Value.int i t) rs ts
  | [], rs, h => by
    cases h
    exact ⟨[], rfl, rfl⟩
  | v :: r, rs, h => by
    cases v with
    | int i t =>
      cases e : lits r with
      | none =>
        have h2 : (lits r).map (i :: ·) = some rs := h
        rw [e] at h2
        cases h2
      | some q =>
        have h2 : (lits r).map (i :: ·) = some rs := h
        rw [e] at h2
        cases h2
        obtain ⟨ts, h3, h4⟩ := lits_ok e
        exact ⟨t :: ts, by simp [h3], by rw [h4]; rfl⟩
    | _ => cases h
theorem int_in {K : PySem.W.Frag} {x : Str} {i : Int} (c : (He.Fa.int x i).ok K = true) : ∃ t, PySem.W.nsIn K mainGlobals x = some (some (.int i t)) := by
  have c2 : (match PySem.W.nsIn K mainGlobals x with
    | some (some (.int j _)) => decide (j = i)
    | _ => false) = true := c
  cases e : PySem.W.nsIn K mainGlobals x with
  | none =>
    rw [e] at c2
    cases c2
  | some o =>
    rw [e] at c2
    cases o with
    | none => cases c2
    | some v =>
      cases v with
      | int j t =>
        have ej : j = i := of_decide_eq_true c2
        exact ⟨t, by rw [ej]⟩
      | _ => cases c2
structure Pt4 where
  fa : List He.Fa
  fn : List He.FnD
def ob0 (p : Pt4) (ex : PySem.W.Frag → Bool) (hs : PySem.W.Frag → List Int) (K : PySem.W.Frag) : He.Al × Bool × List Int := (He.obsE p.fa p.fn K, ex K, hs K)
def SaysK (p0 p1 p2 p3 : Pt4) (ex : PySem.W.Frag → Bool) (hs : PySem.W.Frag → List Int) (hv : World → List Int) (w : World) (K : PySem.W.Frag) : Prop := (He.SaysE p0.fa p0.fn K ∧ ex K = true ∧ hs K = hv w) ∧ He.SaysE p1.fa p1.fn K ∧ He.SaysE p2.fa p2.fn K ∧ He.SaysE p3.fa p3.fn K
/-- what one run shows -/
noncomputable def RunO (r : PySem.W.OpenRow) {α : Type} (ob : PySem.W.SharedT → α) (v : World → α) (M : Nat) (w : World) : Prop :=
  ∀ os : OsState, (HandSHeadRun.endF (HandSHeadRun.stepQ (HandSHeadRun.denQ HandSHeadRun.tabQ) r.prog w) M r.prog w os).map ob = some (v w)
theorem RunO.pair {r : PySem.W.OpenRow} {α β : Type} {a : PySem.W.SharedT → α} {b : PySem.W.SharedT → β} {v : World → α} {u : World → β} {M : Nat} {w : World} (h1 : RunO r a v M w) (h2 : RunO r b u M w) : RunO r (fun s => (a s, b s)) (fun w => (v w, u w)) M w := fun os => by
  obtain ⟨s, hs, e1⟩ := Option.map_eq_some_iff.mp (h1 os)
  obtain ⟨s2, hs2, e2⟩ := Option.map_eq_some_iff.mp (h2 os)
  rw [hs] at hs2
  cases hs2
  rw [hs]
  show some (a s, b s) = some (v w, u w)
  rw [e1, e2]
theorem run_eq {r : PySem.W.OpenRow} {q : Program} {H : PySem.W.Hook} {ob : PySem.W.SharedT → H.α} {M : Nat} {loose : List Str} {w : World} (h1 : HandSHeadRun.RunEq r q PySem.W.Hook.none (fun _ => ()) M loose w) (h2 : RunO r ob H.val M w) : HandSHeadRun.RunEq r q H ob M loose w := fun os => by
  obtain ⟨s, hs, e1⟩ := Option.map_eq_some_iff.mp (h1 os)
  obtain ⟨s2, hs2, e2⟩ := Option.map_eq_some_iff.mp (h2 os)
  rw [hs] at hs2
  cases hs2
  rw [hs]
  have e3 := congrArg (fun z => z.1) e1
  have e4 := congrArg (fun z => z.2.1) e1
  show some (_, _, ob s) = some (true, PySem.W.openGood q loose, H.val w)
  rw [e2]
  exact congrArg some (Prod.ext e3 (Prod.ext e4 rfl))
end HdE
end CW
end
section
set_option maxRecDepth 100000
set_option maxHeartbeats 2000000
namespace CW
open PySem PySem.Spec PyProof.Rows L2
end CW
end
section
set_option maxRecDepth 100000
set_option maxHeartbeats 2000000
namespace CW
open PySem PySem.Spec PyProof.Rows L2
noncomputable section
theorem law_endT {l : PySem.W.OpenLaw} {n k : Nat} {q : Program} {loose : List Str} {XP : (Str → Option Value) → Heap → Prop} {YP : World → Heap → Prop} {d : DefRec} {Sy : World → Heap → PySem.W.Frag → Prop} {x : Str} {m : World → List D → M D}
    (hn : l.most = some n) (hn2 : n ≤ sizeLine) (hdf : d.params.defaults = []) (hr : Room k callerA) (hY : ∀ (w : World) (h : Heap), YP w h → ∃ K : PySem.W.Frag, K.In h ∧ Sy w h K)
    (F : ∀ (w : World) (mg : Str → Option Value) (fa : Addr) (h : Heap) (K : PySem.W.Frag), K.In h → Sy w h K → h.Ns mainGlobals mg → mg d.name = some (.ref fa) →
      ∃ (fd : FuncData) (ms : Mks), (∀ p ∈ ms, h.get? p.2.1 = some (PySem.W.tabObj #[])) ∧ MkK K ms ∧ (∀ (s : Shared) (u : Value), BindsTo s fd ⟨[u], []⟩ [(x, u)]) ∧ ∀ base : Heap, TabF ms mg base → Fn (cfL l.prog w K mg base ms.tb) k fa fd [x] (spM (cfL l.prog w K mg base ms.tb) 1 (m w)))
    (hm : ∀ w (ns : List Int), ns.length ≤ n → (∀ z ∈ ns, Builtin.Int.intBits z ≤ 1048576) → ∃ s', m w [.p (.con (ns.map P.int))] [] = .ok (.p (.bl true)) s') :
    PySem.W.WalkO q loose XP YP l.row.toRowW d [] (fun f vs => PySem.call f vs) := by
  refine Att.attach_callB hn hdf fun w s₀ s₁ mg mb fa o pm cd doc a vs ns G Y ho hd hcd hmg hobj hints hlen hbits hg => ?_
  obtain ⟨K, KX, SK⟩ := hY w _ Y
  obtain ⟨fd, ms, hts, MK, hb, hF⟩ := F w mg fa _ K KX SK G.T.g hmg
  have hT : ∀ p ∈ ms, s₁.heap.get? p.2.1 = some (PySem.W.tabObj #[]) := hts
  have rv := vals_ints hints
  have lv := hints.length
  have hz : (ns.map V.int).length ≤ sizeLine := by rw [List.length_map]; exact Nat.le_trans hlen hn2
  have fin_ : ∀ {H : Hp}, CS K H a (ns.map V.int) → HOk l.prog w H s₁.heap → (∀ p ∈ ms, H p.2.1 = some (.tbl #[])) → (∀ b u, H b = some u → K.lookup b = none ∧ ((∃ o xs vs n, u = .frz o (.lst xs) ∧ s₁.heap.get? b = some o ∧ o.data = .seq vs n) ∨ (u = .tbl #[] ∧ ∃ p ∈ ms, p.2.1 = b))) → _ :=
    fun {H} h1 h2 h3 h4 => law_way (H := H) (m := m w) KX G.T.g G.T.b G.T.builtins G.T.nolimit hg hr MK hT G.T.bmain hF hb (hm w ns hlen hbits) h1 h2 h3 h4
  have na : ∀ p ∈ ms, p.2.1 ≠ a := fun p hp z => by
    have e := hT p hp
    rw [z, hobj] at e
    cases e
  let T0 : Hp := fun b => @ite _ (∃ p ∈ ms, p.2.1 = b) (Classical.propDecidable _) (some (.tbl #[])) none
  have T0i : ∀ b u, T0 b = some u → u = .tbl #[] ∧ ∃ p ∈ ms, p.2.1 = b := fun b u z => by
    by_cases h : ∃ p ∈ ms, p.2.1 = b
    · have z' := (if_pos h).symm.trans z
      cases z'
      exact ⟨rfl, h⟩
    · have z' := (if_neg h).symm.trans z
      cases z'
  have T0p : ∀ p ∈ ms, T0 p.2.1 = some (.tbl #[]) := fun p hp => if_pos ⟨p, hp, rfl⟩
  cases hk : K.lookup a with
  | some ob =>
    have e := KX a ob hk
    rw [hobj] at e
    cases e
    refine fin_ (H := T0) (Or.inr (Or.inr ⟨_, vs.toArray, _, hk, rfl, rfl, rfl, ?_, by simpa using rv⟩)) (fun b u z => ?_) T0p (fun b u z => ?_)
    · rw [List.size_toArray, ← rv.length]
      exact hz
    · obtain ⟨rfl, p, hp, rfl⟩ := T0i b u z
      exact hT p hp
    · obtain ⟨rfl, p, hp, rfl⟩ := T0i b u z
      exact ⟨MK.no p hp, Or.inr ⟨rfl, p, hp, rfl⟩⟩
  | none =>
    refine fin_ (H := fun b => if b = a then some (.frz { cls := .type "list", data := .seq vs.toArray } (.lst (ns.map V.int))) else T0 b) (Or.inl ⟨_, if_pos rfl⟩) (fun b u z => ?_) (fun p hp => (if_neg (na p hp)).trans (T0p p hp)) (fun b u z => ?_)
    · by_cases e : b = a
      · subst e
        have z' := (if_pos rfl).symm.trans z
        cases z'
        exact ⟨hobj, hz, vs, _, rv, hobj⟩
      · have z' := (if_neg e).symm.trans z
        obtain ⟨rfl, p, hp, rfl⟩ := T0i b u z'
        exact hT p hp
    · by_cases e : b = a
      · subst e
        have z' := (if_pos rfl).symm.trans z
        cases z'
        exact ⟨hk, Or.inl ⟨_, _, vs.toArray, _, rfl, hobj, rfl⟩⟩
      · have z' := (if_neg e).symm.trans z
        obtain ⟨rfl, p, hp, rfl⟩ := T0i b u z'
        exact ⟨MK.no p hp, Or.inr ⟨rfl, p, hp, rfl⟩⟩
end
namespace HdE
/-- what is told with tables: which defs' first tables stand empty, and are not kept -/
def SaysT (p0 p1 p2 p3 : Pt4) (ex : PySem.W.Frag → Bool) (hs : PySem.W.Frag → List Int) (hv : World → List Int) (tf : List He.Defn) (w : World) (h : Heap) (K : PySem.W.Frag) : Prop :=
  SaysK p0 p1 p2 p3 ex hs hv w K ∧ (∀ p ∈ tf, PySem.W.codeHdIn K (He.cT K p).1 (He.cT K p).2 = true) ∧ (∀ p ∈ tf, K.lookup (He.cT K p).2 = none) ∧ ∀ p ∈ tf, h.get? (He.cT K p).2 = some { cls := .none, data := .fields #[] }
abbrev AlT4 : Type := ((He.Al × Bool × List Int) × Bool) × He.Al × He.Al × He.Al
theorem hd_in {K : PySem.W.Frag} {c P : Addr} (e : PySem.W.codeHdIn K c P = true) : ∃ (uc : Value) (ud : Option Addr) (us : Array (Option Value)) (uv : Array Value), K.lookup c = some ⟨uc, ud, .fields uv, us⟩ ∧ (uv[11]? : Option Value) = some (.ref P) := by
  unfold PySem.W.codeHdIn at e
  split at e
  · rename_i vs _ hk
    simp only [Bool.and_eq_true] at e
    obtain ⟨⟨⟨⟨⟨e1, _⟩, _⟩, _⟩, _⟩, _⟩ := e
    refine ⟨_, _, _, vs, hk, ?_⟩
    split at e1
    · rename_i P' h11
      rw [h11, beq_iff_eq.mp e1]
    · cases e1
  · cases e
/-- a maker's code object and table -/
theorem mk_in {K : PySem.W.Frag} {p : He.Defn} {oc : Value} {od : Option Addr} {osl : Array (Option Value)} {fd : FuncData} {q : Str} (lk : K.lookup (He.fAd K p) = some ⟨oc, od, .func fd, osl⟩) (hc : PySem.W.codeIn K fd.code q = true) (h1 : PySem.W.codeHdIn K (He.cT K p).1 (He.cT K p).2 = true) :
    ∃ (cc : Addr) (uc : Value) (ud : Option Addr) (us : Array (Option Value)) (uv : Array Value), fd.code = .ref cc ∧ K.lookup cc = some ⟨uc, ud, .fields uv, us⟩ ∧ (uv[11]? : Option Value) = some (.ref (He.cT K p).2) ∧ PySem.W.codeHdIn K cc (He.cT K p).2 = true := by
  obtain ⟨cc, e⟩ := He.codeIn_ref hc
  have ec : (He.cT K p).1 = cc := He.codeOf_eq lk e
  obtain ⟨uc, ud, us, uv, h2, h3⟩ := hd_in h1
  rw [ec] at h1 h2
  exact ⟨cc, uc, ud, us, uv, e, h2, h3, h1⟩
theorem mem_tf {K : PySem.W.Frag} {tf : List He.Defn} {p : He.Defn} (h : p ∈ tf) : (He.cT K p).2 ∈ tf.map (fun p => (He.cT K p).2) := List.mem_map.mpr ⟨p, h, rfl⟩
theorem nodup_tb : ∀ {L : List (Addr × Str)}, (L.map (·.1)).Nodup → ∀ p ∈ L, ∀ r ∈ L, p.1 = r.1 → p.2 = r.2
  | [], _, p, hp, _, _, _ => absurd hp List.not_mem_nil
  | x :: L, h, p, hp, r, hr, e => by
    rw [List.map_cons, List.nodup_cons] at h
    rcases List.mem_cons.mp hp with e1 | hp' <;> rcases List.mem_cons.mp hr with e2 | hr'
    · rw [e1, e2]
    · exact absurd (List.mem_map.mpr ⟨r, hr', by rw [← e, e1]⟩) h.1
    · exact absurd (List.mem_map.mpr ⟨p, hp', by rw [e, e2]⟩) h.1
    · exact nodup_tb h.2 p hp' r hr' e
end HdE
end CW
end
section
set_option maxRecDepth 100000
set_option maxHeartbeats 2000000
namespace CW
open PySem PySem.Spec PyProof.Rows L2 LamX
end CW
end
section
set_option maxRecDepth 100000
set_option maxHeartbeats 2000000
namespace CW
open PySem PySem.Spec PyProof.Rows L2
end CW
end
section
set_option maxRecDepth 100000
set_option maxHeartbeats 2000000
namespace CW
open PySem PySem.Spec PyProof.Rows L2 LamX PySem.W
section
variable {prog : Program} {w : World} {A : Around}
/-- a heap without one object -/
def lessH (g : Heap) (c : Addr) : Heap := g.update c fun _ => { cls := .none, data := .freed }
theorem lessH_at (g : Heap) (c : Addr) : (lessH g c).get? c = none := by
  cases h : (lessH g c).get? c with
  | none => rfl
  | some o =>
    obtain ⟨e1, e2⟩ := Heap.get?_some_iff.mp h
    unfold lessH at e1
    rw [Heap.objs_update_self] at e1
    cases hg : g.objs[c]? with
    | none =>
      rw [hg] at e1
      cases e1
    | some u =>
      rw [hg] at e1
      have e1 : some ({ cls := .none, data := .freed } : Obj) = some o := e1
      cases e1
      cases e2
theorem lessH_ne {g : Heap} {b c : Addr} (h : b ≠ c) : (lessH g c).get? b = g.get? b := Heap.get?_update_ne g b c _ h
/-- the calls one behind the other, then the sort: J us s' is what is known behind so many calls, whose values are us -/
theorem kcall_rest {a kS : Addr} {f : Value} {rv : Bool} {vs : List Value} {kz : List PyData} {e1 : Nat} {s0 : Shared} {P : PySem.Fin → Shared → Prop} {E : Value → Shared → Prop} (J : List Value → Shared → Prop)
    (start : J [] s0) (atK : s0.heap.get? kS = some (seqObj "list" #[] 0)) (atA : s0.heap.get? a = some (seqObj "list" #[] e1)) (hne : kS ≠ a) (hlen : kz.length = vs.length) (hZ : vs.length ≤ sizeLine) (hal : AllAlike kz) (hsk : Sortable kz) (hu : ∀ d, d ∈ kz → A.units + d.depth < cLine)
    (turn : ∀ (j : Nat) (x : Value) (us : List Value) (s1 : Shared) (kA : Array Value) (e : Nat), vs[j]? = some x → us.length = j → J us s1 → s1.heap.get? kS = some (seqObj "list" kA e) → s1.heap.get? a = some (seqObj "list" #[] e1) →
      wpAny (model prog w) A (call f [x]) (fun v s2 => s2.heap.get? kS = some (seqObj "list" kA e) ∧ s2.heap.get? a = some (seqObj "list" #[] e1) ∧ ∀ (h' : Heap), (∀ b o, b ≠ kS → s2.heap.get? b = some o → h'.get? b = some o) → (∃ o, h'.get? kS = some o) → J (us ++ [v]) { s2 with heap := h' }) (fun _ _ => False) s1)
    (reads : ∀ us s1, us.length = vs.length → J us s1 → EachIs (fun v k => ∃ as, Reads s1.heap v k as) us kz)
    (fin : ∀ us s1 h' tk out c, us.length = vs.length → J us s1 → (∃ o, s1.heap.get? kS = some o) → (∃ o, s1.heap.get? a = some o) → (∀ b o, b ≠ a → b ≠ kS → s1.heap.get? b = some o → h'.get? b = some o) → h'.get? a = some (seqObj "list" (List.toArray out) c) → KeyedOut rv kz vs out → P (.done (.ret .none)) { s1 with heap := h', toks := tk }) :
    wpAny (model prog w) A (ksk_rest a f rv vs.toArray e1 (.ref kS)) P E s0 := by
  unfold ksk_rest
  refine wpAny_bind (wpAny_rule ?_)
  first
    | rw [List.forIn_toArray]
    | (rw [← Array.forIn_toList]; simp only [List.toList_toArray])
    | rw [← Array.forIn_toList]
  refine wpAny_bind (ksk_fold (fun n s1 => ∃ (kA : Array Value) (e : Nat), kA.size = n ∧ J kA.toList s1 ∧ s1.heap.get? kS = some (seqObj "list" kA e) ∧ s1.heap.get? a = some (seqObj "list" #[] e1)) vs 0 s0 ⟨#[], 0, rfl, start, atK, atA⟩ (fun j x s1 hx h => ?_) fun s1 h => ?_)
  · obtain ⟨kA, e, hs, hJ, h1, h2⟩ := h
    rw [Nat.zero_add] at hs ⊢
    have hj : j < vs.length := (List.getElem?_eq_some_iff.mp hx).1
    have sz : kA.size ≤ sizeLine := by omega
    refine wpAny_bind (wpAny_attempt (wpAny_mono (turn j x kA.toList s1 kA e hx (by rw [Array.length_toList]; exact hs) hJ h1 h2) (fun v s2 got => ?_) fun _ _ z => z.elim))
    obtain ⟨g1, g2, g3⟩ := got
    obtain ⟨e2, he2⟩ : ∃ e2, (s2.heap.update kS (Obj.mapSeq (·.push v))).get? kS = some (seqObj "list" (kA.push v) e2) := ⟨_, get?_update_seq g1 (·.push v)⟩
    refine wpAny_bind (listUpdate_at g1 rfl ?_ sz (by rw [Array.size_push]; omega))
    refine wpAny_pure ⟨rfl, kA.push v, e2, by rw [Array.size_push, hs], ?_, he2, ?_⟩
    · rw [Array.toList_push]
      exact g3 _ (fun b o hb q => by rw [Heap.get?_update_ne _ _ _ _ hb]; exact q) ⟨_, he2⟩
    · show (s2.heap.update kS (Obj.mapSeq (·.push v))).get? a = _
      rw [Heap.get?_update_ne _ _ _ _ (Ne.symm hne)]
      exact g2
  · obtain ⟨kA, e, hs, hJ, h1, h2⟩ := h
    rw [Nat.zero_add] at hs
    have hl : kA.toList.length = vs.length := by rw [Array.length_toList]; exact hs
    have rd := reads _ _ hl hJ
    refine wpAny_bind (listItems_at h1 rfl ?_)
    refine keyH_end (κ := dataKind s1.heap kz) (h₁ := lessH s1.heap kS) (fun b o _ q => ?_) (lessH_at _ _) h1 h2 hne (SortsAt.data rd hal hsk hu) hs hZ fun h3 tk c k3 n3 => fin _ s1 h3 tk _ c hl hJ ⟨_, h1⟩ ⟨_, h2⟩ (fun b o b1 b2 q => k3 b o b1 (by rw [lessH_ne b2]; exact q)) n3 ⟨s1.heap, kA.toList, hal, rfl, rd⟩
    by_cases hb : b = kS
    · rw [hb, lessH_at] at q
      cases q
    · rw [lessH_ne hb] at q
      exact q
/-- sorted(l, key=f): what is known at the start of the calls (start), behind all (fin) -/
theorem kcall_sorted {l : Addr} {f : Addr} {vs : List Value} {kz : List PyData} {s : Shared} {Q : Value → Shared → Prop} {E : Value → Shared → Prop} (J : Addr → Addr → List Value → Shared → Prop) (hl : s.heap.IsList l vs.toArray)
    (start : ∀ c1 c2 h' tk, s.heap.objs.size ≤ c1 → s.heap.objs.size ≤ c2 → (∀ b o, s.heap.get? b = some o → h'.get? b = some o) → J c1 c2 [] { s with heap := h', toks := tk }) (hlen : kz.length = vs.length) (hZ : vs.length ≤ sizeLine) (hal : AllAlike kz) (hsk : Sortable kz) (hu : ∀ d, d ∈ kz → A.units + 2 + d.depth < cLine)
    (turn : ∀ (j : Nat) (x : Value) (us : List Value) (s1 : Shared) (c1 c2 : Addr), s.heap.objs.size ≤ c1 → s.heap.objs.size ≤ c2 → vs[j]? = some x → us.length = j → J c1 c2 us s1 → (∃ o, s1.heap.get? c1 = some o) → (∃ o, s1.heap.get? c2 = some o) →
      wpAny (model prog w) A.in1.in1 (call (.ref f) [x]) (fun v s2 => (∀ o, s1.heap.get? c1 = some o → s2.heap.get? c1 = some o) ∧ (∀ o, s1.heap.get? c2 = some o → s2.heap.get? c2 = some o) ∧ ∀ (h' : Heap), (∀ b o, b ≠ c1 → s2.heap.get? b = some o → h'.get? b = some o) → (∃ o, h'.get? c1 = some o) → J c1 c2 (us ++ [v]) { s2 with heap := h' }) (fun _ _ => False) s1)
    (reads : ∀ c1 c2 us s1, us.length = vs.length → J c1 c2 us s1 → EachIs (fun v k => ∃ as, Reads s1.heap v k as) us kz)
    (fin : ∀ us s1 h' tk out c kS a, us.length = vs.length → J kS a us s1 → s.heap.objs.size ≤ kS → s.heap.objs.size ≤ a → (∃ o, s1.heap.get? kS = some o) → (∃ o, s1.heap.get? a = some o) → (∀ b o, b ≠ a → b ≠ kS → s1.heap.get? b = some o → h'.get? b = some o) → h'.get? a = some (seqObj "list" (List.toArray out) c) → KeyedOut false kz vs out → Q (.ref a) { s1 with heap := h', toks := tk }) :
    wpAny (model prog w) A (call (.builtin "sorted") [.ref l] [(Str.ofString "key", .ref f)]) Q E s := by
  refine sorted_of_sort hl hZ (ksk_s1 _ _) (fun x => ksk_l1 _ _) fun E' => ?_
  rw [ksk_t1]
  generalize ha : s.heap.objs.size + 1 = a
  have at0 : (copyHeap s.heap vs).get? a = some (seqObj "list" vs.toArray 0) := by
    rw [← ha]
    exact copyHeap_at s.heap vs
  obtain ⟨e1, at1⟩ : ∃ e1, ((copyHeap s.heap vs).update a (Obj.mapSeq fun _ => (#[] : Array Value))).get? a = some (seqObj "list" #[] e1) := ⟨_, get?_update_seq at0 fun _ => #[]⟩
  have lt0 : a < (copyHeap s.heap vs).objs.size := Heap.lt_size at0
  unfold ksk_tree
  refine wpAny_bind (listItems_at at0 rfl ?_)
  refine wpAny_bind (listUpdate_at at0 rfl ?_ (by rw [List.size_toArray]; exact hZ) (Nat.zero_le _))
  refine wpAny_bind (seqEpoch_at at1 rfl ?_)
  refine wpAny_bind (wpAny_newTuple ?_ (by show vs.length ≤ _; exact hZ))
  refine wpAny_bind (wpAny_newList ?_ (Nat.zero_le _))
  refine wpAny_holding ?_
  have szT : (((copyHeap s.heap vs).update a (Obj.mapSeq fun _ => (#[] : Array Value))).push (seqObj "tuple" vs.toArray 0)).objs.size = (copyHeap s.heap vs).objs.size + 1 := by rw [size_push', Heap.size_update]
  have old : ∀ b o, s.heap.get? b = some o → ((((copyHeap s.heap vs).update a (Obj.mapSeq fun _ => (#[] : Array Value))).push (seqObj "tuple" vs.toArray 0)).push (seqObj "list" #[] 0)).get? b = some o := fun b o q => by
    have hb : b ≠ a := Nat.ne_of_lt (by rw [← ha]; exact Nat.lt_succ_of_lt (Heap.lt_size q))
    exact Heap.get?_push_of_some _ (Heap.get?_push_of_some _ (by rw [Heap.get?_update_ne _ _ _ _ hb]; exact copyHeap_old q))
  have gtK : s.heap.objs.size ≤ (((copyHeap s.heap vs).update a (Obj.mapSeq fun _ => (#[] : Array Value))).push (seqObj "tuple" vs.toArray 0)).objs.size := by
    rw [szT]
    exact Nat.le_succ_of_le (Nat.le_of_lt (Nat.lt_of_le_of_lt (by rw [← ha]; exact Nat.le_succ _) lt0))
  have gtA : s.heap.objs.size ≤ a := by rw [← ha]; exact Nat.le_succ _
  refine kcall_rest (kz := kz) (J _ a) (start _ a _ _ gtK gtA old) (Heap.get?_push_size _ rfl) (Heap.get?_push_of_some _ (Heap.get?_push_of_some _ at1)) (Nat.ne_of_gt (by rw [szT]; exact Nat.lt_succ_of_lt lt0)) hlen hZ hal hsk (fun d hd => hu d hd) (fun j x us s1 kA e hx hj hJ k1 k2 => ?_) (reads _ a) (fun us s1 h' tk out c hn hJ k1 k2 k3 k4 ko => ⟨rfl, fin us s1 h' tk out c _ a hn hJ gtK gtA k1 k2 k3 k4 ko⟩)
  refine wpAny_mono (turn j x us s1 _ a gtK gtA hx hj hJ ⟨_, k1⟩ ⟨_, k2⟩) (fun v s2 got => ⟨got.1 _ k1, got.2.1 _ k2, got.2.2⟩) fun _ _ z => z
end
end CW
end
section
set_option maxRecDepth 100000
set_option maxHeartbeats 2000000
namespace CW
open PySem PySem.Spec PyProof.Rows L2 LamX PySem.W
/-- the key's value reads as d -/
def KeyV (X : Cx) (H : Hp) (y : V) (d : PyData) : Prop := ∀ (pins : List (Addr × Obj)) (σ : L2.St) (s : Shared) (u : Value), Inv X pins σ H s → RelV y u → ∃ as, Reads s.heap u d as
theorem KeyV.int (X : Cx) (H : Hp) (i : Int) : KeyV X H (.int i) (.int i) := fun _ _ _ u _ r => by
  obtain ⟨t, rfl⟩ := r
  exact ⟨_, .int i t⟩
theorem KeyV.two (X : Cx) {H : Hp} {t : Addr} {i j : Int} (ht : SqT X.K H t [.int i, .int j]) : KeyV X H (.ref t) (.tuple [.int i, .int j]) := fun pins σ s u I r => by
  obtain rfl : u = .ref t := r
  obtain ⟨its, rv, ⟨o, e1, e2, n, e3⟩, _⟩ := I.tuple ht
  cases rv with
  | cons r1 rv =>
    cases rv with
    | cons r2 rv =>
      cases rv
      obtain ⟨t1, rfl⟩ := r1
      obtain ⟨t2, rfl⟩ := r2
      exact ⟨_, .tuple e1 e2 e3 (.cons (.int i t1) (.cons (.int j t2) .nil))⟩
/-- items by their keys, stable -/
def byKeys {α : Type} (xs : List α) (kz : List PyData) : List α := ((xs.zip kz).mergeSort (dataLe false Prod.snd)).map Prod.fst
theorem each_zip {xs : List V} {vs : List Value} {kz : List PyData} (r : Vals xs vs) (hl : kz.length = xs.length) : EachIs (fun (u : Value) (p : V × PyData) => RelV p.1 u) vs (xs.zip kz) := by
  induction r generalizing kz with
  | nil => exact .nil
  | @cons x u xs vs h r ih =>
    cases kz with
    | nil => cases hl
    | cons d kz => exact .cons h (ih (by simpa using hl))
theorem each_vals {ps : List (V × PyData)} {vs : List Value} (h : EachIs (fun (u : Value) (p : V × PyData) => RelV p.1 u) vs ps) : Vals (ps.map Prod.fst) vs := by
  induction h with
  | nil => exact .nil
  | cons h _ ih => exact .cons h ih
theorem each_two {ys : List V} {us : List Value} {kz : List PyData} {F : V → PyData → Prop} {G : Value → PyData → Prop} (r : Vals ys us) (e : EachIs F ys kz) (h : ∀ y u d, RelV y u → F y d → G u d) : EachIs G us kz := by
  induction e generalizing us with
  | nil =>
    cases r
    exact .nil
  | cons f _ ih =>
    cases r with
    | cons r1 r2 => exact .cons (h _ _ _ r1 f) (ih r2)
section
variable {X : Cx} {pins : List (Addr × Obj)} {σ : L2.St} {H : Hp} {s : Shared}
theorem sorted_keyI {a f : Addr} {xs : List V} {kz : List PyData} {Q : VK} {pn : List (Addr × Obj)} {E : Value → Shared → Prop} (JH : List V → Hp → Prop) (I : Inv X pins σ H s) (hs : SqL X.K H a xs)
    (hpn : ∀ p ∈ pn, s.heap.get? p.1 = some p.2 ∧ H p.1 = none ∧ p.1 ∉ frs X.stack) (hlen : kz.length = xs.length) (hal : AllAlike kz) (hsk : Sortable kz) (hu : ∀ d, d ∈ kz → X.A.units + 2 + d.depth < cLine) (j0 : JH [] H)
    (turn : ∀ (j : Nat) (x : V) (ys : List V) (H1 : Hp) (s1 : Shared) (u : Value), xs[j]? = some x → ys.length = j → JH ys H1 → Inv X pins σ H1 s1 → (∀ p ∈ pn, s1.heap.get? p.1 = some p.2 ∧ H1 p.1 = none) → RelV x u →
      wpAny (model X.prog X.w) X.A.in1.in1 (call (.ref f) [u]) (CE X.stack X.prog X.w H1 s1 fun y H2 => JH (ys ++ [y]) H2) (fun _ _ => False) s1)
    (reads : ∀ ys H1, ys.length = xs.length → JH ys H1 → EachIs (KeyV X H1) ys kz)
    (fin : ∀ ys H1 q, ys.length = xs.length → JH ys H1 → H1 q = none → Q (.ref q) (upd H1 q (.lst (byKeys xs kz)))) :
    wpAny (model X.prog X.w) X.A (call (.builtin "sorted") [.ref a] [(Str.ofString "key", .ref f)]) (EP X pins σ Q) E s := by
  obtain ⟨vs, rv, hl, hz⟩ := I.list hs
  have gtL : ∀ {c}, s.heap.objs.size ≤ c → c ≠ X.env.locals := fun {c} hc z => by
    have h1 := I.lt
    rw [← z] at h1
    exact Nat.lt_irrefl _ (Nat.lt_of_lt_of_le h1 hc)
  have gtS : ∀ {c}, s.heap.objs.size ≤ c → X.s_0.heap.objs.size ≤ c := fun {c} hc => Nat.le_trans I.sz hc
  have gtC : ∀ {c}, s.heap.objs.size ≤ c → ∀ x c', X.env.cells.lookup x = some c' → c' ≠ c := fun {c} hc x c' e z => by
    obtain ⟨v, o, ho, _⟩ := I.cell x c' e
    rw [z] at ho
    exact Nat.lt_irrefl _ (Nat.lt_of_lt_of_le (Heap.lt_size ho) hc)
  have gtP : ∀ {c}, s.heap.objs.size ≤ c → ∀ p ∈ X.pn ++ pins, p.1 ≠ c := fun {c} hc p hp z => by
    have h1 := (I.pin p hp).1
    rw [z] at h1
    exact Nat.lt_irrefl _ (Nat.lt_of_lt_of_le (Heap.lt_size h1) hc)
  have gtF : ∀ {c}, s.heap.objs.size ≤ c → c ∉ frs X.stack := fun {c} hc z => by
    rcases List.mem_cons.mp (I.stkSub _ z) with e | e
    · exact gtL hc e
    · exact I.nofs hc e
  have hzv : vs.length ≤ sizeLine := by rw [← rv.length]; exact hz
  refine kcall_sorted (kz := kz) (vs := vs) (fun c1 c2 us s1 => s.heap.objs.size ≤ c1 ∧ s.heap.objs.size ≤ c2 ∧ ∃ ys H1, Vals ys us ∧ JH ys H1 ∧ H1 c1 = none ∧ H1 c2 = none ∧ Inv X pins σ H1 s1 ∧ ∀ p ∈ pn, s1.heap.get? p.1 = some p.2 ∧ H1 p.1 = none) hl.isList (fun c1 c2 h' tk g1 g2 k => ⟨g1, g2, [], H, .nil, j0, I.hok.fresh g1, I.hok.fresh g2, I.kept k, fun p hp => ⟨k _ _ (hpn p hp).1, (hpn p hp).2.1⟩⟩)
    (by rw [← rv.length]; exact hlen) hzv hal hsk hu (fun j x us s1 c1 c2 g1 g2 hx hj hJ e1 e2 => ?_) (fun c1 c2 us s1 hn hJ => ?_) (fun us s1 h' tk out c kS b hn hJ g1 g2 e1 e2 keep at2 ko => ?_)
  · obtain ⟨-, -, ys, H1, rY, hJ, n1, n2, I1, P1⟩ := hJ
    have hyl : ys.length = j := by rw [rY.length]; exact hj
    obtain ⟨x', hx', rx⟩ : ∃ x', xs[j]? = some x' ∧ RelV x' x := by
      have hlt : j < xs.length := by rw [rv.length]; exact (List.getElem?_eq_some_iff.mp hx).1
      obtain ⟨u, hu', ru⟩ := rv.get (List.getElem?_eq_getElem hlt)
      rw [hx] at hu'
      cases hu'
      exact ⟨_, List.getElem?_eq_getElem hlt, ru⟩
    refine wpAny_mono (turn j x' ys H1 s1 x hx' hyl hJ I1 P1 rx) (fun v s2 got => ?_) fun _ _ z => z
    obtain ⟨y, H2, hos, bare, un, hok, ry, hJ2⟩ := got
    have I2 : Inv X pins σ H2 s2 := by
      obtain ⟨hh, g, d, t, os'⟩ := s2
      obtain rfl : os' = s1.os := hos
      exact I1.call (h' := hh) (g' := g) (d' := d) (t' := t) (ch := []) un hok bare (fun b z => absurd z (by simp))
    obtain ⟨o1, q1⟩ := e1
    obtain ⟨o2, q2⟩ := e2
    have m1 := un.free c1 o1 q1 n1 (fun z => nomatch z)
    have m2 := un.free c2 o2 q2 n2 (fun z => nomatch z)
    refine ⟨fun o q => un.keep c1 o q n1 (gtF g1) (fun z => nomatch z), fun o q => un.keep c2 o q n2 (gtF g2) (fun z => nomatch z), fun h' k _ => ⟨g1, g2, ys ++ [y], H2, rY.append (.cons ry .nil), hJ2, m1, m2, ?_, fun p hp => ?_⟩⟩
    · exact I2.turned (t' := s2.toks) k m1 (gtL g1) (.inr (gtS g1)) (gtC g1) (gtP g1)
    · have q := un.keep p.1 p.2 (P1 p hp).1 (P1 p hp).2 (hpn p hp).2.2 (fun z => nomatch z)
      exact ⟨k _ _ (Nat.ne_of_lt (Nat.lt_of_lt_of_le (Heap.lt_size (hpn p hp).1) g1)) q, un.free p.1 p.2 (P1 p hp).1 (P1 p hp).2 (fun z => nomatch z)⟩
  · obtain ⟨-, -, ys, H1, rY, hJ, n1, n2, I1, P1⟩ := hJ
    have hyl : ys.length = xs.length := by rw [rY.length, hn, rv.length]
    exact each_two rY (reads ys H1 hyl hJ) fun y u d r k => k pins σ s1 u I1 r
  · obtain ⟨-, -, ys, H1, rY, hJ, n1, n2, I1, P1⟩ := hJ
    have hyl : ys.length = xs.length := by rw [rY.length, hn, rv.length]
    have ez : (xs.zip kz).map Prod.snd = kz := List.map_snd_zip (by omega)
    rw [← ez] at ko
    have rout : Vals (byKeys xs kz) out := each_vals (keyedOut_each Prod.snd ko (each_zip rv hlen))
    have lout : (byKeys xs kz).length ≤ sizeLine := by
      unfold byKeys
      rw [List.length_map, List.length_mergeSort, List.length_zip]
      omega
    have nb : ∀ b' u, H1 b' = some u → b' ≠ b ∧ b' ≠ kS := fun b' u e => ⟨(fun z => by rw [z, n2] at e; cases e), (fun z => by rw [z, n1] at e; cases e)⟩
    obtain ⟨o1, q1⟩ := e1
    obtain ⟨o2, q2⟩ := e2
    have J1 : Inv X pins σ (upd H1 b (.lst (byKeys xs kz))) { s1 with heap := h', toks := tk } := by
      refine I1.step (g' := s1.gens) (d' := s1.drawn) (ch := [b, kS]) (fun c hc => ?_) (fun c o _ _ hc e _ => keep c o (fun z => hc (by simp [z])) (fun z => hc (by simp [z])) e) (fun c o _ _ hc e _ => ⟨o.slots, keep c o (fun z => hc (by simp [z])) (fun z => hc (by simp [z])) e⟩)
        (fun c o hc e n => by rw [upd_ne (fun z => hc (by simp [z]))]; exact n) (fun c o hc e => ⟨o, keep c o (fun z => hc (by simp [z])) (fun z => hc (by simp [z])) e⟩) (fun c ys e => by rw [upd_ne (nb c _ e).1]; exact e) (fun c o u e => by rw [upd_ne (nb c _ e).1]; exact e)
        (fun c ps e => ⟨#[], by rw [upd_ne (nb c _ e).1, e]; simp⟩) (fun m hm => ?_) (fun c u e => ?_) I1.bare
      · rcases List.mem_cons.mp hc with z | z
        · subst z
          exact ⟨.inr (gtS g2), gtL g2, gtC g2, gtP g2⟩
        · rw [List.mem_singleton.mp z]
          exact ⟨.inr (gtS g1), gtL g1, gtC g1, gtP g1⟩
      · obtain ⟨o, es, ep, ho, r⟩ := hm
        exact ⟨o, es, ep, keep _ o (Ne.symm (gtL g2)) (Ne.symm (gtL g1)) ho, r⟩
      · by_cases hb : c = b
        · subst hb
          rw [upd_same] at e
          cases e
          exact ⟨lout, out, _, rout, at2⟩
        · rw [upd_ne hb] at e
          refine (I1.hok c u e).stay (fun c' v hc' q => ?_) (fun c' q => by rw [upd_ne (nb c' _ q).1]; exact q) fun c' ys q => by rw [upd_ne (nb c' _ q).1]; exact q
          rcases hc' with z | z
          · rw [z] at q ⊢
            exact keep c v (nb c u e).1 (nb c u e).2 q
          · exact keep c' v (nb c' _ z).1 (nb c' _ z).2 q
    exact ⟨.ref b, _, J1, rfl, fin ys H1 b hyl hJ n2⟩
end
end CW
end
section
set_option maxRecDepth 100000
set_option maxHeartbeats 2000000
namespace CW
open PySem PySem.Spec PyProof.Rows L2 LamX
/-- one parameter, nothing captured -/
structure LamK (pn : Str) (scope : Scope) : Prop where
  kind : scope.kind = .function
  co : scope.isCoroutine = false
  gen : scope.isGenerator = false
  own : ∀ y ∈ scope.names, y.2 ≠ .cell ∧ y.2 ≠ .free
  par : scope.names.lookup pn = some .local
def lamKB (pn : Str) (scope : Scope) : Bool := decide (scope.kind = .function) && !scope.isCoroutine && !scope.isGenerator && (scope.names.all fun y => !decide (y.2 = .cell) && !decide (y.2 = .free)) && decide (scope.names.lookup pn = some .local)
theorem lamK_by {pn : Str} {scope : Scope} (h : lamKB pn scope = true) : LamK pn scope := by
  unfold lamKB at h
  simp only [Bool.and_eq_true, Bool.not_eq_true', decide_eq_true_eq, decide_eq_false_iff_not, List.all_eq_true] at h
  obtain ⟨⟨⟨⟨h1, h2⟩, h3⟩, h4⟩, h5⟩ := h
  exact ⟨h1, h2, h3, h4, h5⟩
/-- the setting of the key's body -/
def keyCx (X : Cx) (A : Around) (outer : List Env) (s : Shared) (H : Hp) (scope : Scope) (f c' : Addr) (pn : Str) : Cx := { LamX.lamCx X A outer s H (fun _ _ _ => False) scope f c' with N := [pn], xe := fun _ _ => False }
section
variable {X : Cx} {pins : List (Addr × Obj)} {σ : L2.St} {H HZ : Hp} {s s1 : Shared} {pn : Str} {scope : Scope}
theorem LamK.nofree (L : LamK pn scope) {cells : List (Str × Addr)} {y : Str} {c : Addr} (e : (cloFrom cells scope.names []).lookup y = some c) : False := by
  rcases cloFrom_mem (PySem.mem_of_lookup e) with hm | ⟨h1, _⟩
  · cases hm
  · exact (L.own _ h1).2 rfl
theorem key_start {A : Around} {outer : List Env} {f c' : Addr} {h₁ : Heap} {tk : Nat} {mm : Str → Option Value} {v : V} {u : Value} (L : LamK pn scope) (e0 : Env0 X.prog X.w X.K X.mg X.base A outer s1 HZ) (hd : A.handled = none)
    (hns : h₁.Ns s1.heap.objs.size mm) (hm : mm pn = some u) (r : RelV v u) (kp : ∀ b o, s1.heap.get? b = some o → h₁.get? b = some o) :
    Inv (keyCx X A outer s1 HZ scope f c' pn) [] [some v] HZ { s1 with heap := h₁, toks := tk } := by
  have noA : ∀ b : Addr, b ∉ (keyCx X A outer s1 HZ scope f c' pn).ex := fun b z => absurd (show b ∈ ([] : List Addr) from z) (by simp)
  have nocell : ∀ {y c}, (keyCx X A outer s1 HZ scope f c' pn).env.cells.lookup y = some c → False := fun e => L.nofree e
  refine ⟨⟨e0.mod, L.kind, rfl, rfl, Nat.le_refl _, fun y z c e1 e2 => (nocell e1).elim, fun y hy => ?_, fun y c z e => (nocell e).elim, fun _ => hd, Around.frames_deeper e0.frames, .inr ⟨rfl, rfl⟩, fun b z => absurd z (noA b), e0.bs, e0.bsz, fun b _ _ => noA b,
      fun b z => absurd z (noA b), e0.funs, e0.frf⟩,
    rfl, e0.bare, Un.kept kp, ⟨_, hns, fun i y w e1 e2 e3 => ?_⟩, fun y c e => (nocell e).elim, e0.hok.fresh (Nat.le_refl _), fun y c e => (nocell e).elim, fun q hq => absurd (show q ∈ ([] : List (Addr × Obj)) ++ [] from hq) (by simp), e0.hok.kept kp, rfl⟩
  · have hy : scope.names.lookup y = some .cell ∨ scope.names.lookup y = some .free := hy
    rcases hy with hy | hy
    · exact absurd rfl (L.own _ (PySem.mem_of_lookup hy)).1
    · exact absurd rfl (L.own _ (PySem.mem_of_lookup hy)).2
  · have e1 : ([pn] : List Str)[i]? = some y := e1
    cases i with
    | zero =>
      cases e1
      cases e2
      exact ⟨u, r, .inl ⟨L.par, hm⟩⟩
    | succ i => cases e1
/-- the key's call -/
theorem key_call {A : Around} {f c' : Addr} {qn : Str} {params : Arguments} {body : Expr} {cl : List (Str × Addr)} {pm ctv : Value} {k : Nat} {x : V} {u : Value} {tb : TE} {R : VK} (I : Inv X pins σ H s) (e0 : Env0 X.prog X.w X.K X.mg X.base A X.stack s H) (L : LamK pn scope) (hq : qn = X.env.qual ++ "<lambda>") (hcl : cl = cloFrom X.env.cells scope.names [])
    (hf : s.heap.get? f = some (PySem.W.kla_obj "<lambda>" qn params body scope cl pm c' ctv)) (hc : H c' = some (LamX.CodeO c' qn))
    (hbind : ∀ u : Value, bindArgs (PySem.W.kla_fn "<lambda>" qn params body scope cl pm (.ref c') ctv) ⟨[u], []⟩ = pure [(pn, u)])
    (hr : Room (k + 1) A) (hbody : ∀ (A : Around) (outer : List Env) (s : Shared) (H : Hp), Room k (A.deeper (LamX.lamEnv X scope s.heap.objs.size f c')) → PE (keyCx X A outer s H scope f c' pn) body tb) (r : RelV x u) (ht : tb [some x] H R) :
    wpAny (model X.prog X.w) A (call (.ref f) [u]) (CE X.stack X.prog X.w H s R) (fun _ _ => False) s := by
  subst hq
  subst hcl
  obtain ⟨⟨oc, rows, tk1, g1, g2, g3⟩, -, -⟩ := I.hok c' _ hc
  have inner : codeAny (model X.prog X.w) A (.call (.ref f) ⟨[u], []⟩) (CR C8.CX0 X.stack X.prog X.w H s R C8.E0) s := by
    refine PySem.W.kla_callFunE hr.depth hf rfl L.co L.gen rfl ⟨c', oc, rows, tk1, rfl, g1, g2, g3⟩ ?_
    rw [hbind u]
    refine wpAny_pure (wpAny_newFunctionEnv (fun y hy => (L.own y hy).1) (fun y hy => ?_) (fun h2 hns hsb => ⟨I.nolimit.fresh _ hsb, ?_⟩) L.kind)
    · cases List.mem_singleton.mp hy
      exact L.par
    have more : ∀ b o, s.heap.get? b = some o → h2.get? b = some o := fun b o e => hsb.extBut b o (Nat.ne_of_lt (Heap.lt_size e)) (Heap.get?_push_of_some _ e)
    have start := key_start (X := X) (f := f) (c' := c') (tk := s.toks + [(pn, u)].length) L e0 hr.hd hns (by
      show ([(pn, u)] : List (Str × Value)).reverse.lookup pn = some u
      exact List.lookup_cons_self) r more
    refine PySem.W.kla_codeExpr (wpAny_mono ((hbody _ _ s H (hr.deeper _)).run [] _ _ H R start ht) (fun w s3 out => ?_) fun _ _ z => z.elim)
    obtain ⟨w', H3, I3, rv, wish⟩ := out
    exact ⟨w', H3, I3.os, I3.bare, I3.base, I3.hok, rv, wish⟩
  refine wpAny_call (codeAny_mono inner fun r s3 out => ?_)
  match r, out with
  | .ok (.ret u), out => exact out
end
def keyPy : P → Option PyData
  | .int i => some (.int i)
  | .tup [.int i, .int j] => some (.tuple [.int i, .int j])
  | _ => none
def keysPy : List P → Option (List PyData)
  | [] => some []
  | x :: r => match keyPy x, keysPy r with
    | some d, some ds => some (d :: ds)
    | _, _ => none
theorem keyPy_dep {x : P} {d : PyData} (h : keyPy x = some d) : d.depth ≤ 1 := by
  unfold keyPy at h
  split at h
  · cases h
    simp [PyData.depth]
  · cases h
    simp [PyData.depth, PyData.depthAll]
  · cases h
theorem keysPy_dep : ∀ {xs : List P} {ds : List PyData}, keysPy xs = some ds → ∀ d ∈ ds, d.depth ≤ 1
  | [], ds, h, d, hd => by
    cases h
    cases hd
  | x :: r, ds, h, d, hd => by
    unfold keysPy at h
    cases h1 : keyPy x with
    | none =>
      rw [h1] at h
      cases h
    | some e =>
      cases h2 : keysPy r with
      | none =>
        rw [h1, h2] at h
        cases h
      | some es =>
        rw [h1, h2] at h
        cases h
        rcases List.mem_cons.mp hd with z | z
        · rw [z]
          exact keyPy_dep h1
        · exact keysPy_dep h2 d z
theorem keysPy_len : ∀ {xs : List P} {ds : List PyData}, keysPy xs = some ds → ds.length = xs.length
  | [], ds, h => by
    cases h
    rfl
  | x :: r, ds, h => by
    unfold keysPy at h
    cases h1 : keyPy x with
    | none =>
      rw [h1] at h
      cases h
    | some e =>
      cases h2 : keysPy r with
      | none =>
        rw [h1, h2] at h
        cases h
      | some es =>
        rw [h1, h2] at h
        cases h
        exact congrArg (· + 1) (keysPy_len h2)
theorem keyV_of {X : Cx} {F : Addr → Prop} {H : Hp} {v : V} {x : P} {d : PyData} (r : PV X.K F H v x) (h : keyPy x = some d) : KeyV X H v d := by
  unfold keyPy at h
  split at h
  · cases h
    cases r
    exact KeyV.int X H _
  · cases h
    cases r with
    | tup hs rs =>
      cases rs with
      | cons r1 rs =>
        cases rs with
        | cons r2 rs =>
          cases rs
          cases r1
          cases r2
          exact KeyV.two X hs
  · cases h
theorem keysV_of {X : Cx} {F : Addr → Prop} {H : Hp} : ∀ {vs : List V} {xs : List P} {ds : List PyData}, PVs X.K F H vs xs → keysPy xs = some ds → PySem.W.EachIs (KeyV X H) vs ds
  | _, _, ds, .nil, h => by
    cases h
    exact .nil
  | _, _, ds, .cons (xs := r) (x := x) r1 r2, h => by
    unfold keysPy at h
    cases h1 : keyPy x with
    | none =>
      rw [h1] at h
      cases h
    | some e =>
      cases h2 : keysPy r with
      | none =>
        rw [h1, h2] at h
        cases h
      | some es =>
        rw [h1, h2] at h
        cases h
        exact .cons (keyV_of r1 h1) (keysV_of r2 h2)
theorem zip_map3 {α β κ : Type} : ∀ {as : List α} {bs : List β} {ks : List κ}, as.length = bs.length → ((as.zip bs).zip ks).map (fun a => (a.1.1, a.2)) = as.zip ks ∧ ((as.zip bs).zip ks).map (fun a => (a.1.2, a.2)) = bs.zip ks
  | [], [], _, _ => ⟨by simp, by simp⟩
  | a :: as, b :: bs, [], _ => ⟨by simp, by simp⟩
  | a :: as, b :: bs, k :: ks, h => by
    obtain ⟨h1, h2⟩ := zip_map3 (as := as) (bs := bs) (ks := ks) (by simpa using h)
    exact ⟨by simp [h1], by simp [h2]⟩
theorem pvs_len {K : PySem.W.Frag} {F : Addr → Prop} {H : Hp} : ∀ {vs : List V} {xs : List P}, PVs K F H vs xs → vs.length = xs.length
  | _, _, .nil => rfl
  | _, _, .cons _ r => congrArg (· + 1) (pvs_len r)
theorem pvs_zip {K : PySem.W.Frag} {F : Addr → Prop} {H : Hp} : ∀ {vs : List V} {xs : List P}, PVs K F H vs xs → ∀ p ∈ vs.zip xs, PV K F H p.1 p.2
  | _, _, .nil, p, h => nomatch h
  | _, _, .cons h r, p, hp => by
    rw [List.zip_cons_cons] at hp
    rcases List.mem_cons.mp hp with z | z
    · rw [z]
      exact h
    · exact pvs_zip r p z
theorem byKeys_pvs {K : PySem.W.Frag} {F : Addr → Prop} {H : Hp} {vs : List V} {xs : List P} {kz : List PyData} (r : PVs K F H vs xs) : PVs K F H (byKeys vs kz) (byKeys xs kz) := by
  have hl : vs.length = xs.length := pvs_len r
  obtain ⟨e1, e2⟩ := zip_map3 (ks := kz) hl
  have all : ∀ a ∈ (vs.zip xs).zip kz, PV K F H a.1.1 a.1.2 := fun a ha => pvs_zip r a.1 (List.of_mem_zip (show (a.1, a.2) ∈ _ from ha)).1
  have m1 : byKeys vs kz = (((vs.zip xs).zip kz).mergeSort (PySem.W.dataLe false Prod.snd)).map fun a => a.1.1 := by
    unfold byKeys
    have q := List.map_mergeSort (r := PySem.W.dataLe false (Prod.snd : (V × P) × PyData → PyData)) (s := PySem.W.dataLe false (Prod.snd : V × PyData → PyData)) (f := fun a => (a.1.1, a.2)) (l := (vs.zip xs).zip kz) (fun _ _ _ _ => rfl)
    rw [← e1, ← q, List.map_map]
    rfl
  have m2 : byKeys xs kz = (((vs.zip xs).zip kz).mergeSort (PySem.W.dataLe false Prod.snd)).map fun a => a.1.2 := by
    unfold byKeys
    have q := List.map_mergeSort (r := PySem.W.dataLe false (Prod.snd : (V × P) × PyData → PyData)) (s := PySem.W.dataLe false (Prod.snd : P × PyData → PyData)) (f := fun a => (a.1.2, a.2)) (l := (vs.zip xs).zip kz) (fun _ _ _ _ => rfl)
    rw [← e2, ← q, List.map_map]
    rfl
  rw [m1, m2]
  have all2 : ∀ a ∈ ((vs.zip xs).zip kz).mergeSort (PySem.W.dataLe false Prod.snd), PV K F H a.1.1 a.1.2 := fun a ha => all a ((List.mergeSort_perm _ _).mem_iff.mp ha)
  generalize ((vs.zip xs).zip kz).mergeSort (PySem.W.dataLe false Prod.snd) = T at all2
  induction T with
  | nil => exact .nil
  | cons a T ih => exact .cons (all2 a List.mem_cons_self) (ih fun b hb => all2 b (List.mem_cons_of_mem _ hb))
def keysL (m : EF) : List P → M (List P)
  | [] => ret []
  | x :: xs => bnd (m [some (.p x)]) fun d => match d with
    | .p k => bnd (keysL m xs) fun r => ret (k :: r)
    | .obj _ => fun _ => .bad
open Classical in
noncomputable def endK (xs ks : List P) : M D := match keysPy ks with
  | some kz => if PySem.W.AllAlike kz ∧ PySem.W.Sortable kz then ret (.p (.lst (byKeys xs kz))) else fun _ => .bad
  | none => fun _ => .bad
noncomputable def srtKE (mx m : EF) : EF := fun ρ => bnd (mx ρ) fun d s => match its d s with
  | some xs => if xs.length ≤ sizeLine then bnd (keysL m xs) (endK xs) s else .bad
  | none => .bad
theorem keysL_cons {m : EF} {x : P} {xs ks : List P} {s s' : S} (h : keysL m (x :: xs) s = .ok ks s') : ∃ k r s1, ks = k :: r ∧ m [some (.p x)] s = .ok (.p k) s1 ∧ keysL m xs s1 = .ok r s' := by
  unfold keysL at h
  rw [bnd_ev] at h
  cases h1 : m [some (.p x)] s with
  | bad =>
    rw [h1] at h
    cases h
  | exn c s1 =>
    rw [h1] at h
    cases h
  | ok d s1 =>
    rw [h1, R.bind_ok] at h
    cases d with
    | obj n => cases h
    | p k =>
      have h : bnd (keysL m xs) (fun r => ret (k :: r)) s1 = .ok ks s' := h
      rw [bnd_ev] at h
      cases h2 : keysL m xs s1 with
      | bad =>
        rw [h2] at h
        cases h
      | exn c s2 =>
        rw [h2] at h
        cases h
      | ok r s2 =>
        rw [h2, R.bind_ok] at h
        cases h
        exact ⟨k, r, s1, rfl, rfl, h2⟩
end CW
end
section
set_option maxRecDepth 100000
set_option maxHeartbeats 2000000
namespace CW
open PySem PySem.Spec PyProof.Rows L2 LamX
theorem s_srtK {C : Cf} {sc scope : Scope} {N : List Str} {k kk : Nat} {pn q0 : Str} {c P : Addr} {ex body : Expr} {mx m : EF} {params : Arguments} {p lpos pos pk : Pos} (hm : C.mg "sorted" = none) (hx : SE C sc N kk ex mx) (he : SE C.lamb scope [pn] k body m)
    (hc : C.cq = some (.ref c, q0)) (TB : LamX.TabB C.base C.mg c P) (hT : (P, q0 ++ "<lambda>") ∈ C.tb) (hu : ∀ p ∈ C.tb, p.1 = P → p.2 = q0 ++ "<lambda>") (L : LamK pn scope) (hk : k + 2 ≤ kk := by decide) (hg : GlS sc "sorted" := by rfl)
    (hs : ∀ env, starEach [ex] env = (false, eval ex env) :: starEach [] env := by intro _; rfl) (hdef : ∀ env, defaultsOf params env = ([], []) := by intro _; rfl)
    (hbind : ∀ (q : Str) (cl : List (Str × Addr)) (pm cv ctv u : Value), bindArgs (PySem.W.kla_fn "<lambda>" q params body scope cl pm cv ctv) ⟨[u], []⟩ = pure [(pn, u)] := by intro _ _ _ _ _ _; rfl) :
    SE C sc N kk (.Call (.Name "sorted" p) [ex] [⟨some "key", .Lambda params body scope lpos, pk⟩] pos) (srtKE mx m) := fun X ok => by
  obtain ⟨ecode, equal⟩ := ok.cq _ _ hc
  obtain ⟨t1, p1, q1⟩ := hx X ok
  refine ⟨fun σ H Q => ∃ (W : Wd) (s : S) (ρ : En), ER C W H σ ρ ∧ Abs C.K W s H ∧ Good (srtKE mx m ρ s) (Po C.K W H Q), ⟨fun pins st σ H Q I h => ?_⟩, fun σ H W s ρ Q er A g => ⟨W, s, ρ, er, A, g⟩⟩
  obtain ⟨W, s0, ρ, er, A, g⟩ := h
  refine wpAny_Call_Name_kw (ld_blt (u := .builtin "sorted") I (hg.of ok) (by rw [ok.em]; exact hm) rfl ?_ (by decide) (by decide))
  have run1 := (pa_cons p1 pa_nil (hs _)).run pos pins st σ H (fun vs H1 => ∃ (v : V) (W1 : Wd) (s1 : S) (d : D), vs = [v] ∧ Ev W H W1 H1 ∧ DV C.K W1 H1 v d ∧ Abs C.K W1 s1 H1 ∧ Good ((match its d s1 with
      | some xs => if xs.length ≤ sizeLine then bnd (keysL m xs) (endK xs) s1 else .bad
      | none => .bad) : R D) (Po C.K W H Q)) I (q1 σ H W s0 ρ _ er A ((Good.bnd g).mono fun d s1 z W1 H1 v e1 r1 A1 => ⟨v, W1, s1, d, rfl, e1, r1, A1, z⟩))
  have hsp : backTo pos (starEach [ex] X.env) = (false, eval ex X.env) :: backTo pos (starEach [] X.env) := by
    rw [hs]
    rfl
  have hpl : (backTo pos (starEach [ex] X.env)).any (·.1) = false := by
    rw [hsp]
    rfl
  refine PyProof.Rows.callWith_kw (thn run1 fun us st1 got => ?_) hsp hpl rfl rfl
  obtain ⟨vs, H1, I1, r1, v, W1, s1, d, rfl, e1, rd, A1, g1⟩ := got
  show wpAny _ _ (evalAll ((do let v ← eval (.Lambda params body scope lpos) X.env; standAt pos; pure v) :: [])) _ _ st1
  have tb1 : W1.tb = C.tb := e1.tb.trans er.tb
  refine wpAny_evalAll_cons (wpAny_bind (LamX.lam_make2 (T := C.tb) I1 (by rw [ok.eb, ok.em]; exact TB) ecode (by rw [equal]; exact hT) (by rw [equal]; exact hu) (by rw [← tb1]; exact A1.tt) (hdef _) (fun y hy e => absurd e (L.own y hy).2) fun f c' pm ctv H2 st2 I2 eN T2 hf hfn hfr hco => wpAny_bind (wpAny_standAt (wpAny_pure (wpAny_evalAll_nil ?_)))))
  show wpAny (model X.prog X.w) X.A (call (.builtin "sorted") us [(Str.ofString "key", .ref f)]) (EP X pins σ Q) X.xe st2
  have x1 := ext_world A1 eN (by rw [tb1]; exact T2)
  have x2 := code_keep x1.2 hco
  have ev2 : Ev W1 H1 (W1.keep c') H2 := x1.1.trans x2.1
  have A2 := x2.2
  have fc : (W1.keep c').fr c' := Or.inr rfl
  generalize W1.keep c' = W2 at ev2 A2 fc
  cases hits : its d s1 with
  | none =>
    rw [hits] at g1
    exact g1.elim
  | some xs =>
    rw [hits] at g1
    dsimp only at g1
    split at g1
    · rename_i hz
      obtain ⟨a, vs', rfl, hsq, rvs⟩ := its_sq (DV.up ev2 rd) A2 hits
      obtain rfl : us = [.ref a] := by
        cases r1 with
        | cons h1 h2 =>
          cases h2
          cases h1
          rfl
      rw [bnd_ev] at g1
      cases hks : keysL m xs s1 with
      | bad =>
        rw [hks] at g1
        exact g1.elim
      | exn c9 s9 =>
        rw [hks] at g1
        exact g1.elim
      | ok ks0 s9 =>
        rw [hks, R.bind_ok] at g1
        unfold endK at g1
        cases hpy : keysPy ks0 with
        | none =>
          rw [hpy] at g1
          exact g1.elim
        | some kz =>
          rw [hpy] at g1
          dsimp only at g1
          split at g1
          · rename_i hcond
            have g1 : Po C.K W H Q (.p (.lst (byKeys xs kz))) s9 := g1
            have lks : ∀ (xs : List CW.P) (s : S) (ks : List CW.P) (s' : S), keysL m xs s = .ok ks s' → ks.length = xs.length := fun xs => by
              induction xs with
              | nil =>
                intro s ks s' h
                cases h
                rfl
              | cons x xs ih =>
                intro s ks s' h
                obtain ⟨kx, r, s2, rfl, _, h2⟩ := keysL_cons h
                exact congrArg (· + 1) (ih _ _ _ h2)
            have n0 := lks _ _ _ _ hks
            have nv := pvs_len rvs
            have room : Room (k + 1) X.A.in1.in1 := by
              have h := ok.rm.mono hk
              exact ⟨h.hd, by have := h.dp; show X.A.depth + 3 * (k + 1) + 5 < _; omega, by have := h.un; show X.A.units + 1 + 1 + 16 * (k + 1) + 200 < _; omega⟩
            -- the key's body, wherever it runs
            have cok : ∀ (A : Around) (outer : List Env) (s : Shared) (H : Hp), Room k (A.deeper (LamX.lamEnv X scope s.heap.objs.size f c')) → Cok C.lamb scope [pn] k (keyCx X A outer s H scope f c' pn) := fun A outer s H hr2 =>
              { pr := ok.pr, ew := ok.ew, eK := ok.eK, em := ok.em, eb := ok.eb, calm := rfl, rm := hr2, gd := (fun z => nomatch z), nN := rfl, nd := by simp, eL := Lik.rfl, po := PassesOwn.never, fc := fun y hy => absurd rfl (L.own _ (PySem.mem_of_lookup hy)).1, cq := (fun v q z => nomatch z) }
            let tb : TE := fun σ H R => ∃ (W : Wd) (s : S) (ρ : En), ER C.lamb W H σ ρ ∧ Abs C.K W s H ∧ Good (m ρ s) (Po C.K W H R)
            have hbody : ∀ (A : Around) (outer : List Env) (s : Shared) (H : Hp), Room k (A.deeper (LamX.lamEnv X scope s.heap.objs.size f c')) → PE (keyCx X A outer s H scope f c' pn) body tb := fun A outer s H hr2 => by
              obtain ⟨t, p, q⟩ := he _ (cok A outer s H hr2)
              exact ⟨fun pins s' σ H' R I' ⟨W', s'', ρ', er', A', g'⟩ => p.run pins s' σ H' R I' (q σ H' W' s'' ρ' R er' A' g')⟩
            refine sorted_keyI (xs := vs') (kz := kz) (pn := [(f, PySem.W.kla_obj "<lambda>" (X.env.qual ++ "<lambda>") params body scope (cloFrom X.env.cells scope.names []) pm c' ctv)])
              (fun ys H3 => ∃ (W3 : Wd) (s3 : S), Ev W2 H2 W3 H3 ∧ Abs C.K W3 s3 H3 ∧ PVs C.K W3.fr H3 ys (ks0.take ys.length) ∧ keysL m (xs.drop ys.length) s3 = .ok (ks0.drop ys.length) s9)
              I2 (by rw [ok.eK]; exact hsq) (fun q hq => ?_) (by rw [keysPy_len hpy, n0, nv]) hcond.1 hcond.2 (fun e hd => ?_) ⟨W2, s1, Ev.rfl, A2, .nil, hks⟩ (fun j x ys H3 st3 u hx hj hJ I3 P3 rx => ?_) (fun ys H3 hl hJ => ?_) (fun ys H3 q hl hJ hq => ?_)
            · rw [List.mem_singleton.mp hq]
              exact ⟨hf, hfn, hfr⟩
            · have h1 := keysPy_dep hpy e hd
              have h2 := ok.rm.un
              omega
            · obtain ⟨W3, s3, e3, A3, r3, h3⟩ := hJ
              have hjx : j < xs.length := by rw [← nv]; exact (List.getElem?_eq_some_iff.mp hx).1
              rw [hj, List.drop_eq_getElem_cons hjx] at h3
              obtain ⟨kx, r, s4, hk1, hk2, hk3⟩ := keysL_cons h3
              have hjk : j < ks0.length := by omega
              rw [List.drop_eq_getElem_cons hjk] at hk1
              injection hk1 with hk4 hk5
              subst hk4
              obtain ⟨x', hx', rx'⟩ := rvs.get (List.getElem?_eq_getElem hjx)
              rw [hx] at hx'
              cases hx'
              have hcode : H3 c' = some (LamX.CodeO c' (X.env.qual ++ "<lambda>")) := e3.fk c' _ fc hco
              refine key_call I3 ⟨I3.env0.frames, I3.env0.mod, I3.env0.bs, I3.env0.bsz, I3.env0.funs, I3.env0.frf, I3.env0.hok, I3.env0.bare⟩ L rfl rfl (P3 _ List.mem_cons_self).1 hcode (hbind _ _ _ _ _) room hbody rx ⟨W3, s3, [some (.p xs[j])], ?_, A3, ?_⟩
              · refine ⟨rfl, fun i dd hd => ?_, (e3.tb.trans (ev2.tb.trans tb1))⟩
                cases i with
                | zero =>
                  cases hd
                  exact ⟨x, rfl, PV.up e3 rx'⟩
                | succ i => cases hd
              · rw [hk2]
                intro W4 H4 y e4 ry A4
                have hl1 : (ys ++ [y]).length = j + 1 := by rw [List.length_append, hj]; rfl
                refine ⟨W4, s4, e3.trans e4, A4, ?_, ?_⟩
                · rw [hl1, List.take_add_one, List.getElem?_eq_getElem hjk]
                  rw [hj] at r3
                  exact PVs.app (PVs.up e4 r3) (.cons ry .nil)
                · rw [hl1, hk3, hk5]
            · obtain ⟨W3, s3, e3, A3, r3, h3⟩ := hJ
              rw [hl, nv, ← n0, List.take_length] at r3
              rw [← ok.eK] at r3
              exact keysV_of r3 hpy
            · obtain ⟨W3, s3, e3, A3, r3, h3⟩ := hJ
              have h3 : keysL m (xs.drop ys.length) s3 = .ok (ks0.drop ys.length) s9 := h3
              rw [hl, nv, List.drop_length, ← n0, List.drop_length] at h3
              have h4 : R.ok ([] : List CW.P) s3 = .ok [] s9 := h3
              injection h4 with h5 h6
              subst h6
              have rb : PVs C.K W3.fr H3 (byKeys vs' kz) (byKeys xs kz) := byKeys_pvs (PVs.up e3 rvs)
              exact keep_go (e1.trans (ev2.trans e3)) A3 rb g1 hq
          · exact g1.elim
    · exact g1.elim
end CW
end
section
set_option maxRecDepth 100000
set_option maxHeartbeats 2000000
namespace CW
open PySem PySem.Spec PyProof.Rows L2
namespace HdE
/-- a def, its defaults aside -/
def fnObsM (K : PySem.W.Frag) (p : Str × Option Str) : He.FnV := match K.lookup (He.fAd K p) with
  | some ⟨_, _, .func fd, _⟩ => some (fd.name, fd.qualname, fd.params, fd.body, fd.scope, fd.globals, fd.closure, .none, fd.builtins)
  | _ => none
/-- its code, and its defaults are these whole numbers -/
def dfB (K : PySem.W.Frag) (p : Str × Option Str) (q : Str) (is : List Int) : Bool := match K.lookup (He.fAd K p) with
  | some ⟨_, _, .func fd, _⟩ => PySem.W.codeIn K fd.code q && (match fd.defaults with
    | .ref a => (match K.lookup a with
      | some ⟨_, _, .seq its _, _⟩ => decide (lits its.toList = some is)
      | _ => false)
    | _ => false)
  | _ => false
theorem df_in {K : PySem.W.Frag} {d : He.FnD} {is : List Int} (e : fnObsM K d.at_ = d.val) (c : dfB K d.at_ d.qual is = true) :
    ∃ (oc : Value) (od : Option Addr) (osl : Array (Option Value)) (dT : Addr) (kV doc pm : Value) (an : Option Addr) (cdv ct : Value) (dfc : Value) (dd : Option Addr) (dv : Array Value) (dn : Nat) (ds : Array (Option Value)) (ts : List Tok), ts.length = is.length ∧
      K.lookup (He.fAd K d.at_) = some ⟨oc, od, .func (PySem.W.fnOf d.name d.qual d.params d.body d.scope (.ref dT) kV doc pm an cdv ct), osl⟩ ∧ PySem.W.codeIn K cdv d.qual = true ∧ K.lookup dT = some ⟨dfc, dd, .seq dv dn, ds⟩ ∧ dv = (List.zipWith (fun i t => Value.int i t) is ts).toArray := by
  unfold fnObsM at e
  unfold dfB at c
  cases q : K.lookup (He.fAd K d.at_) with
  | none =>
    rw [q] at c
    cases c
  | some o =>
    obtain ⟨oc, od, dt, osl⟩ := o
    rw [q] at c e
    cases dt with
    | func fd =>
      obtain ⟨n1, n2, n3, n4, n5, n6, n7, n8, n9, n10, n11, n12, n13, n14, n15⟩ := fd
      have e2 : (some (n1, n2, n3, n4, n5, n6, n7, .none, n15) : He.FnV) = some (d.name, d.qual, d.params, .stmts d.body, d.scope, mainGlobals, [], .none, builtinsNs) := e
      simp only [Option.some.injEq, Prod.mk.injEq, true_and] at e2
      obtain ⟨h1, h2, h3, h4, h5, h6, h7, h9⟩ := e2
      subst h1 h2 h3 h4 h5 h6 h7 h9
      obtain ⟨c1, c2⟩ := He.ba c
      dsimp only at c1 c2
      cases n8 with
      | ref a =>
        dsimp only at c2
        cases q2 : K.lookup a with
        | none =>
          rw [q2] at c2
          cases c2
        | some o2 =>
          obtain ⟨dfc, dd, dt2, ds⟩ := o2
          rw [q2] at c2
          cases dt2 with
          | seq its n =>
            obtain ⟨ts, g1, g2⟩ := lits_ok (of_decide_eq_true c2)
            exact ⟨oc, od, osl, a, n9, n10, n11, n12, n13, n14, dfc, dd, its, n, ds, ts, g1, rfl, c1, q2, by rw [← g2]⟩
          | _ => cases c2
      | _ => cases c2
    | _ => cases c
def obsD (df : List He.FnD) (K : PySem.W.Frag) : List He.FnV := df.map fun d => fnObsM K d.at_
def valD (df : List He.FnD) : List He.FnV := df.map He.FnD.val
def SaysTD (p0 p1 p2 p3 : Pt4) (ex : PySem.W.Frag → Bool) (hs : PySem.W.Frag → List Int) (hv : World → List Int) (tf : List He.Defn) (df : List He.FnD) (w : World) (h : Heap) (K : PySem.W.Frag) : Prop :=
  SaysT p0 p1 p2 p3 ex hs hv tf w h K ∧ obsD df K = valD df
theorem SaysTD.at_ {p0 p1 p2 p3 : Pt4} {ex : PySem.W.Frag → Bool} {hs : PySem.W.Frag → List Int} {hv : World → List Int} {tf : List He.Defn} {df : List He.FnD} {w : World} {h : Heap} {K : PySem.W.Frag} (S : SaysTD p0 p1 p2 p3 ex hs hv tf df w h K) (i : Nat) {d : He.FnD} (e : df[i]? = some d) : fnObsM K d.at_ = d.val := by
  have e2 : (df.map fun d => fnObsM K d.at_)[i]? = (df.map He.FnD.val)[i]? := by
    have e3 : (df.map fun d => fnObsM K d.at_) = df.map He.FnD.val := S.2
    rw [e3]
  rw [List.getElem?_map, List.getElem?_map, e] at e2
  exact Option.some.inj e2
abbrev AlTD : Type := AlT4 × List He.FnV
theorem saysT_of {n : Nat} {p0 p1 p2 p3 : Pt4} {ex : PySem.W.Frag → Bool} {hs : PySem.W.Frag → List Int} {hv : World → List Int} {tf : List He.Defn} {w : World} {s : Shared}
    (e : (((ob0 p0 ex hs (He.frT s.heap.get? (List.range n)), He.tabsB s.heap.get? tf (He.frT s.heap.get? (List.range n))), He.obsE p1.fa p1.fn (He.frT s.heap.get? (List.range n)), He.obsE p2.fa p2.fn (He.frT s.heap.get? (List.range n)), He.obsE p3.fa p3.fn (He.frT s.heap.get? (List.range n))) : AlT4) =
      (((He.valE p0.fn, true, hv w), true), He.valE p1.fn, He.valE p2.fn, He.valE p3.fn)) : SaysT p0 p1 p2 p3 ex hs hv tf w s.heap (He.frT s.heap.get? (List.range n)) := by
  have h2 : He.tabsB s.heap.get? tf (He.frT s.heap.get? (List.range n)) = true := congrArg (fun z : AlT4 => z.1.2) e
  have key : ∀ p ∈ tf, PySem.W.codeHdIn (He.frT s.heap.get? (List.range n)) (He.cT (He.frT s.heap.get? (List.range n)) p).1 (He.cT (He.frT s.heap.get? (List.range n)) p).2 = true ∧ ∃ o, s.heap.get? (He.cT (He.frT s.heap.get? (List.range n)) p).2 = some o ∧ He.emptyTab o = true := fun p hp => by
    have h3 := List.all_eq_true.mp h2 p hp
    rw [Bool.and_eq_true] at h3
    obtain ⟨h3, h4⟩ := h3
    refine ⟨h3, ?_⟩
    cases q : s.heap.get? (He.cT (He.frT s.heap.get? (List.range n)) p).2 with
    | none =>
      rw [q] at h4
      cases h4
    | some o =>
      rw [q] at h4
      exact ⟨o, rfl, h4⟩
  refine ⟨⟨⟨congrArg (fun z : AlT4 => z.1.1.1) e, congrArg (fun z : AlT4 => z.1.1.2.1) e, congrArg (fun z : AlT4 => z.1.1.2.2) e⟩,
    congrArg (fun z : AlT4 => z.2.1) e, congrArg (fun z : AlT4 => z.2.2.1) e, congrArg (fun z : AlT4 => z.2.2.2) e⟩, fun p hp => (key p hp).1, fun p hp => ?_, fun p hp => ?_⟩
  · obtain ⟨_, o, q, z⟩ := key p hp
    exact He.frT_none q z
  · obtain ⟨_, o, q, z⟩ := key p hp
    rw [q, He.emptyTab_eq z]
def hookTD (n : Nat) (p0 p1 p2 p3 : Pt4) (ex : PySem.W.Frag → Bool) (hs : PySem.W.Frag → List Int) (hv : World → List Int) (tf : List He.Defn) (df : List He.FnD) : PySem.W.Hook where
  α := AlTD
  obs := fun s => (((ob0 p0 ex hs (He.frT s.heap.get? (List.range n)), He.tabsB s.heap.get? tf (He.frT s.heap.get? (List.range n))), He.obsE p1.fa p1.fn (He.frT s.heap.get? (List.range n)), He.obsE p2.fa p2.fn (He.frT s.heap.get? (List.range n)), He.obsE p3.fa p3.fn (He.frT s.heap.get? (List.range n))), obsD df (He.frT s.heap.get? (List.range n)))
  val := fun w => ((((He.valE p0.fn, true, hv w), true), He.valE p1.fn, He.valE p2.fn, He.valE p3.fn), valD df)
  says := fun w h => ∃ K : PySem.W.Frag, K.In h ∧ SaysTD p0 p1 p2 p3 ex hs hv tf df w h K
  of := fun w s e => ⟨_, He.frT_in, saysT_of (congrArg (fun z : AlTD => z.1) e), congrArg (fun z : AlTD => z.2) e⟩
  keeps := fun _ _ _ ⟨K, hK, c⟩ k => ⟨K, PySem.W.Frag.In.keeps hK k, ⟨c.1.1, c.1.2.1, c.1.2.2.1, fun p hp => k _ _ (c.1.2.2.2 p hp)⟩, c.2⟩
end HdE
end CW
end
section
set_option maxRecDepth 100000
set_option maxHeartbeats 2000000
namespace CW
open PySem PySem.Spec PyProof.Rows L2
/-- a fraction as the program writes it -/
def fq (q : Rat) : P := if q.den = 1 then .int q.num else .tup [.int q.num, .int q.den]
/-- both numbers lie below 2 ^ b -/
def sz (q : Rat) (b : Nat) : Prop := q.num.natAbs < 2 ^ b ∧ q.den < 2 ^ b
def szi (i : Int) (b : Nat) : Prop := i.natAbs < 2 ^ b
instance (i : Int) (b : Nat) : Decidable (szi i b) := inferInstanceAs (Decidable (_ < _))
theorem szi.log {i : Int} {b : Nat} (h : szi i b) (hb : 0 < b) : i.natAbs.log2 < b := by
  by_cases h0 : i.natAbs = 0
  · rw [h0]; simpa using hb
  · exact (Nat.log2_lt h0).mpr h
theorem szi.mulOk {i j : Int} {a b : Nat} (hi : szi i a) (hj : szi j b) (h : a + b < 1000000) (ha : 0 < a) (hb : 0 < b) : mulOk i j := by
  have := hi.log ha
  have := hj.log hb
  exact Or.inl (by omega)
theorem szi.divOk {i j : Int} {b : Nat} (hj : szi j b) (h : b < 9000) (hb : 0 < b) (h0 : j ≠ 0) : divOk i j :=
  ⟨h0, PyProof.noPylong_of_log2 (by have := hj.log hb; omega)⟩
theorem szi.mono {i : Int} {a b : Nat} (h : szi i a) (hab : a ≤ b) : szi i b := Nat.lt_of_lt_of_le h (Nat.pow_le_pow_right (by decide) hab)
theorem szi.mul {i j : Int} {a b : Nat} (hi : szi i a) (hj : szi j b) : szi (i * j) (a + b) := by
  unfold szi at *
  rw [Int.natAbs_mul, Nat.pow_add]
  by_cases h : j.natAbs = 0
  · rw [h, Nat.mul_zero]; exact Nat.mul_pos (Nat.pow_pos (by decide)) (Nat.pow_pos (by decide))
  · exact Nat.mul_lt_mul_of_lt_of_lt hi hj
theorem szi.add {i j : Int} {a : Nat} (hi : szi i a) (hj : szi j a) : szi (i + j) (a + 1) := by
  unfold szi at *
  rw [Nat.pow_succ]
  have := Int.natAbs_add_le i j
  omega
theorem szi.neg {i : Int} {a : Nat} (hi : szi i a) : szi (-i) a := by
  unfold szi at *
  rwa [Int.natAbs_neg]
/-- what the greatest common divisor, with the sign of the bottom, leaves -/
theorem low_eq {t b g : Int} (hb : b ≠ 0) (hg : g = b.sign * (Int.gcd t b : Nat)) : g ≠ 0 ∧ t = (Rat.divInt t b).num * g ∧ b = ((Rat.divInt t b).den : Int) * g := by
  have h0 : Int.gcd t b ≠ 0 := by
    intro h
    exact hb (Int.gcd_eq_zero_iff.mp h).2
  have hs : b.sign ≠ 0 := by
    intro h
    exact hb (Int.sign_eq_zero_iff_zero.mp h)
  have hg0 : g ≠ 0 := by
    rw [hg]
    exact Int.mul_ne_zero hs (by omega)
  have hss : b.sign * b.sign = 1 := by
    rcases Int.lt_trichotomy b 0 with h | h | h
    · rw [Int.sign_eq_neg_one_of_neg h]; rfl
    · exact absurd h hb
    · rw [Int.sign_eq_one_of_pos h]; rfl
  refine ⟨hg0, ?_, ?_⟩
  · rw [Rat.num_divInt, hg, Int.gcd_comm b t]
    obtain ⟨c, hc⟩ : (Int.gcd t b : Int) ∣ t := Int.gcd_dvd_left ..
    have e : b.sign * t = (b.sign * c) * (Int.gcd t b : Int) := by
      conv => lhs; rw [hc]
      simp only [Int.mul_comm, Int.mul_left_comm, Int.mul_assoc]
    rw [e, Int.mul_ediv_cancel _ (by omega)]
    have e2 : b.sign * c * (b.sign * (Int.gcd t b : Int)) = (b.sign * b.sign) * ((Int.gcd t b : Int) * c) := by
      simp only [Int.mul_comm, Int.mul_left_comm, Int.mul_assoc]
    rw [e2, hss, Int.one_mul]
    exact hc
  · rw [Rat.den_divInt, if_neg hb, hg, Int.gcd_comm b t]
    have e1 : b.natAbs = (b.natAbs / Int.gcd t b) * Int.gcd t b := (Nat.div_mul_cancel (Int.gcd_dvd_natAbs_right t b)).symm
    have e2 : b = b.sign * (b.natAbs : Int) := (Int.sign_mul_natAbs b).symm
    have e3 : (b.natAbs : Int) = ((b.natAbs / Int.gcd t b : Nat) : Int) * (Int.gcd t b : Int) := by
      rw [← Int.natCast_mul, ← e1]
    conv => lhs; rw [e2, e3]
    simp only [Int.mul_comm, Int.mul_left_comm, Int.mul_assoc]
theorem fdiv_exact {x g : Int} (h : g ≠ 0) : (x * g).fdiv g = x := Int.mul_fdiv_cancel _ h
theorem gcd_mod (a b : Int) (h : b ≠ 0) : Int.gcd b (a.fmod b) = Int.gcd a b := by
  have e : a.fmod b = a + b * (-(a.fdiv b)) := by
    have := Int.fmod_add_mul_fdiv a b
    have : b * -(a.fdiv b) = -(b * a.fdiv b) := by rw [Int.mul_neg]
    omega
  rw [e, Int.gcd_add_mul_left_right, Int.gcd_comm]
end CW
end
section
set_option maxRecDepth 100000
set_option maxHeartbeats 2000000
namespace CW
open PySem PySem.Spec PyProof.Rows L2
/-- how many bits a fraction needs -/
def hz (q : Rat) : Nat := max q.num.natAbs.log2 q.den.log2 + 1
theorem lt_log (n : Nat) : n < 2 ^ (n.log2 + 1) := by
  by_cases h : n = 0
  · subst h; decide
  · exact (Nat.log2_lt h).mp (Nat.lt_succ_self _)
theorem hz_sz (q : Rat) : sz q (hz q) := by
  constructor
  · exact Nat.lt_of_lt_of_le (lt_log _) (Nat.pow_le_pow_right (by decide) (by unfold hz; omega))
  · exact Nat.lt_of_lt_of_le (lt_log _) (Nat.pow_le_pow_right (by decide) (by unfold hz; omega))
theorem hz_pos (q : Rat) : 0 < hz q := Nat.succ_pos _
theorem hz_le {q : Rat} {b : Nat} (hb : 0 < b) (h : sz q b) : hz q ≤ b := by
  unfold hz
  have h1 : q.num.natAbs.log2 < b := by
    by_cases h0 : q.num.natAbs = 0
    · rw [h0]; exact hb
    · exact (Nat.log2_lt h0).mpr h.1
  have h2 : q.den.log2 < b := (Nat.log2_lt q.den_nz).mpr h.2
  omega
theorem hz_num (q : Rat) : szi q.num (hz q) := (hz_sz q).1
theorem hz_den (q : Rat) : szi (q.den : Int) (hz q) := by
  unfold szi
  rw [Int.natAbs_natCast]
  exact (hz_sz q).2
theorem sz_divInt {t b : Int} {n : Nat} (ht : szi t n) (hb : szi b n) (hn : 0 < n) : sz (Rat.divInt t b) n := by
  by_cases h0 : b = 0
  · subst h0
    rw [Rat.divInt_zero]
    exact ⟨Nat.pow_pos (by decide), Nat.one_lt_pow (by omega) (by decide)⟩
  · obtain ⟨hg, e1, e2⟩ := low_eq (t := t) (b := b) h0 rfl
    have hg1 : 1 ≤ (b.sign * (Int.gcd t b : Nat)).natAbs := by omega
    constructor
    · refine Nat.lt_of_le_of_lt ?_ ht
      conv => rhs; rw [e1, Int.natAbs_mul]
      exact Nat.le_mul_of_pos_right _ hg1
    · refine Nat.lt_of_le_of_lt ?_ hb
      conv => rhs; rw [e2, Int.natAbs_mul]
      exact Nat.le_mul_of_pos_right _ hg1
theorem hz_add (a b : Rat) : hz (a + b) ≤ hz a + hz b + 1 := by
  refine hz_le (by omega) ?_
  rw [Rat.add_def', ← Rat.divInt_ofNat]
  refine sz_divInt ?_ ?_ (by omega)
  · exact ((hz_num a).mul (hz_den b)).add (((hz_num b).mul (hz_den a)).mono (by omega))
  · rw [Int.natCast_mul]
    exact ((hz_den a).mul (hz_den b)).mono (by omega)
theorem hz_mul (a b : Rat) : hz (a * b) ≤ hz a + hz b := by
  have := hz_pos a
  refine hz_le (by omega) ?_
  rw [Rat.mul_def', ← Rat.divInt_ofNat]
  refine sz_divInt ?_ ?_ (by omega)
  · exact (hz_num a).mul (hz_num b)
  · rw [Int.natCast_mul]
    exact (hz_den a).mul (hz_den b)
theorem hz_neg (a : Rat) : hz (-a) = hz a := by
  unfold hz
  rw [Rat.neg_num, Rat.neg_den, Int.natAbs_neg]
theorem hz_sub (a b : Rat) : hz (a - b) ≤ hz a + hz b + 1 := by
  rw [Rat.sub_eq_add_neg]
  have := hz_add a (-b)
  rwa [hz_neg] at this
theorem hz_inv (a : Rat) : hz a⁻¹ ≤ hz a := by
  refine hz_le (hz_pos a) ?_
  rw [Rat.inv_def]
  exact sz_divInt (hz_den a) (hz_num a) (hz_pos a)
theorem hz_div (a b : Rat) : hz (a / b) ≤ hz a + hz b := by
  rw [Rat.div_def]
  have := hz_mul a b⁻¹
  have := hz_inv b
  omega
theorem hz_int (n : Int) : hz (n : Rat) = n.natAbs.log2 + 1 := by
  have h : ((1 : Nat)).log2 = 0 := by decide
  show max n.natAbs.log2 (1 : Nat).log2 + 1 = _
  rw [h]
  omega
theorem mulOk_szi {i j : Int} {a b : Nat} (hi : szi i a) (hj : szi j b) (h : a + b ≤ 100000) (ha : 0 < a) (hb : 0 < b) : mulOk i j := hi.mulOk hj (by omega) ha hb
end CW
end
section
set_option maxRecDepth 100000
set_option maxHeartbeats 2000000
namespace CW
open PySem PySem.Spec PyProof.Rows L2
theorem fmod_less (a : Int) {b : Int} (h : b ≠ 0) : (a.fmod b).natAbs < b.natAbs := by
  rcases Int.lt_or_gt_of_ne h with hb | hb
  · have e := Int.neg_fmod_neg (-a) (-b)
    rw [Int.neg_neg, Int.neg_neg] at e
    have h1 := Int.fmod_nonneg_of_pos (-a) (b := -b) (by omega)
    have h2 := Int.fmod_lt_of_pos (-a) (b := -b) (by omega)
    omega
  · have h1 := Int.fmod_nonneg_of_pos a hb
    have h2 := Int.fmod_lt_of_pos a hb
    omega
def fqPy (q : Rat) : PyData := if q.den = 1 then .int q.num else .tuple [.int q.num, .int q.den]
theorem toPy_fq (q : Rat) : toPy (fq q) = some (fqPy q) := by
  unfold fq fqPy
  split <;> rfl
theorem shaped_fq (q : Rat) : SeqAt.shaped (fqPy q) = true := by
  unfold fqPy
  split
  · rfl
  · rfl
theorem eqv_fq (a b : Rat) : PyData.eqv (fqPy a) (fqPy b) = decide (a = b) := by
  unfold fqPy
  split <;> split
  · rename_i h1 h2
    rw [eqv_int]
    exact decide_eq_decide.mpr ⟨fun h => Rat.ext h (h1.trans h2.symm), fun h => by rw [h]⟩
  · rename_i h1 h2
    rw [show PyData.eqv (.int a.num) (.tuple [.int b.num, .int b.den]) = false from by unfold PyData.eqv; rfl]
    exact (decide_eq_false fun h => h2 (by rw [← h]; exact h1)).symm
  · rename_i h1 h2
    rw [show PyData.eqv (.tuple [.int a.num, .int a.den]) (.int b.num) = false from by unfold PyData.eqv; rfl]
    exact (decide_eq_false fun h => h1 (by rw [h]; exact h2)).symm
  · rename_i h1 h2
    have e : PyData.eqv (.tuple [.int a.num, .int a.den]) (.tuple [.int b.num, .int b.den]) = (decide (a.num = b.num) && (decide ((a.den : Int) = b.den) && true)) := by
      show PyData.eqvAll _ _ = _
      unfold PyData.eqvAll
      rw [eqv_int]
      unfold PyData.eqvAll
      rw [eqv_int]
      unfold PyData.eqvAll
      rfl
    rw [e]
    by_cases h : a = b
    · subst h; simp
    · rw [decide_eq_false h]
      by_cases hn : a.num = b.num
      · have hd : ¬ (a.den : Int) = b.den := fun hd => h (Rat.ext hn (by omega))
        simp [hd]
      · simp [hn]
theorem eq_fq (neg : Bool) (a b : Rat) (s : S) : eqD neg (.p (fq a)) (.p (fq b)) s = .ok (.p (.bl (if neg = true then !decide (a = b) else decide (a = b)))) s := by
  rw [eq_dat neg (d := fqPy a) (e := fqPy b) (by exact toPy_fq a) (by exact toPy_fq b) ⟨shaped_fq a, shaped_fq b⟩, eqv_fq]
theorem ne_fq0 (a : Rat) (s : S) : eqD true (.p (fq a)) (.p (.int 0)) s = .ok (.p (.bl (!decide (a = 0)))) s := eq_fq true a 0 s
end CW
end
section
set_option maxRecDepth 100000
set_option maxHeartbeats 2000000
namespace CW
open PySem PySem.Spec PyProof.Rows L2
theorem wide_fq {q : Rat} (h : hz q ≤ 7800) : wideP (fqPy q) = true := by
  have h1 : q.num.natAbs.log2 < 8000 := by unfold hz at h; omega
  have h2 : q.den.log2 < 8000 := by unfold hz at h; omega
  unfold fqPy
  split
  · simp only [wideP]
    exact decide_eq_true h1
  · simp [wideP, wideL, h1, h2]
theorem noDict_fq (q : Rat) : (fqPy q).hasDict = false := by
  unfold fqPy
  split <;> simp [PyData.hasDict, PyData.hasDictAll]
theorem toS_len {i : Int} (h : i.natAbs.log2 < 1920) : (Str.ofString (toString i)).length ≤ 1921 := by
  rw [PySem.ofString_length]
  exact int_text_length_le (k := 1920) (by decide) h
theorem tupleText2_len (a b : Str) : (tupleText [a, b]).length = a.length + b.length + 4 := by
  have e : tupleText [a, b] = ("(" : Str) ++ (a ++ ", " ++ b) ++ ((if 2 == 1 then ",)" else ")" : String) : Str) := rfl
  rw [e, strLen_append, strLen_append, strLen_append, strLen_append]
  have e1 : ((", " : String) : Str).length = 2 := rfl
  have e2 : ((if 2 == 1 then ",)" else ")" : String) : Str).length = 1 := rfl
  have e3 : ("(" : Str).length = 1 := rfl
  omega
theorem strOk_app {x y : Str} (hx : PyData.strOk x = true) (hy : PyData.strOk y = true) : PyData.strOk (x ++ y) = true := by
  show (x.cps ++ y.cps).all _ = true
  rw [Array.all_append]
  exact Bool.and_eq_true_iff.mpr ⟨hx, hy⟩
theorem strOk_of (s : String) : PyData.strOk (Str.ofString s) = true := by
  unfold PyData.strOk
  rw [Str.ofString_eq_toList]
  simp only [List.all_toArray, List.all_map, List.all_eq_true, Function.comp_apply, decide_eq_true_eq]
  intro c _
  have := c.valid
  rcases this with h | h
  · exact Nat.lt_trans h (by decide)
  · exact h.2
theorem strOk_fq (q : Rat) : PyData.strOk (fqPy q).shown = true := by
  unfold fqPy
  split
  · exact strOk_of _
  · show PyData.strOk (("(" : Str) ++ (Str.ofString (toString q.num) ++ ", " ++ Str.ofString (toString (q.den : Int))) ++ ((if 2 == 1 then ",)" else ")" : String) : Str)) = true
    exact strOk_app (strOk_app (strOk_of _) (strOk_app (strOk_app (strOk_of _) (strOk_of _)) (strOk_of _))) (strOk_of _)
theorem shaped_str {x : Str} (h : PyData.strOk x = true) : SeqAt.shaped (.str x) = true := by
  unfold SeqAt.shaped PyData.canLay0 PyData.depth
  simp [h]
theorem eq_str (neg : Bool) (a b : Str) (s : S) (ha : PyData.strOk a = true) (hb : PyData.strOk b = true) : eqD neg (.p (.str a)) (.p (.str b)) s = .ok (.p (.bl (if neg = true then !(a == b) else (a == b)))) s := by
  rw [eq_dat neg (d := .str a) (e := .str b) rfl rfl ⟨shaped_str ha, shaped_str hb⟩]
  unfold PyData.eqv
  rfl
end CW
end
section
set_option maxRecDepth 100000
set_option maxHeartbeats 2000000
namespace CW
open PySem PySem.Spec PyProof.Rows L2
/-- q is a whole number of at most n bits over the k-th power of W -/
def Wn (W : Int) (n k : Nat) (q : Rat) : Prop := ∃ N : Int, q * (W : Rat) ^ k = N ∧ szi N n
section
variable {W : Int} {w n m k l : Nat} {a b : Rat}
theorem rc_mul (a b : Int) : ((a * b : Int) : Rat) = (a : Rat) * b := Rat.intCast_mul a b
theorem rc_add (a b : Int) : ((a + b : Int) : Rat) = (a : Rat) + b := Rat.intCast_add a b
theorem rc_neg (a : Int) : ((-a : Int) : Rat) = -(a : Rat) := Rat.intCast_neg a
theorem rc_pow (a : Int) (k : Nat) : ((a ^ k : Int) : Rat) = (a : Rat) ^ k := by
  induction k with
  | zero => rfl
  | succ k ih => rw [Int.pow_succ, rc_mul, ih, Rat.pow_succ]
theorem rpow_add (x : Rat) (k l : Nat) : x ^ (k + l) = x ^ k * x ^ l := by
  induction l with
  | zero => rw [Nat.add_zero, Rat.pow_zero, Rat.mul_one]
  | succ l ih => rw [← Nat.add_assoc, Rat.pow_succ, ih, Rat.pow_succ, Rat.mul_assoc]
theorem szi_pow {i : Int} (h : szi i w) : ∀ k, szi (i ^ k) (w * k + 1)
  | 0 => by rw [Int.pow_zero]; show 1 < 2 ^ 1; decide
  | k + 1 => by
    rw [Int.pow_succ]
    exact ((szi_pow h k).mul h).mono (by rw [Nat.mul_succ]; omega)
theorem Wn.mul (ha : Wn W n k a) (hb : Wn W m l b) : Wn W (n + m) (k + l) (a * b) := by
  obtain ⟨A, a1, a2⟩ := ha
  obtain ⟨B, b1, b2⟩ := hb
  refine ⟨A * B, ?_, a2.mul b2⟩
  rw [rpow_add, rc_mul, ← a1, ← b1]
  grind
theorem Wn.add (ha : Wn W n k a) (hb : Wn W n k b) : Wn W (n + 1) k (a + b) := by
  obtain ⟨A, a1, a2⟩ := ha
  obtain ⟨B, b1, b2⟩ := hb
  refine ⟨A + B, ?_, a2.add b2⟩
  rw [rc_add, ← a1, ← b1]
  grind
theorem Wn.neg (ha : Wn W n k a) : Wn W n k (-a) := by
  obtain ⟨A, a1, a2⟩ := ha
  refine ⟨-A, ?_, a2.neg⟩
  rw [rc_neg, ← a1]
  grind
theorem Wn.mono (ha : Wn W n k a) (h : n ≤ m) : Wn W m k a := by
  obtain ⟨A, a1, a2⟩ := ha
  exact ⟨A, a1, a2.mono h⟩
theorem Wn.up (hw : szi W w) (ha : Wn W n k a) (j : Nat) : Wn W (n + (w * j + 1)) (k + j) a := by
  obtain ⟨A, a1, a2⟩ := ha
  refine ⟨A * W ^ j, ?_, a2.mul (szi_pow hw j)⟩
  rw [rpow_add, rc_mul, rc_pow, ← a1]
  grind
/-- raised to what is asked -/
theorem Wn.to (hw : szi W w) (ha : Wn W n k a) (h : k ≤ l) (h2 : n + (w * (l - k) + 1) ≤ m) : Wn W m l a := by
  have := (ha.up hw (l - k)).mono h2
  rwa [show k + (l - k) = l by omega] at this
theorem Wn.int {c : Int} (h : szi c n) : Wn W n 0 (c : Rat) := ⟨c, by rw [Rat.pow_zero, Rat.mul_one], h⟩
theorem Wn.hz (h0 : W ≠ 0) (hw : szi W w) (ha : Wn W n k a) (h1 : n ≤ m) (h2 : w * k + 1 ≤ m) : hz a ≤ m := by
  obtain ⟨A, a1, a2⟩ := ha
  have hp : (W : Rat) ^ k ≠ 0 := by
    rw [← rc_pow]
    intro h
    have h' : (W ^ k : Int) = 0 := by exact_mod_cast h
    exact Int.pow_ne_zero h0 h'
  have e : a = Rat.divInt A (W ^ k) := by
    rw [Rat.divInt_eq_div, rc_pow, ← a1]
    grind
  refine hz_le (by omega) ?_
  rw [e]
  exact sz_divInt (a2.mono h1) ((szi_pow hw k).mono h2) (by omega)
end
end CW
end
section
set_option maxRecDepth 100000
set_option maxHeartbeats 2000000
namespace CW
open PySem PySem.Spec PyProof.Rows L2
def prodR (acc : Rat) (r : List Rat) : Rat := r.foldl (· * ·) acc
def sumR (acc : Rat) (rows : List (List Rat)) : Rat := rows.foldl (fun a r => a + prodR 1 r) acc
def totR : List Rat → Nat
  | [] => 0
  | q :: r => hz q + totR r
def totZ : List (List Rat) → Nat
  | [] => 0
  | r :: rows => totR r + 2 + totZ rows
theorem prodR_hz : ∀ (r : List Rat) (acc : Rat), hz (prodR acc r) ≤ hz acc + totR r
  | [], acc => Nat.le_refl _
  | q :: r, acc => by
    have h := prodR_hz r (acc * q)
    have := hz_mul acc q
    show hz (prodR (acc * q) r) ≤ hz acc + (hz q + totR r)
    omega
noncomputable def sumB (pr su : List D → M D) : SF := seqF (asgF (cE (.int 0)) (setG 1)) (seqF (forF (rowI (vE 0)) (setG 2) (seqF (asgF (cE (.int 1)) (setG 3)) (seqF (forF (rowI (vE 2)) (setG 4) (asgF (calE pr [vE 3, vE 4]) (setG 3))) (asgF (calE su [vE 1, vE 3]) (setG 1))))) (retF (vE 1)))
section
variable {pr su : List D → M D} (hp : ∀ a b s, hz a + hz b ≤ 8800 → pr [.p (fq a), .p (fq b)] s = .ok (.p (fq (a * b))) s) (hs : ∀ a b s, hz a + hz b ≤ 8800 → su [.p (fq a), .p (fq b)] s = .ok (.p (fq (a + b))) s)
include hp in
theorem sum_inner (x0 x1 x2 : Option D) (s : S) : ∀ (r : List Rat) (acc : Rat) (y : Option D), hz acc + totR r ≤ 8800 →
    ∃ y', forL [] (setG 4) (asgF (calE pr [vE 3, vE 4]) (setG 3)) (r.map fq) [x0, x1, x2, some (.p (fq acc)), y] s = .ok (.nx [x0, x1, x2, some (.p (fq (prodR acc r))), y']) s
  | [], acc, y, _ => ⟨y, forL_nil⟩
  | q :: r, acc, y, h => by
    have h' : hz acc + (hz q + totR r) ≤ 8800 := h
    have := hz_mul acc q
    obtain ⟨y', h1⟩ := sum_inner x0 x1 x2 s r (acc * q) (some (.p (fq q))) (by omega)
    refine ⟨y', ?_⟩
    have h2 := hp acc q s (by omega)
    rw [List.map_cons, forL_cons]
    simp [h2]
    exact h1
include hp hs in
theorem sum_outer (x0 : Option D) (s : S) (mkr : List P → P) (hm : ∀ (ρ : En) (xs : List P), ρ[2]? = some (some (.p (mkr xs))) → rowI (vE 2) ρ s = .ok (xs, []) s) : ∀ (rows : List (List Rat)) (acc : Rat) (y2 y3 y4 : Option D), hz acc + totZ rows ≤ 8800 →
    ∃ y2' y3' y4', forL [] (setG 2) (seqF (asgF (cE (.int 1)) (setG 3)) (seqF (forF (rowI (vE 2)) (setG 4) (asgF (calE pr [vE 3, vE 4]) (setG 3))) (asgF (calE su [vE 1, vE 3]) (setG 1)))) (rows.map fun r => mkr (r.map fq)) [x0, some (.p (fq acc)), y2, y3, y4] s = .ok (.nx [x0, some (.p (fq (sumR acc rows))), y2', y3', y4']) s
  | [], acc, y2, y3, y4, _ => ⟨y2, y3, y4, forL_nil⟩
  | r :: rows, acc, y2, y3, y4, h => by
    have h' : hz acc + (totR r + 2 + totZ rows) ≤ 8800 := h
    have h1 : hz 1 = 1 := by decide
    have hpz := prodR_hz r 1
    have haz := hz_add acc (prodR 1 r)
    obtain ⟨y', e1⟩ := sum_inner hp x0 (some (.p (fq acc))) (some (.p (mkr (r.map fq)))) s r 1 y4 (by omega)
    obtain ⟨y2', y3', y4', e2⟩ := sum_outer x0 s mkr hm rows (acc + prodR 1 r) (some (.p (mkr (r.map fq)))) (some (.p (fq (prodR 1 r)))) y' (by omega)
    refine ⟨y2', y3', y4', ?_⟩
    have h2 := hs acc (prodR 1 r) s (by omega)
    have hf : forF (rowI (vE 2)) (setG 4) (asgF (calE pr [vE 3, vE 4]) (setG 3)) [x0, some (.p (fq acc)), some (.p (mkr (r.map fq))), some (.p (.int 1)), y4] s = .ok (.nx [x0, some (.p (fq acc)), some (.p (mkr (r.map fq))), some (.p (fq (prodR 1 r))), y']) s := by
      rw [forF_ev, hm _ (r.map fq) rfl, R.bind_ok]
      exact e1
    rw [List.map_cons, forL_cons]
    simp [hf, h2]
    exact e2
include hp hs in
theorem sumB_ok (s : S) (mkr : List P → P) (hm : ∀ (ρ : En) (xs : List P), ρ[2]? = some (some (.p (mkr xs))) → rowI (vE 2) ρ s = .ok (xs, []) s) (rows : List (List Rat)) (v : Rat) (hv : sumR 0 rows = v) (h : totZ rows ≤ 8700) :
    defM 1 5 (sumB pr su) [.p (.lst (rows.map fun r => mkr (r.map fq)))] s = .ok (.p (fq v)) s := by
  have h0 : hz 0 = 1 := by decide
  obtain ⟨y2', y3', y4', e1⟩ := sum_outer hp hs (some (.p (.lst (rows.map fun r => mkr (r.map fq))))) s mkr hm rows 0 none none none (by omega)
  subst hv
  have hf : forF (rowI (vE 0)) (setG 2) (seqF (asgF (cE (.int 1)) (setG 3)) (seqF (forF (rowI (vE 2)) (setG 4) (asgF (calE pr [vE 3, vE 4]) (setG 3))) (asgF (calE su [vE 1, vE 3]) (setG 1)))) [some (.p (.lst (rows.map fun r => mkr (r.map fq)))), some (.p (.int 0)), none, none, none] s = .ok (.nx [some (.p (.lst (rows.map fun r => mkr (r.map fq)))), some (.p (fq (sumR 0 rows))), y2', y3', y4']) s := by
    rw [forF_ev, rowI_lst (xs := rows.map fun r => mkr (r.map fq)) (s' := s) rfl, R.bind_ok]
    exact e1
  simp [defM_if, sumB, hf]
end
theorem vE_of {ρ : En} {i : Nat} {d : D} {s : S} (h : ρ[i]? = some (some d)) : vE i ρ s = .ok d s := by
  unfold vE
  rw [h]
theorem hm_tup (s : S) (ρ : En) (xs : List P) (h : ρ[2]? = some (some (.p (.tup xs)))) : rowI (vE 2) ρ s = .ok (xs, []) s := rowI_ev (vE_of h)
def b2 (a1 a2 a3 a4 a6 : Rat) : Rat := a1 * a1 + 4 * a2
def b4 (a1 a2 a3 a4 a6 : Rat) : Rat := 2 * a4 + a1 * a3
def b6 (a1 a2 a3 a4 a6 : Rat) : Rat := a3 * a3 + 4 * a6
def b8 (a1 a2 a3 a4 a6 : Rat) : Rat := a1 * a1 * a6 + 4 * a2 * a6 - a1 * a3 * a4 + a2 * a3 * a3 - a4 * a4
def dD (p q r t : Rat) : Rat := 9 * p * q * r - p * p * t - 8 * q * q * q - 27 * r * r
def dd (a1 a2 a3 a4 a6 : Rat) : Rat := dD (b2 a1 a2 a3 a4 a6) (b4 a1 a2 a3 a4 a6) (b6 a1 a2 a3 a4 a6) (b8 a1 a2 a3 a4 a6)
def c4 (a1 a2 a3 a4 a6 : Rat) : Rat := b2 a1 a2 a3 a4 a6 * b2 a1 a2 a3 a4 a6 - 24 * b4 a1 a2 a3 a4 a6
def c6 (a1 a2 a3 a4 a6 : Rat) : Rat := 36 * b2 a1 a2 a3 a4 a6 * b4 a1 a2 a3 a4 a6 - b2 a1 a2 a3 a4 a6 * b2 a1 a2 a3 a4 a6 * b2 a1 a2 a3 a4 a6 - 216 * b6 a1 a2 a3 a4 a6
/-- degree k over W, c bits more than n a degree -/
def Dg (W : Int) (n k c : Nat) (q : Rat) : Prop := Wn W (n * k + c) k q
section
variable {W : Int} {n k l c d : Nat} {a b : Rat}
theorem Dg.mono (h : Dg W n k c a) (hc : c ≤ d := by omega) : Dg W n k d a := Wn.mono h (by omega)
theorem Dg.mul (ha : Dg W n k c a) (hb : Dg W n l d b) : Dg W n (k + l) (c + d) (a * b) := Wn.mono (Wn.mul ha hb) (by rw [Nat.mul_add]; omega)
theorem Dg.add (ha : Dg W n k c a) (hb : Dg W n k c b) : Dg W n k (c + 1) (a + b) := Wn.mono (Wn.add ha hb) (by omega)
theorem Dg.neg (ha : Dg W n k c a) : Dg W n k c (-a) := Wn.neg ha
theorem Dg.sub (ha : Dg W n k c a) (hb : Dg W n k c b) : Dg W n k (c + 1) (a - b) := by
  rw [Rat.sub_eq_add_neg]
  exact ha.add hb.neg
theorem Dg.up (hw : szi W n) (ha : Dg W n k c a) (hkl : k ≤ l := by omega) (hc : c + 1 ≤ d := by omega) : Dg W n l d a := by
  refine Wn.to hw ha hkl ?_
  have : n * l = n * k + n * (l - k) := by rw [← Nat.mul_add]; congr 1; omega
  omega
theorem Dg.int {i : Int} (h : szi i c) : Dg W n 0 c (i : Rat) := Wn.mono (Wn.int h) (by omega)
theorem Dg.hz (h0 : W ≠ 0) (hw : szi W n) (h : Dg W n k c a) : hz a ≤ n * k + c + 1 := Wn.hz h0 hw h (by omega) (by omega)
end
/-- the sizes of a curve: over one bottom W, both of n bits -/
structure Cv (W : Int) (n : Nat) (a1 a2 a3 a4 a6 : Rat) : Prop where
  W0 : W ≠ 0
  hw : szi W n
  h1 : Dg W n 1 0 a1
  h2 : Dg W n 1 0 a2
  h3 : Dg W n 1 0 a3
  h4 : Dg W n 1 0 a4
  h6 : Dg W n 1 0 a6
section
variable {W : Int} {n : Nat} {a1 a2 a3 a4 a6 : Rat}
theorem Cv.b2 (c : Cv W n a1 a2 a3 a4 a6) : Dg W n 2 5 (b2 a1 a2 a3 a4 a6) :=
  ((c.h1.mul c.h1).mono (d := 4)).add (((Dg.int (i := 4) (c := 3) (by decide)).mul c.h2).up (l := 2) c.hw)
theorem Cv.b4 (c : Cv W n a1 a2 a3 a4 a6) : Dg W n 2 4 (b4 a1 a2 a3 a4 a6) :=
  (((Dg.int (i := 2) (c := 2) (by decide)).mul c.h4).up (l := 2) c.hw).add ((c.h1.mul c.h3).mono (d := 3))
theorem Cv.b6 (c : Cv W n a1 a2 a3 a4 a6) : Dg W n 2 5 (b6 a1 a2 a3 a4 a6) :=
  ((c.h3.mul c.h3).mono (d := 4)).add (((Dg.int (i := 4) (c := 3) (by decide)).mul c.h6).up (l := 2) c.hw)
theorem Cv.b8 (c : Cv W n a1 a2 a3 a4 a6) : Dg W n 3 8 (b8 a1 a2 a3 a4 a6) :=
  (((((c.h1.mul c.h1).mul c.h6).mono (d := 4)).add ((((Dg.int (i := 4) (c := 3) (by decide)).mul c.h2).mul c.h6).up (l := 3) c.hw (d := 4))).sub (((c.h1.mul c.h3).mul c.h4).mono (d := 5))).add (((c.h2.mul c.h3).mul c.h3).mono (d := 6)) |>.sub ((c.h4.mul c.h4).up (l := 3) c.hw (d := 7))
theorem Cv.dd (c : Cv W n a1 a2 a3 a4 a6) : Dg W n 7 22 (dd a1 a2 a3 a4 a6) :=
  ((((((((Dg.int (i := 9) (c := 4) (by decide)).mul c.b2).mul c.b4).mul c.b6).up (l := 7) c.hw (d := 19)).sub (((c.b2.mul c.b2).mul c.b8).mono (d := 19))).sub (((((Dg.int (i := 8) (c := 4) (by decide)).mul c.b4).mul c.b4).mul c.b4).up (l := 7) c.hw (d := 20))).sub ((((Dg.int (i := 27) (c := 5) (by decide)).mul c.b6).mul c.b6).up (l := 7) c.hw (d := 21)))
theorem Cv.c4 (c : Cv W n a1 a2 a3 a4 a6) : Dg W n 4 11 (c4 a1 a2 a3 a4 a6) :=
  ((c.b2.mul c.b2).mono (d := 10)).sub (((Dg.int (i := 24) (c := 5) (by decide)).mul c.b4).up (l := 4) c.hw (d := 10))
end
end CW
end
section
set_option maxRecDepth 100000
set_option maxHeartbeats 2000000
namespace CW
open PySem PySem.Spec PyProof.Rows L2
/-- may be shown: at most n deep, at most l long -/
structure Rp (d : PyData) (n l : Nat) : Prop where
  sh : wideP d = true
  de : d.depth ≤ n
  ln : d.shown.length ≤ l
  ok : PyData.strOk d.shown = true
theorem Rp.mono {d : PyData} {n l n' l' : Nat} (h : Rp d n l) (hn : n ≤ n') (hl : l ≤ l') : Rp d n' l' := ⟨h.sh, Nat.le_trans h.de hn, Nat.le_trans h.ln hl, h.ok⟩
theorem Rp.fq {q : Rat} (h : hz q ≤ 1900) : Rp (fqPy q) 1 4000 := by
  refine ⟨wide_fq (by omega), ?_, ?_, strOk_fq q⟩
  · unfold fqPy
    split <;> simp [PyData.depth, PyData.depthAll]
  · have h1 : q.num.natAbs.log2 < 1920 := by unfold hz at h; omega
    have h2 : (q.den : Int).natAbs.log2 < 1920 := by rw [Int.natAbs_natCast]; unfold hz at h; omega
    have l1 := toS_len h1
    have l2 := toS_len h2
    unfold fqPy
    split
    · show (Str.ofString (toString q.num)).length ≤ 4000
      omega
    · show (tupleText [Str.ofString (toString q.num), Str.ofString (toString (q.den : Int))]).length ≤ 4000
      rw [tupleText2_len]
      omega
theorem Rp.int {i : Int} (h : i.natAbs.log2 < 1920) : Rp (.int i) 0 2000 := by
  refine ⟨by simp [wideP]; omega, Nat.le_refl _, ?_, ?_⟩
  · have := toS_len h
    show (Str.ofString (toString i)).length ≤ 2000
    omega
  · exact strOk_of _
theorem Rp.non : Rp .none 0 4 := ⟨rfl, Nat.le_refl _, by decide, strOk_of "None"⟩
theorem Rp.bl (b : Bool) : Rp (.bool b) 0 5 := by
  cases b
  · exact ⟨rfl, Nat.le_refl _, by decide, strOk_of "False"⟩
  · exact ⟨rfl, Nat.le_refl _, by decide, strOk_of "True"⟩
theorem join_le (L : Nat) : ∀ ts : List Str, (∀ t ∈ ts, t.length ≤ L) → (Str.join ", " ts).length ≤ (L + 2) * ts.length
  | [], _ => Nat.zero_le _
  | [x], h => by
    have := h x (List.mem_cons_self)
    show x.length ≤ (L + 2) * 1
    omega
  | x :: y :: r, h => by
    have ih := join_le L (y :: r) fun t ht => h t (List.mem_cons_of_mem _ ht)
    have := h x (List.mem_cons_self)
    show (x ++ ", " ++ Str.join ", " (y :: r)).length ≤ (L + 2) * ((y :: r).length + 1)
    have e2 : ((", " : String) : Str).length = 2 := rfl
    rw [strLen_append, strLen_append, e2, Nat.mul_succ]
    omega
theorem join_ok : ∀ ts : List Str, (∀ t ∈ ts, PyData.strOk t = true) → PyData.strOk (Str.join ", " ts) = true
  | [], _ => by
    unfold Str.join PyData.strOk Str.empty
    simp
  | [x], h => h x (List.mem_cons_self)
  | x :: y :: r, h => strOk_app (strOk_app (h x (List.mem_cons_self)) (strOk_of _)) (join_ok (y :: r) fun t ht => h t (List.mem_cons_of_mem _ ht))
theorem textFrom_le (L : Nat) : ∀ (ts : List Str) (k : Nat) (acc : Str), (∀ t ∈ ts, t.length ≤ L) → (textFrom k acc ts).length ≤ acc.length + (L + 2) * ts.length
  | [], k, acc, _ => Nat.le_add_right _ _
  | t :: r, k, acc, h => by
    have ih := textFrom_le L r (k + 1) (acc ++ (if k > 0 then ", " else "" : String) ++ t) fun u hu => h u (List.mem_cons_of_mem _ hu)
    have := h t (List.mem_cons_self)
    have e : (acc ++ (if k > 0 then ", " else "" : String) ++ t).length ≤ acc.length + 2 + t.length := by
      rw [strLen_append, strLen_append]
      have : ((if k > 0 then ", " else "" : String) : Str).length ≤ 2 := by split <;> decide
      omega
    show (textFrom (k + 1) (acc ++ (if k > 0 then ", " else "" : String) ++ t) r).length ≤ acc.length + (L + 2) * (r.length + 1)
    rw [Nat.mul_succ]
    omega
theorem textFrom_ok : ∀ (ts : List Str) (k : Nat) (acc : Str), PyData.strOk acc = true → (∀ t ∈ ts, PyData.strOk t = true) → PyData.strOk (textFrom k acc ts) = true
  | [], k, acc, h, _ => h
  | t :: r, k, acc, h, ht => textFrom_ok r (k + 1) (acc ++ (if k > 0 then ", " else "" : String) ++ t) (strOk_app (strOk_app h (strOk_of _)) (ht t (List.mem_cons_self))) fun u hu => ht u (List.mem_cons_of_mem _ hu)
theorem shownAll_eq : ∀ ds : List PyData, PyData.shownAll ds = ds.map PyData.shown
  | [] => by simp [PyData.shownAll]
  | d :: ds => by simp [PyData.shownAll, shownAll_eq ds]
theorem hasDictAll_eq : ∀ ds : List PyData, (∀ d ∈ ds, d.hasDict = false) → PyData.hasDictAll ds = false
  | [], _ => by simp [PyData.hasDictAll]
  | d :: ds, h => by simp [PyData.hasDictAll, h d List.mem_cons_self, hasDictAll_eq ds fun x hx => h x (List.mem_cons_of_mem _ hx)]
theorem depthAll_le (n : Nat) : ∀ ds : List PyData, (∀ d ∈ ds, d.depth ≤ n) → PyData.depthAll ds ≤ n
  | [], _ => by simp [PyData.depthAll]
  | d :: ds, h => by
    have h1 := h d List.mem_cons_self
    have h2 := depthAll_le n ds fun x hx => h x (List.mem_cons_of_mem _ hx)
    simp only [PyData.depthAll]
    omega
theorem Rp.tup {ds : List PyData} {n L : Nat} (h : ∀ d ∈ ds, Rp d n L) : Rp (.tuple ds) (n + 1) ((L + 2) * ds.length + 3) := by
  refine ⟨by simp only [wideP]; exact wideL_all fun d hd => (h d hd).sh, ?_, ?_, ?_⟩
  · have := depthAll_le n ds fun d hd => (h d hd).de
    simp only [PyData.depth]
    omega
  · simp only [PyData.shown]
    rw [shownAll_eq]
    unfold tupleText
    rw [strLen_append, strLen_append]
    have h1 := join_le L (ds.map PyData.shown) fun t ht => by
      obtain ⟨d, hd, rfl⟩ := List.mem_map.mp ht
      exact (h d hd).ln
    rw [List.length_map] at h1
    have e1 : ((("(" : String) : Str)).length = 1 := rfl
    have e3 : (((if (ds.map PyData.shown).length == 1 then ",)" else ")" : String) : Str)).length ≤ 2 := by split <;> decide
    omega
  · simp only [PyData.shown]
    rw [shownAll_eq]
    unfold tupleText
    refine strOk_app (strOk_app (strOk_of _) (join_ok _ fun t ht => ?_)) (strOk_of _)
    obtain ⟨d, hd, rfl⟩ := List.mem_map.mp ht
    exact (h d hd).ok
theorem Rp.lst {ds : List PyData} {n L : Nat} (h : ∀ d ∈ ds, Rp d n L) : Rp (.list ds) (n + 1) ((L + 2) * ds.length + 3) := by
  refine ⟨by simp only [wideP]; exact wideL_all fun d hd => (h d hd).sh, ?_, ?_, ?_⟩
  · have := depthAll_le n ds fun d hd => (h d hd).de
    simp only [PyData.depth]
    omega
  · simp only [PyData.shown]
    rw [shownAll_eq]
    unfold listText
    rw [strLen_append]
    have h1 := textFrom_le L (ds.map PyData.shown) 0 "[" fun t ht => by
      obtain ⟨d, hd, rfl⟩ := List.mem_map.mp ht
      exact (h d hd).ln
    rw [List.length_map] at h1
    have e1 : ((("[" : String) : Str)).length = 1 := rfl
    have e3 : ((("]" : String) : Str)).length = 1 := rfl
    omega
  · simp only [PyData.shown]
    rw [shownAll_eq]
    unfold listText
    refine strOk_app (textFrom_ok _ _ _ (strOk_of _) fun t ht => ?_) (strOk_of _)
    obtain ⟨d, hd, rfl⟩ := List.mem_map.mp ht
    exact (h d hd).ok
theorem shw_rp {x : D} {d : PyData} {n l : Nat} {s : S} (hx : toPyD x s = some d) (h : Rp d n l) (hn : n ≤ 60) (hl : l ≤ sizeLine) : shwD [x] s = .ok (.p (.str d.shown)) s := by
  unfold shwD
  dsimp only
  rw [hx]
  exact if_pos ⟨h.sh, Nat.le_trans h.de hn, Nat.le_trans h.ln hl⟩
theorem toPys_fq : ∀ qs : List Rat, toPys (qs.map fq) = some (qs.map fqPy)
  | [] => rfl
  | q :: qs => by
    show (match toPy (fq q), toPys (qs.map fq) with
      | some d, some ds => some (d :: ds)
      | _, _ => none) = _
    rw [toPys_fq qs, toPy_fq]
    rfl
theorem toPy_tup {xs : List P} {ds : List PyData} (h : toPys xs = some ds) : toPy (.tup xs) = some (.tuple ds) := by
  show (toPys xs).map PyData.tuple = _
  rw [h]; rfl
theorem toPy_lst {xs : List P} {ds : List PyData} (h : toPys xs = some ds) : toPy (.lst xs) = some (.list ds) := by
  show (toPys xs).map PyData.list = _
  rw [h]; rfl
theorem toPys_nil : toPys [] = some [] := rfl
theorem toPys_cons {x : P} {xs : List P} {d : PyData} {ds : List PyData} (h : toPy x = some d) (h2 : toPys xs = some ds) : toPys (x :: xs) = some (d :: ds) := by
  show (match toPy x, toPys xs with
      | some d, some ds => some (d :: ds)
      | _, _ => none) = _
  rw [h, h2]
theorem Rp.tfq {qs : List Rat} (h : ∀ q ∈ qs, hz q ≤ 1900) : Rp (.tuple (qs.map fqPy)) 2 (4002 * qs.length + 3) := by
  have := Rp.tup (ds := qs.map fqPy) (n := 1) (L := 4000) fun d hd => by
    obtain ⟨q, hq, rfl⟩ := List.mem_map.mp hd
    exact Rp.fq (h q hq)
  rwa [List.length_map] at this
theorem ne_str_same {x : Str} {s : S} (h : PyData.strOk x = true) : eqD true (.p (.str x)) (.p (.str x)) s = .ok (.p (.bl false)) s := by
  rw [eq_str _ _ _ _ h h]
  simp
end CW
end
section
set_option maxRecDepth 100000
set_option maxHeartbeats 2000000
namespace CW
open PySem PySem.Spec PyProof.Rows L2
/-- a loop that goes on or returns -/
theorem forL_or {tg : GF} {f : SF} (I : En → S → Prop) (T : D → S → Prop) : ∀ {xs : List P} {ρ : En} {s : S}, I ρ s → (∀ x ∈ xs, ∀ ρ s, I ρ s → ∃ ρ1 s1, tg (.p x) ρ s = .ok ρ1 s1 ∧ ((∃ ρ2 s2, f ρ1 s1 = .ok (.nx ρ2) s2 ∧ I ρ2 s2) ∨ ∃ d s2, f ρ1 s1 = .ok (.rt d) s2 ∧ T d s2)) →
    (∃ ρ' s', forL [] tg f xs ρ s = .ok (.nx ρ') s' ∧ I ρ' s') ∨ ∃ d s', forL [] tg f xs ρ s = .ok (.rt d) s' ∧ T d s'
  | [], ρ, s, h, _ => .inl ⟨ρ, s, forL_nil, h⟩
  | x :: xs, ρ, s, h, k => by
    obtain ⟨ρ1, s1, e1, ⟨ρ2, s2, e2, i2⟩ | ⟨d, s2, e2, t2⟩⟩ := k x List.mem_cons_self ρ s h
    · rcases forL_or I T i2 (fun y hy => k y (List.mem_cons_of_mem _ hy)) with ⟨ρ', s', e3, i3⟩ | ⟨d, s', e3, t3⟩
      · exact .inl ⟨ρ', s', by rw [forL_cons, e1, R.bind_ok, e2, R.bind_ok, fork_nx, e3], i3⟩
      · exact .inr ⟨d, s', by rw [forL_cons, e1, R.bind_ok, e2, R.bind_ok, fork_nx, e3], t3⟩
    · exact .inr ⟨d, s2, by rw [forL_cons, e1, R.bind_ok, e2, R.bind_ok, fork_rt], t2⟩
/-- left side less right side without a4, a6 -/
def vs (a b c x y : Rat) : Rat := y * y + a * x * y + c * y - x * x * x - b * x * x
def ev (a1 a2 a3 a4 a6 x y : Rat) : Rat := y * y + a1 * x * y + a3 * y - x * x * x - a2 * x * x - a4 * x - a6
end CW
end
section
set_option maxRecDepth 100000
set_option maxHeartbeats 2000000
namespace CW
open PySem PySem.Spec PyProof.Rows L2
theorem canLay_fq (q : Rat) : (fqPy q).canLay0 = true := (Bool.and_eq_true_iff.mp (shaped_fq q)).1
theorem canLayAll_eq : ∀ ds : List PyData, (∀ d ∈ ds, d.canLay0 = true) → PyData.canLayAll0 ds = true
  | [], _ => by simp [PyData.canLayAll0]
  | d :: ds, h => by simp [PyData.canLayAll0, h d List.mem_cons_self, canLayAll_eq ds fun x hx => h x (List.mem_cons_of_mem _ hx)]
end CW
end
section
set_option maxRecDepth 100000
set_option maxHeartbeats 2000000
namespace CW
open PySem PySem.Spec PyProof.Rows L2
section
variable (a1 a2 a3 a4 a6 v r s t : Rat)
def l1 : Rat := (a1 + 2 * s) * v
def l2 : Rat := (a2 - s * a1 + 3 * r - s * s) * v * v
def l3 : Rat := (a3 + r * a1 + 2 * t) * v * v * v
def l4 : Rat := (a4 - s * a3 + 2 * r * a2 - t * a1 - r * s * a1 + 3 * r * r - 2 * s * t) * v * v * v * v
def l6 : Rat := (a6 + r * a4 + r * r * a2 + r * r * r - t * a3 - t * t - r * t * a1) * v * v * v * v * v * v
end
end CW
end
section
set_option maxRecDepth 100000
set_option maxHeartbeats 2000000
namespace CW
open PySem PySem.Spec PyProof.Rows L2
theorem szi.sum {i j : Int} {a b c : Nat} (hi : szi i a) (hj : szi j b) (ha : a + 1 ≤ c := by omega) (hb : b + 1 ≤ c := by omega) : szi (i + j) c := by
  have h1 := hi.mono (show a ≤ c - 1 by omega)
  have h2 := hj.mono (show b ≤ c - 1 by omega)
  have := h1.add h2
  rwa [show c - 1 + 1 = c by omega] at this
theorem szi.dif {i j : Int} {a b c : Nat} (hi : szi i a) (hj : szi j b) (ha : a + 1 ≤ c := by omega) (hb : b + 1 ≤ c := by omega) : szi (i - j) c := by
  rw [Int.sub_eq_add_neg]
  exact hi.sum hj.neg
end CW
end
section
set_option maxRecDepth 100000
set_option maxHeartbeats 2000000
namespace CW
open PySem PySem.Spec PyProof.Rows L2
section
variable {ρ : En} {s : S} {xs : List P} {m ma mb : EF}
theorem r1_ev (ms : List EF) (ρ : En) (s : S) (j : Int) (s1 : S) (h : evA ms ρ s = .ok [.p (.int j)] s1) (h1 : -4611686018427387904 ≤ j) (h2 : j < 4611686018427387904) : r1I ms ρ s = .ok (ranP 0 j.toNat, []) s1 := by
  unfold r1I
  rw [bnd_ev, h, R.bind_ok]
  exact if_pos ⟨h1, h2⟩
@[simp] theorem tupk_7 (f : List P → P) (a b c d e e1 e2 : P) : tupk f [.p a, .p b, .p c, .p d, .p e, .p e1, .p e2] s = .ok (.p (f [a, b, c, d, e, e1, e2])) s := rfl
@[simp] theorem tupk_9 (f : List P → P) (a b c d e e1 e2 e3 e4 : P) : tupk f [.p a, .p b, .p c, .p d, .p e, .p e1, .p e2, .p e3, .p e4] s = .ok (.p (f [a, b, c, d, e, e1, e2, e3, e4])) s := rfl
@[simp] theorem tupk_10 (f : List P → P) (a b c d e e1 e2 e3 e4 e5 : P) : tupk f [.p a, .p b, .p c, .p d, .p e, .p e1, .p e2, .p e3, .p e4, .p e5] s = .ok (.p (f [a, b, c, d, e, e1, e2, e3, e4, e5])) s := rfl
def lck (k : M (List P)) : D → M (List P) := fun d s => match d with
  | .p y => R.bind (k s) fun r s' => .ok (y :: r) s'
  | .obj _ => .bad
@[simp] theorem lck_p (k : M (List P)) (y : P) : lck k (.p y) s = R.bind (k s) fun r s' => .ok (y :: r) s' := rfl
theorem lcL_cons {own : List Nat} {tg : GF} (x : P) : lcL own [] tg yesT m ρ (x :: xs) s = R.bind (tg (.p x) (wipE ρ own) s) fun ρ1 s1 => R.bind (m ρ1 s1) (lck (lcL own [] tg yesT m ρ xs)) := by
  conv => lhs; unfold lcL
  rw [gok_tru, if_pos trivial, bnd_ev]
  congr
  funext ρ1 s1
  rw [bnd_ev]
  show R.bind (R.ok true s1) _ = _
  rw [R.bind_ok, if_pos rfl, bnd_ev]
  congr
  funext d s2
  cases d with
  | obj n => rfl
  | p y =>
    show bnd _ _ _ = _
    rw [bnd_ev]
    rfl
@[simp] theorem tup_lst (xs : List P) : tupD [.p (.lst xs)] s = .ok (.p (.tup xs)) s := rfl
theorem zimI_ev {xs ys : List P} {s1 s2 : S} (h1 : ma ρ s = .ok (.p (.lst xs)) s1) (h2 : mb ρ s1 = .ok (.p (.tup ys)) s2) : zimI ma mb ρ s = .ok (zipP xs ys, []) s2 := by
  unfold zimI
  rw [bnd_ev, h1, R.bind_ok, bnd_ev, h2]
  rfl
end
end CW
end
section
set_option maxRecDepth 100000
set_option maxHeartbeats 2000000
namespace CW
open PySem PySem.Spec PyProof.Rows L2
mutual
theorem eqv_refl : ∀ d : PyData, d.hasDict = false → PyData.eqv d d = true
  | .none, _ => by unfold PyData.eqv; rfl
  | .bool b, _ => by unfold PyData.eqv; simp
  | .int i, _ => by unfold PyData.eqv; simp
  | .str x, _ => by unfold PyData.eqv; simp
  | .list xs, h => by
    unfold PyData.eqv
    exact eqvAll_refl xs (by simpa only [PyData.hasDict] using h)
  | .tuple xs, h => by
    unfold PyData.eqv
    exact eqvAll_refl xs (by simpa only [PyData.hasDict] using h)
  | .dict kvs, h => by simp [PyData.hasDict] at h
theorem eqvAll_refl : ∀ ds : List PyData, PyData.hasDictAll ds = false → PyData.eqvAll ds ds = true
  | [], _ => by unfold PyData.eqvAll; rfl
  | d :: ds, h => by
    simp only [PyData.hasDictAll, Bool.or_eq_false_iff] at h
    unfold PyData.eqvAll
    rw [eqv_refl d h.1, eqvAll_refl ds h.2]
    rfl
end
/-- data that may be compared: at most n deep -/
structure Cp (d : PyData) (n : Nat) : Prop where
  lay : d.canLay0 = true
  nd : d.hasDict = false
  de : d.depth ≤ n
theorem Cp.fq1 (q : Rat) : Cp (fqPy q) 1 := by
  refine ⟨canLay_fq q, noDict_fq q, ?_⟩
  unfold fqPy
  split <;> simp [PyData.depth, PyData.depthAll]
theorem Cp.tup {ds : List PyData} {n : Nat} (h : ∀ d ∈ ds, Cp d n) : Cp (.tuple ds) (n + 1) := by
  refine ⟨by simp only [PyData.canLay0]; exact canLayAll_eq ds fun d hd => (h d hd).lay, by simp only [PyData.hasDict]; exact hasDictAll_eq ds fun d hd => (h d hd).nd, ?_⟩
  have := depthAll_le n ds fun d hd => (h d hd).de
  simp only [PyData.depth]
  omega
theorem Cp.lst {ds : List PyData} {n : Nat} (h : ∀ d ∈ ds, Cp d n) : Cp (.list ds) (n + 1) := by
  refine ⟨by simp only [PyData.canLay0]; exact canLayAll_eq ds fun d hd => (h d hd).lay, by simp only [PyData.hasDict]; exact hasDictAll_eq ds fun d hd => (h d hd).nd, ?_⟩
  have := depthAll_le n ds fun d hd => (h d hd).de
  simp only [PyData.depth]
  omega
theorem Cp.shaped {d : PyData} {n : Nat} (h : Cp d n) (hn : n ≤ 64) : SeqAt.shaped d = true := by
  unfold SeqAt.shaped
  rw [h.lay]
  exact decide_eq_true (Nat.le_trans h.de hn)
theorem Cp.tfq (qs : List Rat) : Cp (.tuple (qs.map fqPy)) 2 := Cp.tup fun d hd => by
  obtain ⟨q, _, rfl⟩ := List.mem_map.mp hd
  exact Cp.fq1 q
end CW
end
section
set_option maxRecDepth 100000
set_option maxHeartbeats 2000000
namespace CW
/-- a prime number -/
def Pm (p : Int) : Prop := 2 ≤ p ∧ ∀ d : Int, 1 ≤ d → d ∣ p → d = 1 ∨ d = p
theorem Pm.cop {p a : Int} (h : Pm p) (ha : ¬ p ∣ a) : Int.gcd p a = 1 := by
  have h0 : Int.gcd p a ≠ 0 := fun z => by
    have := (Int.gcd_eq_zero_iff.mp z).1
    have := h.1
    omega
  rcases h.2 (Int.gcd p a) (by omega) (Int.gcd_dvd_left ..) with e | e
  · omega
  · exact absurd (e ▸ Int.gcd_dvd_right p a) ha
theorem dvd_of_cop {p a b : Int} (h : Int.gcd p a = 1) (hd : p ∣ a * b) : p ∣ b := by
  have h1 : Nat.Coprime p.natAbs a.natAbs := h
  have h2 : p.natAbs ∣ a.natAbs * b.natAbs := by
    rw [← Int.natAbs_mul]
    exact Int.natAbs_dvd_natAbs.mpr hd
  exact Int.natAbs_dvd_natAbs.mp (h1.dvd_of_dvd_mul_left h2)
theorem Pm.mul {p a b : Int} (h : Pm p) (hd : p ∣ a * b) : p ∣ a ∨ p ∣ b := by
  by_cases ha : p ∣ a
  · exact Or.inl ha
  · exact Or.inr (dvd_of_cop (h.cop ha) hd)
/-- p divides n just k times -/
def Vl (p n : Int) (k : Nat) : Prop := ∃ m, n = m * p ^ k ∧ ¬ p ∣ m
section
variable {p n a b : Int} {k l : Nat}
theorem Vl.ex (hp : 2 ≤ p) : ∀ (f : Nat) (n : Int), n.natAbs < f → n ≠ 0 → ∃ k, Vl p n k
  | 0, n, h, _ => absurd h (Nat.not_lt_zero _)
  | f + 1, n, h, h0 => by
    by_cases hd : p ∣ n
    · obtain ⟨m, rfl⟩ := hd
      have hm : m ≠ 0 := fun z => h0 (by rw [z, Int.mul_zero])
      have hl : m.natAbs < f := by
        rw [Int.natAbs_mul] at h
        have h1 : 2 ≤ p.natAbs := by omega
        have h2 : 2 * m.natAbs ≤ p.natAbs * m.natAbs := Nat.mul_le_mul_right _ h1
        omega
      obtain ⟨k, m', e, nd⟩ := Vl.ex hp f m hl hm
      exact ⟨k + 1, m', by rw [e, Int.pow_succ]; grind, nd⟩
    · exact ⟨0, n, by rw [Int.pow_zero, Int.mul_one], hd⟩
theorem Vl.get (hp : 2 ≤ p) (h0 : n ≠ 0) : ∃ k, Vl p n k := Vl.ex hp _ n (Nat.lt_succ_self _) h0
theorem pow_nz (hp : 2 ≤ p) (k : Nat) : p ^ k ≠ 0 := Int.pow_ne_zero (by omega)
theorem Vl.le (hp : 2 ≤ p) (h : Vl p n k) (h' : Vl p n l) : l ≤ k := by
  obtain ⟨m, e, nd⟩ := h
  obtain ⟨m', e', _⟩ := h'
  refine Nat.le_of_not_lt fun hlt => nd ?_
  obtain ⟨j, rfl⟩ : ∃ j, l = k + (j + 1) := ⟨l - k - 1, by omega⟩
  have h1 : m * p ^ k = (m' * p ^ j * p) * p ^ k := by
    rw [← e, e', Int.pow_add, Int.pow_succ]; grind
  have h2 := Int.mul_eq_mul_right_iff (pow_nz hp k) |>.mp h1
  exact ⟨m' * p ^ j, by rw [h2]; grind⟩
theorem Vl.uniq (hp : 2 ≤ p) (h : Vl p n k) (h' : Vl p n l) : k = l := Nat.le_antisymm (Vl.le hp h' h) (Vl.le hp h h')
theorem Vl.mul (hp : Pm p) (ha : Vl p a k) (hb : Vl p b l) : Vl p (a * b) (k + l) := by
  obtain ⟨m, rfl, h1⟩ := ha
  obtain ⟨m', rfl, h2⟩ := hb
  refine ⟨m * m', by rw [Int.pow_add]; grind, fun hd => ?_⟩
  rcases hp.mul hd with z | z
  · exact h1 z
  · exact h2 z
theorem Vl.nz (hp : 2 ≤ p) (h : Vl p n k) : n ≠ 0 := by
  obtain ⟨m, rfl, h1⟩ := h
  intro z
  rcases Int.mul_eq_zero.mp z with z | z
  · exact h1 (by rw [z]; exact Int.dvd_zero _)
  · exact pow_nz hp k z
theorem Vl.zero (h : ¬ p ∣ n) : Vl p n 0 := ⟨n, by rw [Int.pow_zero, Int.mul_one], h⟩
end
/-- p divides the fraction z times, below 0 where it divides the bottom -/
def VQ (p : Int) (q : Rat) (z : Int) : Prop := ∃ (k l : Nat) (a b : Int), ¬ p ∣ a ∧ ¬ p ∣ b ∧ q * ((b * p ^ l : Int) : Rat) = ((a * p ^ k : Int) : Rat) ∧ z = (k : Int) - l
section
variable {p : Int} {q r : Rat} {z w : Int}
theorem VQ.of {i j : Nat} {t b : Int} (hb : b ≠ 0) (ht : Vl p t i) (hl : Vl p b j) (e : q * (b : Rat) = t) : VQ p q ((i : Int) - j) := by
  obtain ⟨m, rfl, h1⟩ := ht
  obtain ⟨m', rfl, h2⟩ := hl
  exact ⟨i, j, m, m', h1, h2, e, rfl⟩
theorem cast_inj {a b : Int} (h : (a : Rat) = b) : a = b := by exact_mod_cast h
theorem VQ.uniq (hp : Pm p) (h : VQ p q z) (h' : VQ p q w) : z = w := by
  obtain ⟨k, l, a, b, h1, h2, e, rfl⟩ := h
  obtain ⟨k', l', a', b', h1', h2', e', rfl⟩ := h'
  have h3 : (a * p ^ k) * (b' * p ^ l') = (a' * p ^ k') * (b * p ^ l) := by
    apply cast_inj
    rw [rc_mul, ← e, rc_mul (a' * p ^ k'), ← e']; grind
  have v1 : Vl p ((a * p ^ k) * (b' * p ^ l')) (k + l') := Vl.mul hp ⟨a, rfl, h1⟩ ⟨b', rfl, h2'⟩
  have v2 : Vl p ((a' * p ^ k') * (b * p ^ l)) (k' + l) := Vl.mul hp ⟨a', rfl, h1'⟩ ⟨b, rfl, h2⟩
  rw [h3] at v1
  have := Vl.uniq hp.1 v1 v2
  omega
theorem VQ.mul (hp : Pm p) (h : VQ p q z) (h' : VQ p r w) : VQ p (q * r) (z + w) := by
  obtain ⟨k, l, a, b, h1, h2, e, rfl⟩ := h
  obtain ⟨k', l', a', b', h1', h2', e', rfl⟩ := h'
  refine ⟨k + k', l + l', a * a', b * b', fun hd => ?_, fun hd => ?_, ?_, by omega⟩
  · rcases hp.mul hd with z | z
    · exact h1 z
    · exact h1' z
  · rcases hp.mul hd with z | z
    · exact h2 z
    · exact h2' z
  · have e1 : b * b' * p ^ (l + l') = (b * p ^ l) * (b' * p ^ l') := by rw [Int.pow_add]; grind
    have e2 : a * a' * p ^ (k + k') = (a * p ^ k) * (a' * p ^ k') := by rw [Int.pow_add]; grind
    rw [e1, e2, rc_mul, rc_mul (a * p ^ k), ← e, ← e']; grind
theorem VQ.nz (hp : Pm p) (h : VQ p q z) : q ≠ 0 := by
  obtain ⟨k, l, a, b, h1, h2, e, rfl⟩ := h
  intro hq
  rw [hq, Rat.zero_mul] at e
  have e' : (a * p ^ k : Int) = 0 := cast_inj (e.symm.trans rfl)
  exact Vl.nz hp.1 (show Vl p (a * p ^ k) k from ⟨a, rfl, h1⟩) e'
/-- the sum: no less than the lesser one, and just it where they are unlike -/
theorem VQ.add (hp : Pm p) (h : VQ p q z) (h' : VQ p r w) (hzw : z ≤ w) (hs : q + r ≠ 0) : ∃ v, VQ p (q + r) v ∧ z ≤ v ∧ (z < w → v = z) := by
  obtain ⟨k, l, a, b, h1, h2, e, rfl⟩ := h
  obtain ⟨k', l', a', b', h1', h2', e', rfl⟩ := h'
  obtain ⟨j, hj⟩ : ∃ j : Nat, k' + l = k + l' + j := ⟨k' + l - (k + l'), by omega⟩
  have eS : (q + r) * ((b * b' * p ^ (l + l') : Int) : Rat) = ((a * b' + a' * b * p ^ j) * p ^ (k + l') : Int) := by
    have x1 : b * b' * p ^ (l + l') = (b * p ^ l) * (b' * p ^ l') := by rw [Int.pow_add]; grind
    have x2 : (a * b' + a' * b * p ^ j) * p ^ (k + l') = (a * p ^ k) * (b' * p ^ l') + (a' * p ^ k') * (b * p ^ l) := by
      have y1 : p ^ (k + l') = p ^ k * p ^ l' := Int.pow_add ..
      have y2 : p ^ j * p ^ (k + l') = p ^ k' * p ^ l := by rw [← Int.pow_add, ← Int.pow_add]; congr 1; omega
      have y3 : a' * b * p ^ j * p ^ (k + l') = a' * b * (p ^ k' * p ^ l) := by rw [← y2]; grind
      rw [Int.add_mul, y3, y1]; grind
    rw [x1, x2, rc_add, rc_mul, rc_mul (a * p ^ k), rc_mul (a' * p ^ k'), ← e, ← e']; grind
  have hb : Vl p (b * b' * p ^ (l + l')) (l + l') := ⟨b * b', rfl, fun hd => by
    rcases hp.mul hd with z | z
    · exact h2 z
    · exact h2' z⟩
  have hN : a * b' + a' * b * p ^ j ≠ 0 := fun hz => by
    rw [hz, Int.zero_mul] at eS
    have nb := hb.nz hp.1
    rcases Rat.mul_eq_zero.mp (eS.trans (by rfl : ((0 : Int) : Rat) = 0)) with z | z
    · exact hs z
    · exact nb (cast_inj (z.trans rfl))
  obtain ⟨i, hi⟩ := Vl.get hp.1 hN
  have ht : Vl p ((a * b' + a' * b * p ^ j) * p ^ (k + l')) (i + (k + l')) := by
    obtain ⟨m, hm, nd⟩ := hi
    exact ⟨m, by rw [hm, Int.pow_add p i (k + l')]; grind, nd⟩
  refine ⟨_, VQ.of (hb.nz hp.1) ht hb eS, by omega, fun hlt => ?_⟩
  have hj0 : 0 < j := by omega
  have nd : ¬ p ∣ a * b' + a' * b * p ^ j := fun hd => by
    have : p ∣ a' * b * p ^ j := by
      obtain ⟨j', rfl⟩ : ∃ j', j = j' + 1 := ⟨j - 1, by omega⟩
      exact ⟨a' * b * p ^ j', by rw [Int.pow_succ]; grind⟩
    have h3 : p ∣ a * b' := (Int.dvd_add_left this).mp hd
    rcases hp.mul h3 with z | z
    · exact h1 z
    · exact h2' z
  have := Vl.uniq hp.1 hi (Vl.zero nd)
  omega
end
end CW
end
section
set_option maxRecDepth 100000
set_option maxHeartbeats 2000000
namespace CW
section
variable {p : Int} {q r : Rat} {x y z : Int}
theorem num_den (q : Rat) : q * ((q.den : Int) : Rat) = q.num := by
  have e := Rat.num_divInt_den q
  rw [Rat.divInt_eq_div] at e
  have hd : ((q.den : Int) : Rat) ≠ 0 := fun h => by
    have h' : (q.den : Int) = 0 := cast_inj (h.trans rfl)
    have := q.den_nz
    omega
  have e2 : (q.num : Rat) / ((q.den : Int) : Rat) * ((q.den : Int) : Rat) = q * ((q.den : Int) : Rat) := by rw [e]
  rw [Rat.div_mul_cancel hd] at e2
  exact e2.symm
end
def pr : List (Int × Nat) → Int
  | [] => 1
  | (p, e) :: r => p ^ e * pr r
theorem cop_pow {p T : Int} (h : Int.gcd p T = 1) (e : Nat) : Int.gcd (p ^ e) T = 1 := by
  have h1 : Nat.Coprime p.natAbs T.natAbs := h
  show Nat.gcd (p ^ e).natAbs T.natAbs = 1
  rw [Int.natAbs_pow]
  exact Nat.Coprime.pow_left e h1
end CW
end
section
set_option maxRecDepth 100000
set_option maxHeartbeats 2000000
namespace CW
open PySem PySem.Spec PyProof.Rows L2
section
variable {ρ : En} {s : S} {xs : List P} {m ma mb mc : EF}
def chnk (k : M D) : D → M D := fun d => match d with
  | .p (.bl true) => k
  | .p (.bl false) => ret (.p (.bl false))
  | _ => bad
@[simp] theorem chnk_bl (k : M D) (b : Bool) : chnk k (.p (.bl b)) s = if b = true then k s else .ok (.p (.bl false)) s := by cases b <;> rfl
@[simp] theorem chn_ev (g h : D → D → M D) : chn g h ma mb mc ρ s = R.bind (ma ρ s) fun x s1 => R.bind (mb ρ s1) fun y s2 => R.bind (g x y s2) (chnk fun s3 => R.bind (mc ρ s3) fun z s4 => h y z s4) := by
  unfold chn
  rw [bnd_ev]
  cases ma ρ s with
  | bad => rfl
  | exn _ _ => rfl
  | ok x s1 =>
    simp only [R.bind_ok]
    rw [bnd_ev]
    cases mb ρ s1 with
    | bad => rfl
    | exn _ _ => rfl
    | ok y s2 =>
      simp only [R.bind_ok]
      rw [bnd_ev]
      cases g x y s2 with
      | bad => rfl
      | exn _ _ => rfl
      | ok c s3 =>
        simp only [R.bind_ok]
        cases c with
        | obj n => rfl
        | p c =>
          cases c with
          | bl b =>
            cases b
            · rfl
            · show bnd _ _ _ = _
              rw [bnd_ev]
              rfl
          | _ => rfl
end
/-- a loop that keeps something, counted -/
theorem forL_cnt {tg : GF} {f : SF} (N : Nat) (I : Nat → En → S → Prop) : ∀ {xs : List P} {n : Nat} {ρ : En} {s : S}, n + xs.length ≤ N → I n ρ s → (∀ x ∈ xs, ∀ n ρ s, n < N → I n ρ s → ∃ ρ1 s1 ρ2 s2, tg (.p x) ρ s = .ok ρ1 s1 ∧ f ρ1 s1 = .ok (.nx ρ2) s2 ∧ I (n + 1) ρ2 s2) →
    ∃ ρ' s', forL [] tg f xs ρ s = .ok (.nx ρ') s' ∧ I (n + xs.length) ρ' s'
  | [], n, ρ, s, _, h, _ => ⟨ρ, s, forL_nil, h⟩
  | x :: xs, n, ρ, s, hn, h, k => by
    have hn' : n + (xs.length + 1) ≤ N := hn
    obtain ⟨ρ1, s1, ρ2, s2, e1, e2, i2⟩ := k x List.mem_cons_self n ρ s (by omega) h
    obtain ⟨ρ', s', e3, i3⟩ := forL_cnt N I (by omega) i2 (fun y hy => k y (List.mem_cons_of_mem _ hy))
    refine ⟨ρ', s', by rw [forL_cons, e1, R.bind_ok, e2, R.bind_ok, fork_nx, e3], ?_⟩
    rw [List.length_cons, show n + (xs.length + 1) = n + 1 + xs.length by omega]
    exact i3
end CW
end
section
set_option maxRecDepth 100000
set_option maxHeartbeats 2000000
namespace CW
open PySem PySem.Spec PyProof.Rows L2
section
variable {s : S} {ρ : En}
theorem get_end (o : Option O) : (s ++ [o])[s.length]? = some o := by
  rw [List.getElem?_append_right (Nat.le_refl _), Nat.sub_self]
  rfl
theorem set_end (a b : Option O) : (s ++ [a]).set s.length b = s ++ [b] := by
  rw [List.set_append_right _ _ (Nat.le_refl _), Nat.sub_self]
  rfl
theorem lsAt_endL (xs : List P) : lsAt s.length (s ++ [some (.lst xs)]) = some xs := by
  unfold lsAt
  rw [get_end]
theorem frz_endL (xs : List P) : frz (.obj s.length) (s ++ [some (.lst xs)]) = .ok (.p (.lst xs)) (s ++ [none]) := by
  unfold frz
  dsimp only
  rw [get_end]
  dsimp only
  rw [set_end]
theorem forF_of {i : IF} {tg : GF} {f : SF} {xs : List P} {s1 : S} {r : R Fl} (hi : i ρ s = .ok (xs, []) s1) (h : forL [] tg f xs ρ s1 = r) : forF i tg f ρ s = r := by
  rw [forF_ev, hi, R.bind_ok]
  exact h
theorem r2_ev (ms : List EF) (i j : Int) (s1 : S) (h : evA ms ρ s = .ok [.p (.int i), .p (.int j)] s1) (h1 : -4611686018427387904 ≤ i) (h2 : i < 4611686018427387904) (h3 : -4611686018427387904 ≤ j) (h4 : j < 4611686018427387904) : r2I ms ρ s = .ok (ranP i (j - i).toNat, []) s1 := by
  unfold r2I
  rw [bnd_ev, h, R.bind_ok]
  exact if_pos ⟨h1, h2, h3, h4⟩
end
end CW
end
section
set_option maxRecDepth 100000
set_option maxHeartbeats 2000000
namespace CW
section
variable {a1 a2 a3 a4 a6 x y v w l : Rat}
def fx (a1 a2 l x v : Rat) : Rat := l * l + a1 * l - a2 - x - v
def fy (a1 a3 l x y X : Rat) : Rat := -(l * X) - a1 * X - y + l * x - a3
end
section
variable {W V E : Int} {n m k b e c : Nat} {q a1 a2 a3 a4 a6 x y v w l : Rat}
theorem rpow_of_mul (a b : Rat) : ∀ k : Nat, (a * b) ^ k = a ^ k * b ^ k
  | 0 => by rw [Rat.pow_zero, Rat.pow_zero, Rat.pow_zero, Rat.mul_one]
  | k + 1 => by
    rw [Rat.pow_succ, Rat.pow_succ, Rat.pow_succ, rpow_of_mul a b k]
    grind
theorem Wn.base (hv : szi V b) (h : Wn W n k q) : Wn (V * W) (n + (b * k + 1)) k q := by
  obtain ⟨A, e1, e2⟩ := h
  refine ⟨A * V ^ k, ?_, e2.mul (szi_pow hv k)⟩
  rw [rc_mul, rc_mul, rc_pow, ← e1, rpow_of_mul]
  grind
theorem Wn.sub (ha : Wn W n k q) (hb : Wn W n k l) : Wn W (n + 1) k (q - l) := by
  rw [Rat.sub_eq_add_neg]
  exact ha.add hb.neg
/-- q is A by B, A and B of so many bits -/
theorem Wn.frac {A B : Int} (hl : l * B = A) (hB : B ≠ 0) (hA : szi A n) : Wn B n 1 l := ⟨A, by rw [Rat.pow_one]; exact hl, hA⟩
end
open PySem PySem.Spec PyProof.Rows L2
end CW
namespace CW
open PySem PySem.Spec PyProof.Rows L2
section
variable {s : S} {ρ : En} {m : EF}
theorem slcE_ev (fr : Bool) (ma : EF) (lo hi : Option EF) : slcE fr ma lo hi ρ s = R.bind (ma ρ s) fun x s1 => R.bind (optE lo ρ s1) fun l s2 => R.bind (optE hi ρ s2) fun u s3 => slcD fr x l u s3 := by
  unfold slcE
  rw [bnd_ev]
  congr 1
theorem optE_n : optE none ρ s = .ok none s := rfl
theorem optE_s : optE (some m) ρ s = R.bind (m ρ s) partE := by
  show bnd (m ρ) partE s = _
  rw [bnd_ev]
theorem partE_i (i : Int) : partE (.p (.int i)) s = .ok (some i) s := rfl
theorem add_tt (fr : Bool) (xs ys : List P) : addD fr (.p (.tup xs)) (.p (.tup ys)) s = if xs.length + ys.length ≤ sizeLine then .ok (.p (.tup (xs ++ ys))) s else .bad := rfl
end
end CW
end
section
set_option maxRecDepth 100000
set_option maxHeartbeats 2000000
namespace CW
open PySem PySem.Spec PyProof.Rows L2
end CW
end
section
set_option maxRecDepth 100000
set_option maxHeartbeats 2000000
namespace CW
structure CuG (F : Type) where
  a1 : F
  a2 : F
  a3 : F
  a4 : F
  a6 : F
section
variable {F : Type} [Lean.Grind.CommRing F]
/-- on the curve -/
def OnG (c : CuG F) (x y : F) : Prop := y * y + c.a1 * x * y + c.a3 * y = x * x * x + c.a2 * x * x + c.a4 * x + c.a6
/-- l is the slope of the line through both, or of that which touches -/
def SlG (c : CuG F) (l x y v w : F) : Prop := l * (x - v) = y - w ∧ l * (y + w + c.a1 * v + c.a3) = x * x + x * v + v * v + c.a2 * (x + v) + c.a4 - c.a1 * y
def OppG (c : CuG F) (x y v w : F) : Prop := x = v ∧ y + w + c.a1 * x + c.a3 = 0
def gx (c : CuG F) (l x v : F) : F := l * l + c.a1 * l - c.a2 - x - v
def gy (c : CuG F) (l x y X : F) : F := -(y + l * (X - x)) - c.a1 * X - c.a3
inductive SmG (c : CuG F) : Option (F × F) → Option (F × F) → Option (F × F) → Prop
  | n0 (Q : Option (F × F)) : SmG c none Q Q
  | n1 (P : Option (F × F)) : SmG c P none P
  | op {x y v w : F} : OppG c x y v w → SmG c (some (x, y)) (some (v, w)) none
  | ln {x y v w l : F} : ¬ OppG c x y v w → SlG c l x y v w → SmG c (some (x, y)) (some (v, w)) (some (gx c l x v, gy c l x y (gx c l x v)))
def ngG (c : CuG F) : Option (F × F) → Option (F × F)
  | none => none
  | some (x, y) => some (x, -y - c.a1 * x - c.a3)
def OnO (c : CuG F) : Option (F × F) → Prop
  | none => True
  | some (x, y) => OnG c x y
variable {c : CuG F} {x y v w l X : F} {P Q S T : Option (F × F)}
theorem SlG.symm (h : SlG c l x y v w) : SlG c l v w x y := by
  obtain ⟨h1, h2⟩ := h
  refine ⟨by grind, ?_⟩
  have e : c.a1 * (l * (x - v)) = c.a1 * (y - w) := by rw [h1]
  grind
theorem OppG.symm (h : OppG c x y v w) : OppG c v w x y := by
  obtain ⟨h1, h2⟩ := h
  subst h1
  exact ⟨rfl, by grind⟩
theorem OnO.ng (h : OnO c P) : OnO c (ngG c P) := by
  rcases P with _ | ⟨x, y⟩
  · trivial
  · show OnG c x (-y - c.a1 * x - c.a3)
    have h : OnG c x y := h
    unfold OnG at h ⊢
    grind
theorem on_ln (h1 : OnG c x y) (h : SlG c l x y v w) : OnG c (gx c l x v) (gy c l x y (gx c l x v)) := by
  obtain ⟨h2, h3⟩ := h
  have k : OnG c (gx c l x v) (y + l * (gx c l x v - x)) := by
    have hw : w = y - l * (x - v) := by grind
    subst hw
    have d : y * y + c.a1 * x * y + c.a3 * y - (x * x * x + c.a2 * x * x + c.a4 * x + c.a6) = 0 := by
      unfold OnG at h1
      grind
    have e : l * (y + (y - l * (x - v)) + c.a1 * v + c.a3) - (x * x + x * v + v * v + c.a2 * (x + v) + c.a4 - c.a1 * y) = 0 := by grind
    unfold OnG
    have key : (y + l * (gx c l x v - x)) * (y + l * (gx c l x v - x)) + c.a1 * gx c l x v * (y + l * (gx c l x v - x)) + c.a3 * (y + l * (gx c l x v - x)) - (gx c l x v * gx c l x v * gx c l x v + c.a2 * gx c l x v * gx c l x v + c.a4 * gx c l x v + c.a6) = (y * y + c.a1 * x * y + c.a3 * y - (x * x * x + c.a2 * x * x + c.a4 * x + c.a6)) + (gx c l x v - x) * (l * (y + (y - l * (x - v)) + c.a1 * v + c.a3) - (x * x + x * v + v * v + c.a2 * (x + v) + c.a4 - c.a1 * y)) := by
      clear d e h1 h2 h3
      unfold gx
      grind
    rw [d, e] at key
    have fin : ∀ a b t : F, a - b = 0 + t * 0 → a = b := by
      clear key d e h1 h2 h3
      intro a b t h
      grind
    exact fin _ _ _ key
  have k2 : OnO c (ngG c (some (gx c l x v, y + l * (gx c l x v - x)))) := OnO.ng k
  exact k2
theorem SmG.on (h : SmG c P Q S) (hP : OnO c P) (hQ : OnO c Q) : OnO c S := by
  cases h with
  | n0 Q => exact hQ
  | n1 P => exact hP
  | op h => trivial
  | ln h1 h2 => exact on_ln hP h2
theorem slope_uniq (nz : ∀ a b : F, a * b = 0 → a = 0 ∨ b = 0) {m : F} (ho : ¬ OppG c x y v w) (h : SlG c l x y v w) (k : SlG c m x y v w) : l = m := by
  have e1 : (l - m) * (x - v) = 0 := by
    have := h.1
    have := k.1
    grind
  have e2 : (l - m) * (y + w + c.a1 * v + c.a3) = 0 := by
    have := h.2
    have := k.2
    grind
  rcases nz _ _ e1 with z | z
  · grind
  · rcases nz _ _ e2 with z2 | z2
    · grind
    · have hx : x = v := by grind
      exact absurd ⟨hx, by rw [hx]; exact z2⟩ ho
theorem SmG.uniq (nz : ∀ a b : F, a * b = 0 → a = 0 ∨ b = 0) (h : SmG c P Q S) (k : SmG c P Q T) : S = T := by
  cases h with
  | n0 Q =>
    cases k with
    | n0 _ => rfl
    | n1 _ => rfl
  | n1 P =>
    cases k with
    | n0 _ => rfl
    | n1 _ => rfl
  | op h =>
    cases k with
    | op _ => rfl
    | ln g _ => exact absurd h g
  | ln h1 h2 =>
    cases k with
    | op g => exact absurd g h1
    | ln g1 g2 => rw [slope_uniq nz h1 h2 g2]
end
section
variable {F : Type} [Lean.Grind.CommRing F]
theorem gsub0 {a b : F} (h : a - b = 0) : a = b := by grind
end
section
variable {F : Type} [Lean.Grind.CommRing F] {c : CuG F} {x1 x2 x3 y1 y2 y3 al be la mu X Z : F}
theorem hg1 (a : SlG c al x1 y1 x2 y2) (b : SlG c be x2 y2 x3 y3) (hZ : Z = gx c be x2 x3) : (al - be) * ((al - be) * (x1 - x2)) + (al - be) * ((c.a1 + 2 * be) * (x1 - x2)) + (al - be) * (c.a3 + 2 * y2 + c.a1 * x2) = (x1 - x2 - (x3 - x2)) * (x1 - x2 - (Z - x2)) := by
  obtain ⟨p1, p2⟩ := a
  obtain ⟨q1, q2⟩ := b
  have h1 : y1 = y2 + al * (x1 - x2) := by
    clear hZ p2 q1 q2
    grind
  have h3 : y3 = y2 + be * (x3 - x2) := by
    clear hZ p1 p2 q2 h1
    grind
  rw [h1] at p2
  rw [h3] at q2
  clear p1 q1 h1 h3
  rw [hZ]
  unfold gx
  clear hZ
  grind
theorem hgl1 (a : al * (x1 - x2) = y1 - y2) (b : be * (x2 - x3) = y2 - y3) (l : la * (X - x3) = gy c al x1 y1 X - y3) : (la - be) * (X - x2 - (x3 - x2)) = -((al - be) * (X - x2) + (c.a1 + 2 * be) * (X - x2) + (c.a3 + 2 * y2 + c.a1 * x2)) := by
  unfold gy at l
  grind
theorem hgl2 (a : al * (x1 - x2) = y1 - y2) (b : SlG c be x2 y2 x3 y3) (hZ : Z = gx c be x2 x3) (l : SlG c la x3 y3 X (gy c al x1 y1 X)) : -((la - be) * ((al - be) * (X - x2))) = (X - x2) * (X - x2) - (Z - x2) * (X - x2) := by
  obtain ⟨q1, q2⟩ := b
  obtain ⟨l1, l2⟩ := l
  have h1 : y1 = y2 + al * (x1 - x2) := by
    clear hZ l1 l2 q1 q2
    grind
  have h3 : y3 = y2 + be * (x3 - x2) := by
    clear hZ l1 l2 q2 h1 a
    grind
  subst h1
  subst h3
  clear a q1
  unfold gy at l1 l2
  subst hZ
  unfold gx
  have e : (-((la - be) * ((al - be) * (X - x2)))) - ((X - x2) * (X - x2) - (be * be + c.a1 * be - c.a2 - x2 - x3 - x2) * (X - x2)) = (la * (y2 + be * (x3 - x2) + (-(y2 + al * (x1 - x2) + al * (X - x1)) - c.a1 * X - c.a3) + c.a1 * X + c.a3) - (x3 * x3 + x3 * X + X * X + c.a2 * (x3 + X) + c.a4 - c.a1 * (y2 + be * (x3 - x2)))) - be * (la * (x3 - X) - (y2 + be * (x3 - x2) - (-(y2 + al * (x1 - x2) + al * (X - x1)) - c.a1 * X - c.a3))) - (be * (y2 + (y2 + be * (x3 - x2)) + c.a1 * x3 + c.a3) - (x2 * x2 + x2 * x3 + x3 * x3 + c.a2 * (x2 + x3) + c.a4 - c.a1 * y2)) := by
    clear q2 l1 l2
    grind
  rw [q2, l1, l2] at e
  clear q2 l1 l2
  apply gsub0
  rw [e]
  clear e
  grind
end
end CW
end
section
set_option maxRecDepth 100000
set_option maxHeartbeats 2000000
namespace CW
open PySem PySem.Spec PyProof.Rows L2
/-- whole over the i-th power of E and the j-th of F -/
def W2 (E F : Int) (n i j : Nat) (q : Rat) : Prop := ∃ N : Int, q * ((E : Rat) ^ i * (F : Rat) ^ j) = N ∧ szi N n
section
variable {E F : Int} {e f n m r i j k l d : Nat} {a b : Rat}
theorem W2.mul (ha : W2 E F n i j a) (hb : W2 E F m k l b) : W2 E F (n + m) (i + k) (j + l) (a * b) := by
  obtain ⟨A, a1, a2⟩ := ha
  obtain ⟨B, b1, b2⟩ := hb
  refine ⟨A * B, ?_, a2.mul b2⟩
  rw [rpow_add, rpow_add, rc_mul, ← a1, ← b1]
  grind
theorem W2.add (ha : W2 E F n i j a) (hb : W2 E F m i j b) (h1 : n + 1 ≤ r := by omega) (h2 : m + 1 ≤ r := by omega) : W2 E F r i j (a + b) := by
  obtain ⟨A, a1, a2⟩ := ha
  obtain ⟨B, b1, b2⟩ := hb
  refine ⟨A + B, ?_, szi.sum a2 b2 h1 h2⟩
  rw [rc_add, ← a1, ← b1]
  grind
theorem W2.neg (ha : W2 E F n i j a) : W2 E F n i j (-a) := by
  obtain ⟨A, a1, a2⟩ := ha
  refine ⟨-A, ?_, a2.neg⟩
  rw [rc_neg, ← a1]
  grind
theorem W2.sub (ha : W2 E F n i j a) (hb : W2 E F m i j b) (h1 : n + 1 ≤ r := by omega) (h2 : m + 1 ≤ r := by omega) : W2 E F r i j (a - b) := by
  rw [Rat.sub_eq_add_neg]
  exact ha.add hb.neg h1 h2
theorem W2.mono (ha : W2 E F n i j a) (h : n ≤ m := by omega) : W2 E F m i j a := by
  obtain ⟨A, a1, a2⟩ := ha
  exact ⟨A, a1, a2.mono h⟩
theorem W2.of1 (h : Wn E n k a) : W2 E F n k 0 a := by
  obtain ⟨A, a1, a2⟩ := h
  exact ⟨A, by rw [Rat.pow_zero, Rat.mul_one]; exact a1, a2⟩
theorem W2.of2 (h : Wn F n k a) : W2 E F n 0 k a := by
  obtain ⟨A, a1, a2⟩ := h
  exact ⟨A, by rw [Rat.pow_zero, Rat.one_mul]; exact a1, a2⟩
theorem W2.int {c : Int} (h : szi c n) : W2 E F n 0 0 (c : Rat) := ⟨c, by rw [Rat.pow_zero, Rat.pow_zero, Rat.mul_one, Rat.mul_one], h⟩
/-- raised by one power -/
theorem W2.to (hE : szi E e) (hF : szi F f) (ha : W2 E F n i j a) (d d' : Nat) : W2 E F (n + (e * d + 1) + (f * d' + 1)) (i + d) (j + d') a := by
  obtain ⟨A, a1, a2⟩ := ha
  refine ⟨A * E ^ d * F ^ d', ?_, (a2.mul (szi_pow hE d)).mul (szi_pow hF d')⟩
  rw [rpow_add, rpow_add, rc_mul, rc_mul, rc_pow, rc_pow, ← a1]
  grind
theorem W2.up (ha : W2 E F n i j a) (hE : szi E e) (hF : szi F f) (d d' k l m : Nat) (h1 : i + d = k := by omega) (h2 : j + d' = l := by omega) (h3 : n + (e * d + 1) + (f * d' + 1) ≤ m := by omega) : W2 E F m k l a := by
  subst h1 h2
  exact (W2.to hE hF ha d d').mono h3
end
/-- a point over E: x over its square, y over its cube, the curve over E -/
structure Sz (E : Int) (e : Nat) (a1 a2 a3 a4 a6 x y : Rat) : Prop where
  E0 : E ≠ 0
  hE : szi E e
  A1 : Wn E e 1 a1
  A2 : Wn E e 1 a2
  A3 : Wn E e 1 a3
  A4 : Wn E e 1 a4
  A6 : Wn E e 1 a6
  X : Wn E (2 * e) 2 x
  Y : Wn E (3 * e) 3 y
section
variable {E F : Int} {e f : Nat} {a1 a2 a3 a4 a6 x y v w l : Rat}
theorem Sz.mono (h : Sz E e a1 a2 a3 a4 a6 x y) (k : e ≤ f) : Sz E f a1 a2 a3 a4 a6 x y :=
  ⟨h.E0, h.hE.mono k, h.A1.mono k, h.A2.mono k, h.A3.mono k, h.A4.mono k, h.A6.mono k, h.X.mono (by omega), h.Y.mono (by omega)⟩
theorem Sz.hx (h : Sz E e a1 a2 a3 a4 a6 x y) (he : 1 ≤ e) : hz x ≤ 2 * e + 1 := Wn.hz h.E0 h.hE h.X (by omega) (by omega)
theorem Sz.hy (h : Sz E e a1 a2 a3 a4 a6 x y) (he : 1 ≤ e) : hz y ≤ 3 * e + 1 := Wn.hz h.E0 h.hE h.Y (by omega) (by omega)
/-- by a slope over E -/
theorem Sz.slope (E0 : E ≠ 0) (hE : szi E e) (A1 : Wn E e 1 a1) (A2 : Wn E e 1 a2) (A3 : Wn E e 1 a3) (A4 : Wn E e 1 a4) (A6 : Wn E e 1 a6) (hl : Wn E e 1 l) (hx : Wn E (2 * e) 2 x) (hv : Wn E (2 * e) 2 v) (hy : Wn E (3 * e) 3 y) :
    Sz E (e + 3) a1 a2 a3 a4 a6 (fx a1 a2 l x v) (fy a1 a3 l x y (fx a1 a2 l x v)) := by
  have X1 : Wn E (2 * e + 4) 2 (fx a1 a2 l x v) := by
    unfold fx
    have t1 : Wn E (2 * e) 2 (l * l) := (hl.mul hl).mono (by omega)
    have t2 : Wn E (2 * e) 2 (a1 * l) := (A1.mul hl).mono (by omega)
    have t3 : Wn E (2 * e + 1) 2 a2 := Wn.to hE A2 (by decide) (by omega)
    have t4 := (t1.add t2).sub (t3.mono (by omega))
    have t5 := t4.sub (hx.mono (by omega))
    exact (t5.sub (hv.mono (by omega))).mono (by omega)
  have Y1 : Wn E (3 * e + 9) 3 (fy a1 a3 l x y (fx a1 a2 l x v)) := by
    generalize fx a1 a2 l x v = G at *
    unfold fy
    have t1 : Wn E (3 * e + 4) 3 (l * G) := (hl.mul X1).mono (by omega)
    have t2 : Wn E (3 * e + 4) 3 (a1 * G) := (A1.mul X1).mono (by omega)
    have t3 := (t1.neg.sub t2).sub (hy.mono (by omega))
    have t4 : Wn E (3 * e) 3 (l * x) := (hl.mul hx).mono (by omega)
    have t5 : Wn E (3 * e + 1) 3 a3 := Wn.to hE A3 (by decide) (by omega)
    exact ((t3.add (t4.mono (by omega))).sub (t5.mono (by omega))).mono (by omega)
  exact ⟨E0, hE.mono (by omega), A1.mono (by omega), A2.mono (by omega), A3.mono (by omega), A4.mono (by omega), A6.mono (by omega), X1.mono (by omega), Y1.mono (by omega)⟩
/-- the line that touches -/
theorem Sz.tan (h : Sz E e a1 a2 a3 a4 a6 x y) (hne : 2 * y + a1 * x + a3 ≠ 0) (hl : l * (2 * y + a1 * x + a3) = 3 * x * x + 2 * a2 * x + a4 - a1 * y) (he : 1 ≤ e) :
    (∃ G, Sz G (4 * e + 8) a1 a2 a3 a4 a6 (fx a1 a2 l x x) (fy a1 a3 l x y (fx a1 a2 l x x))) ∧ hz l ≤ 4 * e + 6 := by
  have d1 : Wn E (3 * e + 4) 3 (2 * y + a1 * x + a3) := by
    have t1 : Wn E (3 * e + 2) 3 (2 * y) := ((Wn.int (show szi 2 2 by decide)).mul h.Y).mono (by omega)
    have t2 : Wn E (3 * e) 3 (a1 * x) := (h.A1.mul h.X).mono (by omega)
    have t3 : Wn E (3 * e + 1) 3 a3 := Wn.to h.hE h.A3 (by decide) (by omega)
    exact ((t1.add (t2.mono (by omega))).add (t3.mono (by omega))).mono (by omega)
  have n1 : Wn E (4 * e + 5) 4 (3 * x * x + 2 * a2 * x + a4 - a1 * y) := by
    have t1 : Wn E (4 * e + 2) 4 (3 * x * x) := (((Wn.int (show szi 3 2 by decide)).mul h.X).mul h.X).mono (by omega)
    have t2 : Wn E (4 * e + 3) 4 (2 * a2 * x) := Wn.to h.hE (((Wn.int (show szi 2 2 by decide)).mul h.A2).mul h.X) (by decide) (by omega)
    have t3 : Wn E (4 * e + 1) 4 a4 := Wn.to h.hE h.A4 (by decide) (by omega)
    have t4 : Wn E (4 * e) 4 (a1 * y) := (h.A1.mul h.Y).mono (by omega)
    have g : 3 * x * x + 2 * a2 * x + a4 - a1 * y = (3 * x * x + 2 * a2 * x) + (a4 - a1 * y) := by grind
    rw [g]
    exact (((t1.mono (by omega)).add t2).add ((t3.sub (t4.mono (by omega))).mono (by omega))).mono (by omega)
  obtain ⟨D, b1, b2⟩ := d1
  obtain ⟨N, e1, e2⟩ := n1
  have ep : (E : Rat) ≠ 0 := fun z => h.E0 (by exact_mod_cast z)
  have hD0 : D ≠ 0 := fun z => by
    rw [z] at b1
    rcases Rat.mul_eq_zero.mp (b1.trans rfl) with z | z
    · exact hne z
    · grind
  have hEB : szi (D * E) (4 * e + 5) := (b2.mul h.hE).mono (by omega)
  have hl' : Wn (D * E) (4 * e + 5) 1 l := by
    refine Wn.frac (A := N) ?_ (Int.mul_ne_zero hD0 h.E0) e2
    rw [rc_mul, ← b1, ← e1, ← hl]
    grind
  have lift : ∀ {k n : Nat} {q : Rat}, Wn E n k q → Wn (D * E) (n + ((3 * e + 4) * k + 1)) k q := fun h => Wn.base b2 h
  refine ⟨⟨D * E, ?_⟩, Wn.hz (Int.mul_ne_zero hD0 h.E0) hEB hl' (by omega) (by omega)⟩
  exact Sz.slope (Int.mul_ne_zero hD0 h.E0) hEB ((lift h.A1).mono (by omega)) ((lift h.A2).mono (by omega)) ((lift h.A3).mono (by omega)) ((lift h.A4).mono (by omega)) ((lift h.A6).mono (by omega)) hl' ((lift h.X).mono (by omega)) ((lift h.X).mono (by omega)) ((lift h.Y).mono (by omega))
end
section
variable {a1 a2 a3 a4 a6 x y v w l : Rat}
def chR (a1 a2 a3 a4 a6 x y v w : Rat) : Rat := ((2 * a2 * (x * v) + a4 * x) + (a4 * v + 2 * a6)) - ((2 * (y * w) + a1 * x * w) + (a1 * v * y + (a3 * y + a3 * w)))
theorem ch_x (h1 : ev a1 a2 a3 a4 a6 x y = 0) (h2 : ev a1 a2 a3 a4 a6 v w = 0) (hl : l * (v - x) = w - y) :
    fx a1 a2 l x v * ((x - v) * (x - v)) = x * x * v + x * v * v + chR a1 a2 a3 a4 a6 x y v w := by
  have e : fx a1 a2 l x v * ((x - v) * (x - v)) = (l * (v - x)) * (l * (v - x)) - a1 * (l * (v - x)) * (x - v) - (a2 + x + v) * ((x - v) * (x - v)) := by
    unfold fx
    clear h1 h2 hl
    grind
  rw [e, hl]
  have k : (w - y) * (w - y) - a1 * (w - y) * (x - v) - (a2 + x + v) * ((x - v) * (x - v)) = x * x * v + x * v * v + chR a1 a2 a3 a4 a6 x y v w + ev a1 a2 a3 a4 a6 x y + ev a1 a2 a3 a4 a6 v w := by
    unfold chR ev
    clear h1 h2 hl e
    grind
  rw [k, h1, h2]
  clear h1 h2 hl e k
  grind
theorem ch_y (hl : l * (v - x) = w - y) {M X : Rat} (hM : X * ((x - v) * (x - v)) = x * x * v + x * v * v + M) :
    fy a1 a3 l x y X * ((x - v) * ((x - v) * (x - v))) = (((y * v * v * v - 3 * (y * x * v * v)) - (w * x * x * x - 3 * (w * x * x * v))) - (y * M - w * M)) - ((a1 * (x * x * v + x * v * v + M) * x - a1 * (x * x * v + x * v * v + M) * v) + ((a3 * (x * x * x) - 3 * (a3 * (x * x * v))) + (3 * (a3 * (x * v * v)) - a3 * (v * v * v)))) := by
  have e : fy a1 a3 l x y X * ((x - v) * ((x - v) * (x - v))) = (l * (v - x)) * (X * ((x - v) * (x - v))) - a1 * (X * ((x - v) * (x - v))) * (x - v) - y * ((x - v) * ((x - v) * (x - v))) - (l * (v - x)) * x * ((x - v) * (x - v)) - a3 * ((x - v) * ((x - v) * (x - v))) := by
    unfold fy
    clear hM hl
    grind
  rw [e, hl, hM]
  clear e hl hM
  grind
end
section
variable {E F : Int} {e f : Nat} {a1 a2 a3 a4 a6 x y v w l : Rat}
theorem chR_w (p : Sz E e a1 a2 a3 a4 a6 x y) (q : Sz F f a1 a2 a3 a4 a6 v w) : W2 E F (3 * e + 3 * f + 8) 3 3 (chR a1 a2 a3 a4 a6 x y v w) := by
  have X : W2 E F (2 * e) 2 0 x := W2.of1 p.X
  have Y : W2 E F (3 * e) 3 0 y := W2.of1 p.Y
  have V : W2 E F (2 * f) 0 2 v := W2.of2 q.X
  have W : W2 E F (3 * f) 0 3 w := W2.of2 q.Y
  have i2 : W2 E F 2 0 0 2 := W2.int (c := 2) (by decide)
  have t1 : W2 E F (3 * e + 3 * f + 4) 3 3 (2 * a2 * (x * v)) := ((i2.mul (W2.of1 p.A2)).mul (X.mul V)).up p.hE q.hE 0 1 3 3 _
  have t2 : W2 E F (3 * e + 3 * f + 4) 3 3 (a4 * x) := ((W2.of1 p.A4).mul X).up p.hE q.hE 0 3 3 3 _
  have t3 : W2 E F (3 * e + 3 * f + 4) 3 3 (a4 * v) := ((W2.of1 p.A4).mul V).up p.hE q.hE 2 1 3 3 _
  have t4 : W2 E F (3 * e + 3 * f + 4) 3 3 (2 * a6) := (i2.mul (W2.of1 p.A6)).up p.hE q.hE 2 3 3 3 _
  have t5 : W2 E F (3 * e + 3 * f + 4) 3 3 (2 * (y * w)) := (i2.mul (Y.mul W)).up p.hE q.hE 0 0 3 3 _
  have t6 : W2 E F (3 * e + 3 * f + 4) 3 3 (a1 * x * w) := (((W2.of1 p.A1).mul X).mul W).up p.hE q.hE 0 0 3 3 _
  have t7 : W2 E F (3 * e + 3 * f + 4) 3 3 (a1 * v * y) := (((W2.of2 q.A1).mul V).mul Y).up p.hE q.hE 0 0 3 3 _
  have t8 : W2 E F (3 * e + 3 * f + 4) 3 3 (a3 * y) := ((W2.of2 q.A3).mul Y).up p.hE q.hE 0 2 3 3 _
  have t9 : W2 E F (3 * e + 3 * f + 4) 3 3 (a3 * w) := ((W2.of1 p.A3).mul W).up p.hE q.hE 2 0 3 3 _
  unfold chR
  exact (W2.add (W2.add t1 t2 (r := 3 * e + 3 * f + 5)) (W2.add t3 t4 (r := 3 * e + 3 * f + 5)) (r := 3 * e + 3 * f + 6)).sub (W2.add (W2.add t5 t6 (r := 3 * e + 3 * f + 5)) (W2.add t7 (W2.add t8 t9 (r := 3 * e + 3 * f + 5)) (r := 3 * e + 3 * f + 6)) (r := 3 * e + 3 * f + 7))
theorem ch_M (p : Sz E e a1 a2 a3 a4 a6 x y) (q : Sz F f a1 a2 a3 a4 a6 v w) : W2 E F (4 * e + 4 * f + 11) 4 4 (x * x * v + x * v * v + chR a1 a2 a3 a4 a6 x y v w) := by
  have X : W2 E F (2 * e) 2 0 x := W2.of1 p.X
  have V : W2 E F (2 * f) 0 2 v := W2.of2 q.X
  have t1 : W2 E F (4 * e + 4 * f + 2) 4 4 (x * x * v) := ((X.mul X).mul V).up p.hE q.hE 0 2 4 4 _
  have t2 : W2 E F (4 * e + 4 * f + 2) 4 4 (x * v * v) := ((X.mul V).mul V).up p.hE q.hE 2 0 4 4 _
  have t3 : W2 E F (4 * e + 4 * f + 10) 4 4 (chR a1 a2 a3 a4 a6 x y v w) := (chR_w p q).up p.hE q.hE 1 1 4 4 _
  exact (W2.add t1 t2 (r := 4 * e + 4 * f + 3)).add t3
theorem ch_Y (p : Sz E e a1 a2 a3 a4 a6 x y) (q : Sz F f a1 a2 a3 a4 a6 v w) : W2 E F (6 * e + 6 * f + 18) 6 6 ((((y * v * v * v - 3 * (y * x * v * v)) - (w * x * x * x - 3 * (w * x * x * v))) - (y * chR a1 a2 a3 a4 a6 x y v w - w * chR a1 a2 a3 a4 a6 x y v w)) - ((a1 * (x * x * v + x * v * v + chR a1 a2 a3 a4 a6 x y v w) * x - a1 * (x * x * v + x * v * v + chR a1 a2 a3 a4 a6 x y v w) * v) + ((a3 * (x * x * x) - 3 * (a3 * (x * x * v))) + (3 * (a3 * (x * v * v)) - a3 * (v * v * v))))) := by
  have X : W2 E F (2 * e) 2 0 x := W2.of1 p.X
  have Y : W2 E F (3 * e) 3 0 y := W2.of1 p.Y
  have V : W2 E F (2 * f) 0 2 v := W2.of2 q.X
  have W : W2 E F (3 * f) 0 3 w := W2.of2 q.Y
  have i3 : W2 E F 2 0 0 3 := W2.int (c := 3) (by decide)
  have R := chR_w p q
  have M := ch_M p q
  generalize chR a1 a2 a3 a4 a6 x y v w = r at *
  generalize x * x * v + x * v * v + r = m at *
  have t1 : W2 E F (6 * e + 6 * f + 4) 6 6 (y * v * v * v) := (((Y.mul V).mul V).mul V).up p.hE q.hE 3 0 6 6 _
  have t2 : W2 E F (6 * e + 6 * f + 4) 6 6 (3 * (y * x * v * v)) := (i3.mul (((Y.mul X).mul V).mul V)).up p.hE q.hE 1 2 6 6 _
  have t3 : W2 E F (6 * e + 6 * f + 4) 6 6 (w * x * x * x) := (((W.mul X).mul X).mul X).up p.hE q.hE 0 3 6 6 _
  have t4 : W2 E F (6 * e + 6 * f + 4) 6 6 (3 * (w * x * x * v)) := (i3.mul (((W.mul X).mul X).mul V)).up p.hE q.hE 2 1 6 6 _
  have t5 : W2 E F (6 * e + 6 * f + 10) 6 6 (y * r) := (Y.mul R).up p.hE q.hE 0 3 6 6 _
  have t6 : W2 E F (6 * e + 6 * f + 10) 6 6 (w * r) := (W.mul R).up p.hE q.hE 3 0 6 6 _
  have t7 : W2 E F (6 * e + 6 * f + 13) 6 6 (a1 * m * x) := (((W2.of2 q.A1).mul M).mul X).up p.hE q.hE 0 1 6 6 _
  have t8 : W2 E F (6 * e + 6 * f + 13) 6 6 (a1 * m * v) := (((W2.of1 p.A1).mul M).mul V).up p.hE q.hE 1 0 6 6 _
  have u1 : W2 E F (6 * e + 6 * f + 4) 6 6 (a3 * (x * x * x)) := ((W2.of2 q.A3).mul ((X.mul X).mul X)).up p.hE q.hE 0 5 6 6 _
  have u2 : W2 E F (6 * e + 6 * f + 4) 6 6 (3 * (a3 * (x * x * v))) := (i3.mul ((W2.of1 p.A3).mul ((X.mul X).mul V))).up p.hE q.hE 1 4 6 6 _
  have u3 : W2 E F (6 * e + 6 * f + 4) 6 6 (3 * (a3 * (x * v * v))) := (i3.mul ((W2.of1 p.A3).mul ((X.mul V).mul V))).up p.hE q.hE 3 2 6 6 _
  have u4 : W2 E F (6 * e + 6 * f + 4) 6 6 (a3 * (v * v * v)) := ((W2.of1 p.A3).mul ((V.mul V).mul V)).up p.hE q.hE 5 0 6 6 _
  exact ((((t1.sub t2 (r := 6 * e + 6 * f + 5)).sub (t3.sub t4 (r := 6 * e + 6 * f + 5)) (r := 6 * e + 6 * f + 6))).sub (t5.sub t6 (r := 6 * e + 6 * f + 11)) (r := 6 * e + 6 * f + 12)).sub ((t7.sub t8 (r := 6 * e + 6 * f + 14)).add ((u1.sub u2 (r := 6 * e + 6 * f + 5)).add (u3.sub u4 (r := 6 * e + 6 * f + 5)) (r := 6 * e + 6 * f + 6)) (r := 6 * e + 6 * f + 15))
theorem w2_low (p : Sz E e a1 a2 a3 a4 a6 x y) (q : Sz F f a1 a2 a3 a4 a6 v w) {a : Rat} (h1 : Wn E e 1 a) (h2 : Wn F f 1 a) : W2 E F (2 * e + 2 * f + 3) 2 2 (a * (x - v)) := by
  have t1 : W2 E F (2 * e + 2 * f + 2) 2 2 (a * x) := ((W2.of2 h2).mul (W2.of1 p.X)).up p.hE q.hE 0 1 2 2 _
  have t2 : W2 E F (2 * e + 2 * f + 2) 2 2 (a * v) := ((W2.of1 h1).mul (W2.of2 q.X)).up p.hE q.hE 1 0 2 2 _
  have e : a * (x - v) = a * x - a * v := by grind
  rw [e]
  exact t1.sub t2
theorem wn_of {N : Int} {n k : Nat} {d q g : Rat} (hN : d * ((E : Rat) ^ 2 * (F : Rat) ^ 2) = N) (h : W2 E F n (2 * k) (2 * k) g) (hg : g = q * d ^ k) : Wn N n k q := by
  obtain ⟨A, b1, b2⟩ := h
  refine ⟨A, ?_, b2⟩
  rw [← b1, ← hN, hg]
  have pw : ∀ (z : Rat) (k : Nat), (z ^ 2) ^ k = z ^ (2 * k) := fun z k => by
    induction k with
    | zero => rw [Nat.mul_zero, Rat.pow_zero, Rat.pow_zero]
    | succ k ih => rw [Rat.pow_succ, ih, show 2 * (k + 1) = 2 * k + 2 by omega, rpow_add]
  rw [rpow_of_mul, rpow_of_mul, pw, pw, Rat.mul_assoc]
theorem Sz.chord (p : Sz E e a1 a2 a3 a4 a6 x y) (q : Sz F f a1 a2 a3 a4 a6 v w) (h1 : ev a1 a2 a3 a4 a6 x y = 0) (h2 : ev a1 a2 a3 a4 a6 v w = 0) (hne : x ≠ v) (hl : l * (v - x) = w - y) :
    (∃ G, Sz G (2 * (e + f) + 6) a1 a2 a3 a4 a6 (fx a1 a2 l x v) (fy a1 a3 l x y (fx a1 a2 l x v))) ∧ hz l ≤ 3 * (e + f) + 6 := by
  have X : W2 E F (2 * e) 2 0 x := W2.of1 p.X
  have Y : W2 E F (3 * e) 3 0 y := W2.of1 p.Y
  have V : W2 E F (2 * f) 0 2 v := W2.of2 q.X
  have W : W2 E F (3 * f) 0 3 w := W2.of2 q.Y
  have tN : W2 E F (2 * e + 2 * f + 3) 2 2 (x - v) := by
    have t1 : W2 E F (2 * e + 2 * f + 2) 2 2 x := X.up p.hE q.hE 0 2 2 2 _
    have t2 : W2 E F (2 * e + 2 * f + 2) 2 2 v := V.up p.hE q.hE 2 0 2 2 _
    exact t1.sub t2
  have tA : W2 E F (3 * e + 3 * f + 3) 3 3 (w - y) := by
    have t1 : W2 E F (3 * e + 3 * f + 2) 3 3 y := Y.up p.hE q.hE 0 3 3 3 _
    have t2 : W2 E F (3 * e + 3 * f + 2) 3 3 w := W.up p.hE q.hE 3 0 3 3 _
    exact t2.sub t1
  obtain ⟨N, n1, n2⟩ := tN
  obtain ⟨A, b1, b2⟩ := tA
  have ep : (E : Rat) ≠ 0 := fun z => p.E0 (by exact_mod_cast z)
  have fp : (F : Rat) ≠ 0 := fun z => q.E0 (by exact_mod_cast z)
  have hN0 : N ≠ 0 := fun z => by
    rw [z] at n1
    rcases Rat.mul_eq_zero.mp (n1.trans rfl) with z | z
    · grind
    · rcases Rat.mul_eq_zero.mp z with z | z
      · rw [show (2 : Nat) = 1 + 1 from rfl, rpow_add, Rat.pow_one] at z
        grind
      · rw [show (2 : Nat) = 1 + 1 from rfl, rpow_add, Rat.pow_one] at z
        grind
  have low : ∀ {a : Rat}, Wn E e 1 a → Wn F f 1 a → Wn N (2 * (e + f) + 6) 1 a := fun {a} k1 k2 => (wn_of n1 (w2_low p q k1 k2) (by rw [Rat.pow_one])).mono (by omega)
  refine ⟨⟨N, hN0, n2.mono (by omega), low p.A1 q.A1, low p.A2 q.A2, low p.A3 q.A3, low p.A4 q.A4, low p.A6 q.A6, ?_, ?_⟩, ?_⟩
  · refine (wn_of (k := 2) n1 (ch_M p q) ?_).mono (by omega)
    rw [← ch_x h1 h2 hl, show (2 : Nat) = 1 + 1 from rfl, rpow_add, Rat.pow_one]
  · refine (wn_of (k := 3) n1 (ch_Y p q) ?_).mono (by omega)
    rw [← ch_y hl (ch_x h1 h2 hl), show (3 : Nat) = 1 + (1 + 1) from rfl, rpow_add, rpow_add, Rat.pow_one]
  · have hB0 : N * E * F ≠ 0 := Int.mul_ne_zero (Int.mul_ne_zero hN0 p.E0) q.E0
    have hl' : Wn (N * E * F) (3 * (e + f) + 3) 1 l := by
      refine Wn.frac (A := -A) ?_ hB0 (b2.neg.mono (by omega))
      rw [rc_mul, rc_mul, rc_neg, ← n1, ← b1, ← hl]
      have g : ∀ z : Rat, z ^ 3 = z * z ^ 2 := fun z => by rw [show (3 : Nat) = 1 + 2 from rfl, rpow_add, Rat.pow_one]
      rw [g, g]
      grind
    exact Wn.hz hB0 (((n2.mul p.hE).mul q.hE).mono (show _ ≤ 3 * (e + f) + 3 by omega)) hl' (by omega) (by omega)
end
end CW
end
section
set_option maxRecDepth 100000
set_option maxHeartbeats 2000000
namespace CW
open PySem PySem.Spec PyProof.Rows L2
abbrev Pq := Option (Rat × Rat)
section
variable {a1 a2 a3 a4 a6 x y v w l : Rat}
abbrev cuQ (a1 a2 a3 a4 a6 : Rat) : CuG Rat := ⟨a1, a2, a3, a4, a6⟩
def slQ (a1 a2 a3 a4 x y v w : Rat) : Rat := if x = v then (3 * x * x + 2 * a2 * x + a4 - a1 * y) / (2 * y + a1 * x + a3) else (w - y) / (v - x)
/-- the sum by lines -/
def adQ (a1 a2 a3 a4 a6 : Rat) : Pq → Pq → Pq
  | none, Q => Q
  | P, none => P
  | some (x, y), some (v, w) => if x = v ∧ y + w + a1 * x + a3 = 0 then none else some (fx a1 a2 (slQ a1 a2 a3 a4 x y v w) x v, fy a1 a3 (slQ a1 a2 a3 a4 x y v w) x y (fx a1 a2 (slQ a1 a2 a3 a4 x y v w) x v))
theorem adQ_ss : adQ a1 a2 a3 a4 a6 (some (x, y)) (some (v, w)) = if x = v ∧ y + w + a1 * x + a3 = 0 then none else some (fx a1 a2 (slQ a1 a2 a3 a4 x y v w) x v, fy a1 a3 (slQ a1 a2 a3 a4 x y v w) x y (fx a1 a2 (slQ a1 a2 a3 a4 x y v w) x v)) := rfl
def ngQ (a1 a3 : Rat) : Pq → Pq
  | none => none
  | some (x, y) => some (x, -(y + a1 * x + a3))
def OnQ (a1 a2 a3 a4 a6 : Rat) : Pq → Prop
  | none => True
  | some (x, y) => ev a1 a2 a3 a4 a6 x y = 0
theorem onG_of (h : ev a1 a2 a3 a4 a6 x y = 0) : OnG (cuQ a1 a2 a3 a4 a6) x y := by
  unfold ev at h
  show y * y + a1 * x * y + a3 * y = x * x * x + a2 * x * x + a4 * x + a6
  grind
theorem of_onG (h : OnG (cuQ a1 a2 a3 a4 a6) x y) : ev a1 a2 a3 a4 a6 x y = 0 := by
  have h : y * y + a1 * x * y + a3 * y = x * x * x + a2 * x * x + a4 * x + a6 := h
  unfold ev
  grind
theorem onO_of {P : Pq} (h : OnQ a1 a2 a3 a4 a6 P) : OnO (cuQ a1 a2 a3 a4 a6) P := by
  rcases P with _ | ⟨x, y⟩
  · trivial
  · exact onG_of h
theorem of_onO {P : Pq} (h : OnO (cuQ a1 a2 a3 a4 a6) P) : OnQ a1 a2 a3 a4 a6 P := by
  rcases P with _ | ⟨x, y⟩
  · trivial
  · exact of_onG h
theorem fx_gx : gx (cuQ a1 a2 a3 a4 a6) l x v = fx a1 a2 l x v := rfl
theorem fy_gy (X : Rat) : gy (cuQ a1 a2 a3 a4 a6) l x y X = fy a1 a3 l x y X := by
  show -(y + l * (X - x)) - a1 * X - a3 = -(l * X) - a1 * X - y + l * x - a3
  grind
/-- two points of one X that aren't opposite are the same -/
theorem same_y (h1 : ev a1 a2 a3 a4 a6 x y = 0) (h2 : ev a1 a2 a3 a4 a6 x w = 0) (ho : ¬ y + w + a1 * x + a3 = 0) : y = w := by
  have k : (y - w) * (y + w + a1 * x + a3) = 0 := by
    unfold ev at h1 h2
    grind
  rcases Rat.mul_eq_zero.mp k with z | z
  · grind
  · exact absurd z ho
theorem chord_rel (hne : x ≠ v) (h1 : ev a1 a2 a3 a4 a6 x y = 0) (h2 : ev a1 a2 a3 a4 a6 v w = 0) (hl : l * (v - x) = w - y) : SlG (cuQ a1 a2 a3 a4 a6) l x y v w := by
  refine ⟨by grind, ?_⟩
  show l * (y + w + a1 * v + a3) = x * x + x * v + v * v + a2 * (x + v) + a4 - a1 * y
  have n0 : x - v ≠ 0 := by grind
  have k : (x - v) * (l * (y + w + a1 * v + a3) - (x * x + x * v + v * v + a2 * (x + v) + a4 - a1 * y)) = ev a1 a2 a3 a4 a6 x y - ev a1 a2 a3 a4 a6 v w - (l * (v - x) - (w - y)) * (y + w + a1 * v + a3) := by
    unfold ev
    clear h1 h2 hl
    grind
  rw [h1, h2, hl] at k
  have k2 : (x - v) * (l * (y + w + a1 * v + a3) - (x * x + x * v + v * v + a2 * (x + v) + a4 - a1 * y)) = 0 := by
    rw [k]
    clear k h1 h2 hl
    grind
  rcases Rat.mul_eq_zero.mp k2 with z | z
  · exact absurd z n0
  · clear k k2 h1 h2 hl
    grind
theorem tan_rel (hl : l * (2 * y + a1 * x + a3) = 3 * x * x + 2 * a2 * x + a4 - a1 * y) : SlG (cuQ a1 a2 a3 a4 a6) l x y x y := by
  refine ⟨by grind, ?_⟩
  show l * (y + y + a1 * x + a3) = x * x + x * x + x * x + a2 * (x + x) + a4 - a1 * y
  grind
theorem slQ_chord (h : x ≠ v) : slQ a1 a2 a3 a4 x y v w * (v - x) = w - y := by
  unfold slQ
  rw [if_neg h]
  exact Rat.div_mul_cancel (by grind)
theorem slQ_tan (h : 2 * y + a1 * x + a3 ≠ 0) : slQ a1 a2 a3 a4 x y x w * (2 * y + a1 * x + a3) = 3 * x * x + 2 * a2 * x + a4 - a1 * y := by
  unfold slQ
  rw [if_pos rfl]
  exact Rat.div_mul_cancel h
theorem adQ_sm {P Q : Pq} (hP : OnQ a1 a2 a3 a4 a6 P) (hQ : OnQ a1 a2 a3 a4 a6 Q) : SmG (cuQ a1 a2 a3 a4 a6) P Q (adQ a1 a2 a3 a4 a6 P Q) := by
  rcases P with _ | ⟨x, y⟩
  · exact .n0 _
  rcases Q with _ | ⟨v, w⟩
  · exact .n1 _
  rw [adQ_ss]
  by_cases ho : x = v ∧ y + w + a1 * x + a3 = 0
  · rw [if_pos ho]
    exact .op ho
  · rw [if_neg ho]
    have k : SlG (cuQ a1 a2 a3 a4 a6) (slQ a1 a2 a3 a4 x y v w) x y v w := by
      by_cases hx : x = v
      · subst hx
        have hn : ¬ y + w + a1 * x + a3 = 0 := fun z => ho ⟨rfl, z⟩
        have e := same_y hP hQ hn
        subst e
        exact tan_rel (slQ_tan (by grind))
      · exact chord_rel hx hP hQ (slQ_chord hx)
    have r := SmG.ln (c := cuQ a1 a2 a3 a4 a6) ho k
    rw [fx_gx, fy_gy] at r
    exact r
theorem adQ_on {P Q : Pq} (hP : OnQ a1 a2 a3 a4 a6 P) (hQ : OnQ a1 a2 a3 a4 a6 Q) : OnQ a1 a2 a3 a4 a6 (adQ a1 a2 a3 a4 a6 P Q) := of_onO ((adQ_sm hP hQ).on (onO_of hP) (onO_of hQ))
theorem Sz.hneg {E : Int} {e : Nat} (h : Sz E e a1 a2 a3 a4 a6 x y) (he : 1 ≤ e) : hz (y + a1 * x + a3) ≤ 3 * e + 4 := by
  have t1 : Wn E (3 * e) 3 (a1 * x) := (h.A1.mul h.X).mono (by omega)
  have t2 : Wn E (3 * e + 1) 3 a3 := Wn.to h.hE h.A3 (by decide) (by omega)
  exact Wn.hz h.E0 h.hE ((h.Y.add t1).add (t2.mono (by omega))) (by omega) (by omega)
def OkQ (a1 a2 a3 a4 a6 : Rat) (e : Nat) : Pq → Prop
  | none => True
  | some (x, y) => ev a1 a2 a3 a4 a6 x y = 0 ∧ ∃ E, Sz E e a1 a2 a3 a4 a6 x y
theorem OkQ.on {e : Nat} {P : Pq} (h : OkQ a1 a2 a3 a4 a6 e P) : OnQ a1 a2 a3 a4 a6 P := by
  rcases P with _ | ⟨x, y⟩
  · trivial
  · exact h.1
theorem OkQ.mono {e f : Nat} {P : Pq} (h : OkQ a1 a2 a3 a4 a6 e P) (k : e ≤ f) : OkQ a1 a2 a3 a4 a6 f P := by
  rcases P with _ | ⟨x, y⟩
  · trivial
  · obtain ⟨h1, E, h2⟩ := h
    exact ⟨h1, E, h2.mono k⟩
theorem OkQ.slope {e f : Nat} (he : 1 ≤ e) (hf : 1 ≤ f) (hP : OkQ a1 a2 a3 a4 a6 e (some (x, y))) (hQ : OkQ a1 a2 a3 a4 a6 f (some (v, w))) (ho : ¬ (x = v ∧ y + w + a1 * x + a3 = 0)) :
    (∃ G, Sz G (2 * (e + f) + 8) a1 a2 a3 a4 a6 (fx a1 a2 (slQ a1 a2 a3 a4 x y v w) x v) (fy a1 a3 (slQ a1 a2 a3 a4 x y v w) x y (fx a1 a2 (slQ a1 a2 a3 a4 x y v w) x v))) ∧ hz (slQ a1 a2 a3 a4 x y v w) ≤ 3 * (e + f) + 6 := by
  obtain ⟨h1, E, p⟩ := hP
  obtain ⟨h2, F, q⟩ := hQ
  by_cases hx : x = v
  · subst hx
    have hn : ¬ y + w + a1 * x + a3 = 0 := fun z => ho ⟨rfl, z⟩
    have e0 := same_y h1 h2 hn
    subst e0
    have hd : 2 * y + a1 * x + a3 ≠ 0 := by grind
    by_cases hef : e ≤ f
    · obtain ⟨⟨G, g⟩, k⟩ := p.tan hd (slQ_tan (w := y) hd) he
      exact ⟨⟨G, g.mono (by omega)⟩, by omega⟩
    · obtain ⟨⟨G, g⟩, k⟩ := q.tan hd (slQ_tan (w := y) hd) hf
      exact ⟨⟨G, g.mono (by omega)⟩, by omega⟩
  · obtain ⟨⟨G, g⟩, k⟩ := p.chord q h1 h2 hx (slQ_chord hx)
    exact ⟨⟨G, g.mono (by omega)⟩, by omega⟩
theorem OkQ.add {e f g : Nat} (he : 1 ≤ e) (hf : 1 ≤ f) {P Q : Pq} (hP : OkQ a1 a2 a3 a4 a6 e P) (hQ : OkQ a1 a2 a3 a4 a6 f Q) (hg : 2 * (e + f) + 8 ≤ g) : OkQ a1 a2 a3 a4 a6 g (adQ a1 a2 a3 a4 a6 P Q) := by
  rcases P with _ | ⟨x, y⟩
  · exact hQ.mono (by omega)
  rcases Q with _ | ⟨v, w⟩
  · exact hP.mono (by omega)
  have ho := adQ_on hP.on hQ.on
  rw [adQ_ss] at ho ⊢
  by_cases hh : x = v ∧ y + w + a1 * x + a3 = 0
  · rw [if_pos hh]
    trivial
  · rw [if_neg hh] at ho ⊢
    obtain ⟨⟨G, k⟩, _⟩ := OkQ.slope he hf hP hQ hh
    exact ⟨ho, G, k.mono hg⟩
end
end CW
end
section
set_option maxRecDepth 100000
set_option maxHeartbeats 2000000
namespace CW
section
variable {F : Type} [Lean.Grind.CommRing F]
def tb1 (a1 s : F) : F := a1 + 2 * s
def tb2 (a1 a2 r s : F) : F := a2 - s * a1 + 3 * r - s * s
def tb3 (a1 a3 r t : F) : F := a3 + r * a1 + 2 * t
def tb4 (a1 a2 a3 a4 r s t : F) : F := a4 - s * a3 + 2 * r * a2 - t * a1 - r * s * a1 + 3 * r * r - 2 * s * t
def tb6 (a1 a2 a3 a4 a6 r t : F) : F := a6 + r * a4 + r * r * a2 + r * r * r - t * a3 - t * t - r * t * a1
/-- the led point -/
def lpt (i r s t : F) : Option (F × F) → Option (F × F)
  | none => none
  | some (x, y) => some ((x - r) * i * i, (y - s * (x - r) - t) * i * i * i)
variable {c : CuG F} {i U r s t x y v w l : F} {P Q S : Option (F × F)}
end
end CW
end
section
set_option maxRecDepth 100000
set_option maxHeartbeats 2000000
namespace CW
end CW
end
section
set_option maxRecDepth 100000
set_option maxHeartbeats 2000000
namespace CW
end CW
end
section
set_option maxRecDepth 100000
set_option maxHeartbeats 2000000
namespace CW
end CW
end
section
set_option maxRecDepth 100000
set_option maxHeartbeats 2000000
namespace CW
open PySem PySem.Spec PyProof.Rows L2
end CW
end
section
set_option maxRecDepth 100000
set_option maxHeartbeats 2000000
namespace CW
open PySem PySem.Spec PyProof.Rows L2
/-- a prime divides a fraction n times or more -/
def Ge (p : Int) (q : Rat) (n : Nat) : Prop := ∃ a b : Int, ¬ p ∣ b ∧ q * (b : Rat) = ((a * p ^ n : Int) : Rat)
section
variable {p : Int} {q r x y z : Rat} {n m k l : Nat}
theorem Pm.n1 (hp : Pm p) : ¬ p ∣ 1 := fun h => by
  have := hp.1
  have := Int.le_of_dvd (by decide) h
  omega
theorem Ge.nul (hp : Pm p) (n : Nat) : Ge p 0 n := ⟨0, 1, hp.n1, by rw [Int.zero_mul, Rat.zero_mul]; rfl⟩
theorem Ge.int (hp : Pm p) (i : Int) : Ge p (i : Rat) 0 := ⟨i, 1, hp.n1, by rw [Int.pow_zero, Int.mul_one]; exact Rat.mul_one _⟩
theorem Ge.mono (h : Ge p q n) (hm : m ≤ n) : Ge p q m := by
  obtain ⟨a, b, h1, h2⟩ := h
  refine ⟨a * p ^ (n - m), b, h1, ?_⟩
  rw [h2, Int.mul_assoc, ← Int.pow_add, Nat.sub_add_cancel hm]
theorem Ge.add (hp : Pm p) (h : Ge p q n) (g : Ge p r n) : Ge p (q + r) n := by
  obtain ⟨a, b, h1, h2⟩ := h
  obtain ⟨c, d, g1, g2⟩ := g
  refine ⟨a * d + c * b, b * d, fun z => (hp.mul z).elim h1 g1, ?_⟩
  have e : ((a * d + c * b) * p ^ n : Int) = (a * p ^ n) * d + (c * p ^ n) * b := by grind
  rw [e, rc_add, rc_mul (a * p ^ n), rc_mul (c * p ^ n), ← h2, ← g2, rc_mul b d]
  grind
theorem Ge.mul (hp : Pm p) (h : Ge p q n) (g : Ge p r m) : Ge p (q * r) (n + m) := by
  obtain ⟨a, b, h1, h2⟩ := h
  obtain ⟨c, d, g1, g2⟩ := g
  refine ⟨a * c, b * d, fun z => (hp.mul z).elim h1 g1, ?_⟩
  have e : (a * c * p ^ (n + m) : Int) = (a * p ^ n) * (c * p ^ m) := by rw [Int.pow_add]; grind
  rw [e, rc_mul (a * p ^ n), ← h2, ← g2, rc_mul b d]
  grind
theorem Ge.m2 (hp : Pm p) (h : Ge p q n) (g : Ge p r m) (hk : k ≤ n + m := by omega) : Ge p (q * r) k := (h.mul hp g).mono hk
/-- the same by valuations -/
theorem VQ.ge (hp : Pm p) {v : Int} (h : VQ p q v) : Ge p q n ↔ (n : Int) ≤ v := by
  obtain ⟨k, l, a, b, ha, hb, e, rfl⟩ := h
  constructor
  · rintro ⟨c, d, h1, h2⟩
    have key : a * d * p ^ k = c * b * p ^ (n + l) := by
      have : ((a * d * p ^ k : Int) : Rat) = ((c * b * p ^ (n + l) : Int) : Rat) := by
        have e1 : (a * d * p ^ k : Int) = (a * p ^ k) * d := by grind
        have e2 : (c * b * p ^ (n + l) : Int) = (c * p ^ n) * (b * p ^ l) := by rw [Int.pow_add]; grind
        rw [e1, e2, Rat.intCast_mul, ← e, Rat.intCast_mul (c * p ^ n), ← h2]
        grind
      exact cast_inj this
    have had : ¬ p ∣ a * d := fun z => (hp.mul z).elim ha h1
    by_cases hle : n + l ≤ k
    · omega
    · exfalso
      have e3 : p ^ (n + l) = p ^ k * p ^ (n + l - k) := by rw [← Int.pow_add]; congr 1; omega
      rw [e3, show c * b * (p ^ k * p ^ (n + l - k)) = c * b * p ^ (n + l - k) * p ^ k by grind] at key
      have e4 := Int.eq_of_mul_eq_mul_right (pow_nz hp.1 k) key
      apply had
      rw [e4]
      obtain ⟨j, hj⟩ : ∃ j, n + l - k = j + 1 := ⟨n + l - k - 1, by omega⟩
      rw [hj, Int.pow_succ]
      exact ⟨c * b * p ^ j, by grind⟩
  · intro h
    obtain ⟨j, hj⟩ : ∃ j : Nat, k = n + l + j := ⟨k - (n + l), by omega⟩
    refine ⟨a * p ^ j, b, hb, ?_⟩
    have e1 : q * ((b : Int) : Rat) * ((p ^ l : Int) : Rat) = ((a * p ^ j * p ^ n : Int) : Rat) * ((p ^ l : Int) : Rat) := by
      rw [← Rat.intCast_mul, show (a * p ^ j * p ^ n * p ^ l : Int) = a * p ^ k by rw [hj, Int.pow_add, Int.pow_add]; grind, ← e, Rat.intCast_mul]
      grind
    have hnz : ((p ^ l : Int) : Rat) ≠ 0 := fun z => pow_nz hp.1 l (by exact_mod_cast z)
    generalize ((p ^ l : Int) : Rat) = c at *
    generalize ((a * p ^ j * p ^ n : Int) : Rat) = B at *
    generalize ((b : Int) : Rat) = bb at *
    grind
section
variable (p : Int) (a1 a2 a3 a4 a6 : Rat)
structure A5 (l1 l2 l3 l4 l6 : Nat) : Prop where
  h1 : Ge p a1 l1
  h2 : Ge p a2 l2
  h3 : Ge p a3 l3
  h4 : Ge p a4 l4
  h6 : Ge p a6 l6
end
section
variable {a1 a2 a3 a4 a6 : Rat} {l1 l2 l3 l4 l6 : Nat}
theorem A5.mono {k1 k2 k3 k4 k6 : Nat} (h : A5 p a1 a2 a3 a4 a6 l1 l2 l3 l4 l6) (h1 : k1 ≤ l1 := by omega) (h2 : k2 ≤ l2 := by omega) (h3 : k3 ≤ l3 := by omega) (h4 : k4 ≤ l4 := by omega) (h6 : k6 ≤ l6 := by omega) : A5 p a1 a2 a3 a4 a6 k1 k2 k3 k4 k6 :=
  ⟨h.h1.mono h1, h.h2.mono h2, h.h3.mono h3, h.h4.mono h4, h.h6.mono h6⟩
end
end
end CW
end
section
set_option maxRecDepth 100000
set_option maxHeartbeats 2000000
namespace CW
open PySem PySem.Spec PyProof.Rows L2
end CW
end
section
set_option maxRecDepth 100000
set_option maxHeartbeats 2000000
namespace CW
open PySem PySem.Spec PyProof.Rows L2
section
variable {p : Int} {q x y z w : Rat} {n m k : Nat}
theorem VQ.get (hp : Pm p) (h0 : q ≠ 0) : ∃ v, VQ p q v := by
  obtain ⟨k, hk⟩ := Vl.get hp.1 (n := q.num) fun z => h0 (Rat.num_eq_zero.mp z)
  have hd : (q.den : Int) ≠ 0 := by have := q.den_nz; omega
  obtain ⟨l, hl⟩ := Vl.get hp.1 hd
  exact ⟨_, VQ.of hd hk hl (num_den q)⟩
theorem VQ.inv (hp : Pm p) {v : Int} (h : VQ p q v) : VQ p q⁻¹ (-v) := by
  have hq := h.nz hp
  obtain ⟨k, l, a, b, ha, hb, e, rfl⟩ := h
  refine ⟨l, k, b, a, hb, ha, ?_, by omega⟩
  rw [← e]
  generalize ((b * p ^ l : Int) : Rat) = B
  grind
theorem Ge.inv (hp : Pm p) (h0 : q ≠ 0) (h : ¬ Ge p q 0) : Ge p q⁻¹ 1 := by
  obtain ⟨v, hv⟩ := VQ.get hp h0
  have : ¬ (((0 : Nat) : Int) ≤ v) := fun z => h ((hv.ge hp).mpr z)
  exact ((hv.inv hp).ge hp).mpr (by omega)
/-- what is left when another one is taken out -/
theorem Ge.can (hp : Pm p) (h : Ge p (x * y) (n + k)) (hx : ¬ Ge p x (k + 1)) : Ge p y n := by
  by_cases hy : y = 0
  · rw [hy]
    exact Ge.nul hp n
  have h0 : x ≠ 0 := fun z => hx (by rw [z]; exact Ge.nul hp _)
  obtain ⟨v, hv⟩ := VQ.get hp h0
  obtain ⟨u, hu⟩ := VQ.get hp hy
  have h1 := ((hv.mul hp hu).ge hp).mp h
  have h2 : ¬ (((k + 1 : Nat) : Int) ≤ v) := fun z => hx ((hv.ge hp).mpr z)
  exact (hu.ge hp).mpr (by omega)
theorem Ge.or1 (hp : Pm p) (h : Ge p (x * y) 1) : Ge p x 1 ∨ Ge p y 1 := by
  by_cases hx : Ge p x 1
  · exact .inl hx
  · exact .inr (Ge.can (k := 0) hp h hx)
theorem Ge.con (hp : Pm p) (h : Ge p x n) (g : Ge p (y - x) n) : Ge p y n := by
  have := g.add hp h
  rwa [show y - x + x = y by grind] at this
end
structure Sc (a1 a2 a3 a4 a6 v c1 c2 c3 c4 c6 : Rat) : Prop where
  e1 : c1 = a1 * v
  e2 : c2 = a2 * v ^ 2
  e3 : c3 = a3 * v ^ 3
  e4 : c4 = a4 * v ^ 4
  e6 : c6 = a6 * v ^ 6
def Un (p : Int) (v : Rat) : Prop := Ge p v 0 ∧ ¬ Ge p v 1
section
variable {p : Int} {a1 a2 a3 a4 a6 r s t v c1 c2 c3 c4 c6 : Rat} {n : Nat} {x : Rat}
theorem Un.nz (hp : Pm p) (h : Un p v) : v ≠ 0 := fun z => h.2 (by rw [z]; exact Ge.nul hp 1)
theorem Un.inv (hp : Pm p) (h : Un p v) : Un p v⁻¹ := by
  have h0 := h.nz hp
  obtain ⟨w, hw⟩ := VQ.get hp h0
  have h1 := (hw.ge hp).mp h.1
  have h2 : ¬ (((1 : Nat) : Int) ≤ w) := fun z => h.2 ((hw.ge hp).mpr z)
  have hi := hw.inv hp
  refine ⟨(hi.ge hp).mpr (by omega), fun z => ?_⟩
  have := (hi.ge hp).mp z
  omega
theorem Un.of (hp : Pm p) (h0 : v ≠ 0) (h1 : ¬ Ge p v 1) (h2 : ¬ Ge p v⁻¹ 1) : Un p v :=
  ⟨Classical.byContradiction fun z => h2 (Ge.inv hp h0 z), h1⟩
theorem Un.ge (hp : Pm p) (h : Un p v) : Ge p (x * v) n ↔ Ge p x n := by
  constructor
  · intro g
    rw [show x * v = v * x by grind] at g
    exact Ge.can (k := 0) hp g h.2
  · intro g
    exact g.m2 hp h.1
theorem Sc.symm (S : Sc a1 a2 a3 a4 a6 v c1 c2 c3 c4 c6) (hv : v ≠ 0) : Sc c1 c2 c3 c4 c6 v⁻¹ a1 a2 a3 a4 a6 := by
  obtain ⟨e1, e2, e3, e4, e6⟩ := S
  subst e1 e2 e3 e4 e6
  exact ⟨by grind, by grind, by grind, by grind, by grind⟩
end
end CW
end
section
set_option maxRecDepth 100000
set_option maxHeartbeats 2000000
namespace CW
open PySem PySem.Spec PyProof.Rows L2
section
variable {p : Int} {q x y : Rat} {n : Nat}
theorem ge_i (hp : Pm p) (x : Int) : Ge p (x : Rat) 1 ↔ p ∣ x := by
  constructor
  · rintro ⟨a, b, h1, h2⟩
    have e : x * b = a * p := by
      apply cast_inj
      rw [rc_mul, h2, Int.pow_one]
    rcases hp.mul (a := x) (b := b) ⟨a, by rw [e]; grind⟩ with z | z
    · exact z
    · exact absurd z h1
  · rintro ⟨k, rfl⟩
    exact ⟨k, 1, hp.n1, by rw [Int.pow_one, show k * p = p * k by grind]; exact Rat.mul_one _⟩
end
end CW
end
section
set_option maxRecDepth 100000
set_option maxHeartbeats 2000000
namespace CW
open PySem PySem.Spec PyProof.Rows L2
section
variable {p W : Int} {x : Rat} {n m i : Nat}
theorem ge_dvd (hp : Pm p) {A : Int} (h : Ge p (A : Rat) i) : p ^ i ∣ A := by
  obtain ⟨a, b, h1, h2⟩ := h
  have e : A * b = a * p ^ i := cast_inj (by rw [rc_mul, h2])
  have hc : Int.gcd (p ^ i) b = 1 := cop_pow (hp.cop h1) i
  exact dvd_of_cop (a := b) (b := A) hc ⟨a, by rw [Int.mul_comm b A, e]; grind⟩
end
end CW
end
section
set_option maxRecDepth 100000
set_option maxHeartbeats 2000000
namespace CW
open PySem PySem.Spec PyProof.Rows L2
end CW
end
section
set_option maxRecDepth 100000
set_option maxHeartbeats 2000000
namespace CW
open PySem PySem.Spec PyProof.Rows L2
end CW
end
section
set_option maxRecDepth 100000
set_option maxHeartbeats 2000000
namespace CW
open PySem PySem.Spec PyProof.Rows L2
theorem pr_mul5 {p : Int} (hp : Pm p) {a b : Int} (ha : ¬ p ∣ a) (hb : ¬ p ∣ b) : ¬ p ∣ a * b := fun z => by
  have h1 : Ge p ((a : Rat) * (b : Rat)) 1 := by
    rw [← rc_mul]
    exact (ge_i hp _).mpr z
  rcases Ge.or1 hp h1 with z | z
  · exact ha ((ge_i hp _).mp z)
  · exact hb ((ge_i hp _).mp z)
theorem pr_lit5 {p : Int} (hp : Pm p) (h5 : 5 ≤ p) : ¬ p ∣ 2 ∧ ¬ p ∣ 3 := ⟨fun z => by have := Int.le_of_dvd (by decide) z; omega, fun z => by have := Int.le_of_dvd (by decide) z; omega⟩
section
variable {p : Int} {x y z : Rat} {n m k : Nat}
theorem p5 (hp : Pm p) (h5 : 5 ≤ p) (a b : Nat) : ¬ p ∣ (2 ^ a * 3 ^ b : Int) := by
  obtain ⟨h2, h3⟩ := pr_lit5 hp h5
  have pw : ∀ {c : Int}, ¬ p ∣ c → ∀ j : Nat, ¬ p ∣ c ^ j := fun {c} hc j => by
    induction j with
    | zero => rw [Int.pow_zero]; exact hp.n1
    | succ j ih => rw [Int.pow_succ]; exact pr_mul5 hp ih hc
  exact pr_mul5 hp (pw h2 a) (pw h3 b)
variable {a1 a2 a3 a4 a6 : Rat} {i2 i4 i6 : Nat}
end
end CW
end
section
set_option maxRecDepth 100000
set_option maxHeartbeats 2000000
namespace CW
open PySem PySem.Spec PyProof.Rows L2
end CW
end
section
set_option maxRecDepth 100000
set_option maxHeartbeats 2000000
namespace CW
open PySem PySem.Spec PyProof.Rows L2
theorem par (x : Int) : ∃ y, x = 2 * y ∨ x = 2 * y + 1 := ⟨x / 2, by omega⟩
theorem pm2 : Pm 2 := ⟨by decide, fun d d1 hd => by
  have := Int.le_of_dvd (by decide) hd
  omega⟩
theorem pm3 : Pm 3 := ⟨by decide, fun d d1 hd => by
  have := Int.le_of_dvd (by decide) hd
  rcases (show d = 1 ∨ d = 2 ∨ d = 3 by omega) with rfl | rfl | rfl
  · exact .inl rfl
  · exact absurd hd (by decide)
  · exact .inr rfl⟩
theorem gd {a : Int} {n : Nat} (h : Ge 2 (a : Rat) n) : ∃ k, a = 2 ^ n * k := by
  obtain ⟨k, hk⟩ := ge_dvd pm2 h
  exact ⟨k, hk⟩
end CW
end
section
set_option maxRecDepth 100000
set_option maxHeartbeats 2000000
namespace CW
section
variable {E : Int} {e : Nat} {a1 a2 a3 a4 a6 x y i r s t : Rat}
/-- the two halves of what the program looks at -/
theorem Sz.off1 (h : Sz E e a1 a2 a3 a4 a6 x y) (he : 1 ≤ e) : hz (y * y + a1 * x * y + a3 * y) ≤ 6 * e + 6 := by
  have t2 : Wn E (3 * e + (3 * e) + 1) 6 (a3 * y) := Wn.to h.hE (h.A3.mul h.Y) (by omega) (by omega)
  have t0 : Wn E (6 * e) 6 (y * y) := (h.Y.mul h.Y).mono (by omega)
  have t1 : Wn E (6 * e) 6 (a1 * x * y) := ((h.A1.mul h.X).mul h.Y).mono (by omega)
  exact Wn.hz h.E0 h.hE ((t0.add t1).add (t2.mono (m := 6 * e + 1) (by omega))) (by omega) (by omega)
theorem Sz.off2 (h : Sz E e a1 a2 a3 a4 a6 x y) (he : 1 ≤ e) : hz (-(x * x * x) - a2 * x * x - a4 * x - a6) ≤ 6 * e + 9 := by
  have t0 : Wn E (6 * e) 6 (-(x * x * x)) := (((h.X.mul h.X).mul h.X).mono (by omega)).neg
  have t2 : Wn E (6 * e + 1) 6 (a2 * x * x) := Wn.to h.hE ((h.A2.mul h.X).mul h.X) (by omega) (by omega)
  have t4 : Wn E (6 * e + 1) 6 (a4 * x) := Wn.to h.hE (h.A4.mul h.X) (by omega) (by omega)
  have t6 : Wn E (6 * e + 1) 6 a6 := Wn.to h.hE h.A6 (by omega) (by omega)
  exact Wn.hz h.E0 h.hE ((((t0.mono (m := 6 * e + 1) (by omega)).sub t2).sub (t4.mono (by omega))).sub (t6.mono (by omega))) (by omega) (by omega)
end
end CW
end
section
set_option maxRecDepth 100000
set_option maxHeartbeats 2000000
open PySem PySem.Spec PyProof.Rows L2 CW
namespace CWL
def topS (i : Nat) : Stmt := PySem.Challenge.pw_cubicway_k65_whole_searches_told_otherwi.main.body.getD i (.Pass ⟨0, 0, 0, 0⟩)
abbrev st_is_number : Stmt := topS 10
abbrev N_is_number : List Str := ["thing"]
theorem sc_is_number : FnScope N_is_number ["thing"] (defScope st_is_number) := ⟨rfl, rfl, rfl, by decide +kernel, rfl, by decide +kernel, by decide +kernel⟩
abbrev st_common : Stmt := topS 11
abbrev N_common : List Str := ["one", "other"]
theorem sc_common : FnScope N_common ["one", "other"] (defScope st_common) := ⟨rfl, rfl, rfl, by decide +kernel, rfl, by decide +kernel, by decide +kernel⟩
abbrev st_is_fraction : Stmt := topS 12
abbrev N_is_fraction : List Str := ["thing"]
theorem sc_is_fraction : FnScope N_is_fraction ["thing"] (defScope st_is_fraction) := ⟨rfl, rfl, rfl, by decide +kernel, rfl, by decide +kernel, by decide +kernel⟩
abbrev st_pair_of : Stmt := topS 13
abbrev N_pair_of : List Str := ["a"]
theorem sc_pair_of : FnScope N_pair_of ["a"] (defScope st_pair_of) := ⟨rfl, rfl, rfl, by decide +kernel, rfl, by decide +kernel, by decide +kernel⟩
abbrev st_lowest : Stmt := topS 14
abbrev N_lowest : List Str := ["top", "bottom", "by"]
theorem sc_lowest : FnScope N_lowest ["top", "bottom"] (defScope st_lowest) := ⟨rfl, rfl, rfl, by decide +kernel, rfl, by decide +kernel, by decide +kernel⟩
abbrev st_fraction : Stmt := topS 15
abbrev N_fraction : List Str := ["top", "bottom"]
theorem sc_fraction : FnScope N_fraction ["top", "bottom"] (defScope st_fraction) := ⟨rfl, rfl, rfl, by decide +kernel, rfl, by decide +kernel, by decide +kernel⟩
abbrev st_sum_of_two : Stmt := topS 16
abbrev N_sum_of_two : List Str := ["a", "b", "top", "bottom", "other", "under"]
theorem sc_sum_of_two : FnScope N_sum_of_two ["a", "b"] (defScope st_sum_of_two) := ⟨rfl, rfl, rfl, by decide +kernel, rfl, by decide +kernel, by decide +kernel⟩
abbrev st_product : Stmt := topS 17
abbrev N_product : List Str := ["a", "b", "top", "bottom", "other", "under"]
theorem sc_product : FnScope N_product ["a", "b"] (defScope st_product) := ⟨rfl, rfl, rfl, by decide +kernel, rfl, by decide +kernel, by decide +kernel⟩
abbrev st_turned : Stmt := topS 18
abbrev N_turned : List Str := ["a"]
theorem sc_turned : FnScope N_turned ["a"] (defScope st_turned) := ⟨rfl, rfl, rfl, by decide +kernel, rfl, by decide +kernel, by decide +kernel⟩
abbrev st_quotient : Stmt := topS 19
abbrev N_quotient : List Str := ["a", "b", "top", "bottom"]
theorem sc_quotient : FnScope N_quotient ["a", "b"] (defScope st_quotient) := ⟨rfl, rfl, rfl, by decide +kernel, rfl, by decide +kernel, by decide +kernel⟩
abbrev st_summed : Stmt := topS 21
abbrev N_summed : List Str := ["rows", "found", "row", "much", "one"]
theorem sc_summed : FnScope N_summed ["rows"] (defScope st_summed) := ⟨rfl, rfl, rfl, by decide +kernel, rfl, by decide +kernel, by decide +kernel⟩
abbrev st_halves_of : Stmt := topS 22
abbrev N_halves_of : List Str := ["five", "a1", "a2", "a3", "a4", "a6", "b2", "b4", "b8"]
theorem sc_halves_of : FnScope N_halves_of ["five"] (defScope st_halves_of) := ⟨rfl, rfl, rfl, by decide +kernel, rfl, by decide +kernel, by decide +kernel⟩
abbrev st_d_of : Stmt := topS 23
abbrev N_d_of : List Str := ["five", "b2", "b4", "b6", "b8"]
theorem sc_d_of : FnScope N_d_of ["five"] (defScope st_d_of) := ⟨rfl, rfl, rfl, by decide +kernel, rfl, by decide +kernel, by decide +kernel⟩
abbrev st_is_curve : Stmt := topS 24
abbrev N_is_curve : List Str := ["thing", "one"]
theorem sc_is_curve : FnScope N_is_curve ["thing"] (defScope st_is_curve) := ⟨rfl, rfl, rfl, by decide +kernel, rfl, by decide +kernel, by decide +kernel⟩
abbrev st_need_curve : Stmt := topS 25
abbrev N_need_curve : List Str := ["curve"]
theorem sc_need_curve : FnScope N_need_curve ["curve"] (defScope st_need_curve) := ⟨rfl, rfl, rfl, by decide +kernel, rfl, by decide +kernel, by decide +kernel⟩
abbrev st_own_invariants : Stmt := topS 26
abbrev N_own_invariants : List Str := ["curve", "b2", "b4", "b6", "b8", "c4", "c6"]
theorem sc_own_invariants : FnScope N_own_invariants ["curve"] (defScope st_own_invariants) := ⟨rfl, rfl, rfl, by decide +kernel, rfl, by decide +kernel, by decide +kernel⟩
abbrev st_invariants : Stmt := topS 27
abbrev N_invariants : List Str := ["curve"]
theorem sc_invariants : FnScope N_invariants ["curve"] (defScope st_invariants) := ⟨rfl, rfl, rfl, by decide +kernel, rfl, by decide +kernel, by decide +kernel⟩
abbrev st_off_by : Stmt := topS 28
abbrev N_off_by : List Str := ["five", "x", "y", "a1", "a2", "a3", "a4", "a6", "left"]
theorem sc_off_by : FnScope N_off_by ["five", "x", "y"] (defScope st_off_by) := ⟨rfl, rfl, rfl, by decide +kernel, rfl, by decide +kernel, by decide +kernel⟩
abbrev st_is_pair : Stmt := topS 29
abbrev N_is_pair : List Str := ["thing"]
theorem sc_is_pair : FnScope N_is_pair ["thing"] (defScope st_is_pair) := ⟨rfl, rfl, rfl, by decide +kernel, rfl, by decide +kernel, by decide +kernel⟩
abbrev st_lies_on : Stmt := topS 30
abbrev N_lies_on : List Str := ["curve", "thing"]
theorem sc_lies_on : FnScope N_lies_on ["curve", "thing"] (defScope st_lies_on) := ⟨rfl, rfl, rfl, by decide +kernel, rfl, by decide +kernel, by decide +kernel⟩
abbrev st_is_change : Stmt := topS 32
abbrev N_is_change : List Str := ["thing", "one"]
theorem sc_is_change : FnScope N_is_change ["thing"] (defScope st_is_change) := ⟨rfl, rfl, rfl, by decide +kernel, rfl, by decide +kernel, by decide +kernel⟩
abbrev st_need_change : Stmt := topS 33
abbrev N_need_change : List Str := ["change"]
theorem sc_need_change : FnScope N_need_change ["change"] (defScope st_need_change) := ⟨rfl, rfl, rfl, by decide +kernel, rfl, by decide +kernel, by decide +kernel⟩
abbrev st_by_power : Stmt := topS 34
abbrev N_by_power : List Str := ["a", "u", "many", "turn"]
theorem sc_by_power : FnScope N_by_power ["a", "u", "many"] (defScope st_by_power) := ⟨rfl, rfl, rfl, by decide +kernel, rfl, by decide +kernel, by decide +kernel⟩
abbrev st_own_led : Stmt := topS 35
abbrev N_own_led : List Str := ["curve", "change", "a1", "a2", "a3", "a4", "a6", "u", "r", "s", "t", "second", "fourth", "sixth", "some", "one", "many"]
theorem sc_own_led : FnScope N_own_led ["curve", "change"] (defScope st_own_led) := ⟨rfl, rfl, rfl, by decide +kernel, rfl, by decide +kernel, by decide +kernel⟩
abbrev st_led : Stmt := topS 36
abbrev N_led : List Str := ["curve", "change"]
theorem sc_led : FnScope N_led ["curve", "change"] (defScope st_led) := ⟨rfl, rfl, rfl, by decide +kernel, rfl, by decide +kernel, by decide +kernel⟩
abbrev st_own_led_point : Stmt := topS 37
abbrev N_own_led_point : List Str := ["point", "change", "x", "y", "u", "r", "s", "t", "tall"]
theorem sc_own_led_point : FnScope N_own_led_point ["point", "change"] (defScope st_own_led_point) := ⟨rfl, rfl, rfl, by decide +kernel, rfl, by decide +kernel, by decide +kernel⟩
abbrev st_led_point : Stmt := topS 38
abbrev N_led_point : List Str := ["curve", "point", "change"]
theorem sc_led_point : FnScope N_led_point ["curve", "point", "change"] (defScope st_led_point) := ⟨rfl, rfl, rfl, by decide +kernel, rfl, by decide +kernel, by decide +kernel⟩
abbrev st_root_below : Stmt := topS 41
abbrev N_root_below : List Str := ["number", "root_so_far", "nearer"]
theorem sc_root_below : FnScope N_root_below ["number"] (defScope st_root_below) := ⟨rfl, rfl, rfl, by decide +kernel, rfl, by decide +kernel, by decide +kernel⟩
abbrev st_own_root : Stmt := topS 42
abbrev N_own_root : List Str := ["number", "found"]
theorem sc_own_root : FnScope N_own_root ["number"] (defScope st_own_root) := ⟨rfl, rfl, rfl, by decide +kernel, rfl, by decide +kernel, by decide +kernel⟩
abbrev st_together_of : Stmt := topS 44
abbrev N_together_of : List Str := ["things", "found", "thing"]
theorem sc_together_of : FnScope N_together_of ["things"] (defScope st_together_of) := ⟨rfl, rfl, rfl, by decide +kernel, rfl, by decide +kernel, by decide +kernel⟩
abbrev st_is_on : Stmt := topS 45
abbrev N_is_on : List Str := ["curve", "thing", "one", "a1", "a2", "a3", "a4", "a6", "x", "y", "left", "right"]
theorem sc_is_on : FnScope N_is_on ["curve", "thing"] (defScope st_is_on) := ⟨rfl, rfl, rfl, by decide +kernel, rfl, by decide +kernel, by decide +kernel⟩
abbrev st_need_point : Stmt := topS 46
abbrev N_need_point : List Str := ["curve", "thing"]
theorem sc_need_point : FnScope N_need_point ["curve", "thing"] (defScope st_need_point) := ⟨rfl, rfl, rfl, by decide +kernel, rfl, by decide +kernel, by decide +kernel⟩
abbrev st_opposite_of : Stmt := topS 47
abbrev N_opposite_of : List Str := ["curve", "point", "x", "y"]
theorem sc_opposite_of : FnScope N_opposite_of ["curve", "point"] (defScope st_opposite_of) := ⟨rfl, rfl, rfl, by decide +kernel, rfl, by decide +kernel, by decide +kernel⟩
abbrev st_slope_of : Stmt := topS 48
abbrev N_slope_of : List Str := ["curve", "one", "other", "a1", "a2", "a3", "a4", "a6", "x", "y", "far", "high", "top"]
theorem sc_slope_of : FnScope N_slope_of ["curve", "one", "other"] (defScope st_slope_of) := ⟨rfl, rfl, rfl, by decide +kernel, rfl, by decide +kernel, by decide +kernel⟩
abbrev st_sum_on : Stmt := topS 49
abbrev N_sum_on : List Str := ["curve", "one", "other", "a1", "a2", "a3", "a4", "a6", "slope", "x", "y"]
theorem sc_sum_on : FnScope N_sum_on ["curve", "one", "other"] (defScope st_sum_on) := ⟨rfl, rfl, rfl, by decide +kernel, rfl, by decide +kernel, by decide +kernel⟩
abbrev st_opposite : Stmt := topS 50
abbrev N_opposite : List Str := ["curve", "point"]
theorem sc_opposite : FnScope N_opposite ["curve", "point"] (defScope st_opposite) := ⟨rfl, rfl, rfl, by decide +kernel, rfl, by decide +kernel, by decide +kernel⟩
abbrev st_added : Stmt := topS 51
abbrev N_added : List Str := ["curve", "one", "other"]
theorem sc_added : FnScope N_added ["curve", "one", "other"] (defScope st_added) := ⟨rfl, rfl, rfl, by decide +kernel, rfl, by decide +kernel, by decide +kernel⟩
abbrev st_need_whole : Stmt := topS 54
abbrev N_need_whole : List Str := ["curve", "a"]
theorem sc_need_whole : FnScope N_need_whole ["curve"] (defScope st_need_whole) := ⟨rfl, rfl, rfl, by decide +kernel, rfl, by decide +kernel, by decide +kernel⟩
abbrev st_need_bound : Stmt := topS 55
abbrev N_need_bound : List Str := ["bound"]
theorem sc_need_bound : FnScope N_need_bound ["bound"] (defScope st_need_bound) := ⟨rfl, rfl, rfl, by decide +kernel, rfl, by decide +kernel, by decide +kernel⟩
abbrev st_divisor : Stmt := topS 56
abbrev N_divisor : List Str := ["a", "b", "one", "other"]
theorem sc_divisor : FnScope N_divisor ["a", "b"] (defScope st_divisor) := ⟨rfl, rfl, rfl, by decide +kernel, rfl, by decide +kernel, by decide +kernel⟩
abbrev st_points_at : Stmt := topS 57
abbrev N_points_at : List Str := ["curve", "halves", "a", "d", "a1", "a2", "a3", "a4", "a6", "b2", "b4", "b6", "high", "middle", "tops", "top"]
theorem sc_points_at : FnScope N_points_at ["curve", "halves", "a", "d"] (defScope st_points_at) := ⟨rfl, rfl, rfl, by decide +kernel, rfl, by decide +kernel, by decide +kernel⟩
abbrev st_sides : Stmt := topS 58
abbrev N_sides : List Str := ["bound", "found", "d", "a"]
theorem sc_sides : FnScope N_sides ["bound"] (defScope st_sides) := ⟨rfl, rfl, rfl, by decide +kernel, rfl, by decide +kernel, by decide +kernel⟩
abbrev st_all_to : Stmt := topS 59
abbrev N_all_to : List Str := ["curve", "bound", "found", "halves", "worth", "a", "d"]
theorem sc_all_to : FnScope N_all_to ["curve", "bound"] (defScope st_all_to) := ⟨rfl, rfl, rfl, by decide +kernel, rfl, by decide +kernel, by decide +kernel⟩
abbrev st_search : Stmt := topS 60
abbrev N_search : List Str := ["curve", "bound"]
theorem sc_search : FnScope N_search ["curve", "bound"] (defScope st_search) := ⟨rfl, rfl, rfl, by decide +kernel, rfl, by decide +kernel, by decide +kernel⟩
abbrev st_Lmixed : Stmt := topS 62
abbrev N_Lmixed : List Str := ["_law_cell", "_law_k", "_law_prime"]
theorem sc_Lmixed : FnScope N_Lmixed ["_law_cell", "_law_k"] (defScope st_Lmixed) := ⟨rfl, rfl, rfl, by decide +kernel, rfl, by decide +kernel, by decide +kernel⟩
abbrev st_Ldraw : Stmt := topS 63
abbrev N_Ldraw : List Str := ["_law_script", "_law_k", "_law_cells", "_law_cell"]
theorem sc_Ldraw : FnScope N_Ldraw ["_law_script", "_law_k"] (defScope st_Ldraw) := ⟨rfl, rfl, rfl, by decide +kernel, rfl, by decide +kernel, by decide +kernel⟩
abbrev st_Lnext : Stmt := topS 64
abbrev N_Lnext : List Str := ["_law_draw_here", "_law_many", "_law_found", "_law_cell"]
theorem sc_Lnext : FnScope N_Lnext ["_law_draw_here", "_law_many"] (defScope st_Lnext) := ⟨rfl, rfl, rfl, by decide +kernel, rfl, by decide +kernel, by decide +kernel⟩
abbrev st_Ld : Stmt := topS 65
abbrev N_Ld : List Str := ["_law_five", "_law_a1", "_law_a2", "_law_a3", "_law_a4", "_law_a6", "_law_b2", "_law_b4", "_law_b6", "_law_b8", "_law_found"]
theorem sc_Ld : FnScope N_Ld ["_law_five"] (defScope st_Ld) := ⟨rfl, rfl, rfl, by decide +kernel, rfl, by decide +kernel, by decide +kernel⟩
abbrev st_Llow : Stmt := topS 66
abbrev N_Llow : List Str := ["_law_three", "_law_x", "_law_y", "_law_found"]
theorem sc_Llow : FnScope N_Llow ["_law_three", "_law_x", "_law_y"] (defScope st_Llow) := ⟨rfl, rfl, rfl, by decide +kernel, rfl, by decide +kernel, by decide +kernel⟩
abbrev st_Lthrough : Stmt := topS 67
abbrev N_Lthrough : List Str := ["_law_draw_here", "_law_size", "_law_turn", "_law_three", "_law_part", "_law_x", "_law_y", "_law_high", "_law_far", "_law_low_here", "_law_top", "_law_a4", "_law_five"]
theorem sc_Lthrough : FnScope N_Lthrough ["_law_draw_here", "_law_size"] (defScope st_Lthrough) := ⟨rfl, rfl, rfl, by decide +kernel, rfl, by decide +kernel, by decide +kernel⟩
abbrev st_Lworth : Stmt := topS 68
abbrev N_Lworth : List Str := ["_law_a"]
theorem sc_Lworth : FnScope N_Lworth ["_law_a"] (defScope st_Lworth) := ⟨rfl, rfl, rfl, by decide +kernel, rfl, by decide +kernel, by decide +kernel⟩
abbrev st_Lheight : Stmt := topS 69
abbrev N_Lheight : List Str := ["_law_point", "_law_top", "_law_bottom"]
theorem sc_Lheight : FnScope N_Lheight ["_law_point"] (defScope st_Lheight) := ⟨rfl, rfl, rfl, by decide +kernel, rfl, by decide +kernel, by decide +kernel⟩
abbrev st_law : Stmt := topS 70
abbrev N_law : List Str := ["_law_script", "_law_k", "_law_draw_here", "_law_five", "_law_points", "_law_far", "_law_change_so", "_law_found", "_law_other", "_law_moved", "_law_point", "_law_due", "_law_turn", "_law_one", "_law_two", "_law_both"]
theorem sc_law : FnScope N_law ["_law_script"] (defScope st_law) := ⟨rfl, rfl, rfl, by decide +kernel, rfl, by decide +kernel, by decide +kernel⟩
def c_FAR : P := .int 200
def c_SQUARES : P := .int 129859329600
def hw_fraction_0 {α : Type} : List α → List α → α → List α := fun us ws d => match us, ws with
  | [u0, u1], [] => [u0, u1]
  | _, _ => []
def gw_fraction_0 : List D → List D → List D := fun ds es => hw_fraction_0 ds es (.p (.int 1))
@[simp] theorem gw_fraction_0_ev (u0 u1 : D) : gw_fraction_0 [u0, u1] [] = [u0, u1] := rfl
noncomputable def B_is_number : SF := (retF ((andE ((calE isiD [vE 0, cE (.ty "int")])) (notE ((calE isiD [vE 0, cE (.ty "bool")]))))))
noncomputable def m_is_number : List D → M D := defM 1 1 B_is_number
noncomputable def B_common : SF := (seqF (whF (tB (op2 (eqD true) (vE 1) (cE (.int 0)))) (parF 0 1 [vE 1, (op2 (modD) (vE 0) (vE 1))])) (retF ((calE absD [vE 0]))))
noncomputable def m_common : List D → M D := defM 2 2 B_common
noncomputable def B_is_fraction : SF := (seqF (iffF (notT (tT ((calE isiD [vE 0, cE (.ty "tuple")])))) (retF ((calE m_is_number [vE 0]))) nopF) (seqF (iffF (orT (tB (op2 (eqD true) ((calE lenD [vE 0])) (cE (.int 2)))) (orT (notT (tT ((calE m_is_number [(op2 ixD (vE 0) (cE (.int 0)))])))) (notT (tT ((calE m_is_number [(op2 ixD (vE 0) (cE (.int 1)))])))))) (retF (cE (.bl false))) nopF) (retF ((andE ((op2 (gtD) ((op2 ixD (vE 0) (cE (.int 1)))) (cE (.int 1)))) (op2 (eqD false) ((calE m_common [(op2 ixD (vE 0) (cE (.int 0))), (op2 ixD (vE 0) (cE (.int 1)))])) (cE (.int 1))))))))
noncomputable def m_is_fraction : List D → M D := defM 1 1 B_is_fraction
noncomputable def B_pair_of : SF := (retF ((ifE ((tT ((calE isiD [vE 0, cE (.ty "tuple")])))) (vE 0) ((tupE [vE 0, cE (.int 1)])))))
noncomputable def m_pair_of : List D → M D := defM 1 1 B_pair_of
noncomputable def B_lowest : SF := (seqF (asgF ((ifE ((tB (op2 (gtD) (vE 1) (cE (.int 0))))) ((calE m_common [vE 0, vE 1])) ((op1 negD ((calE m_common [vE 0, vE 1])))))) (setG 2)) (retF ((ifE ((tB (op2 (eqD false) ((op2 (divD) (vE 1) (vE 2))) (cE (.int 1))))) ((op2 (divD) (vE 0) (vE 2))) ((tupE [(op2 (divD) (vE 0) (vE 2)), (op2 (divD) (vE 1) (vE 2))]))))))
noncomputable def m_lowest : List D → M D := defM 2 3 B_lowest
noncomputable def B_fraction : SF := (seqF (iffF (orT (notT (tT ((calE m_is_number [vE 0])))) (notT (tT ((calE m_is_number [vE 1]))))) noF nopF) (seqF (iffF (tB (op2 (eqD false) (vE 1) (cE (.int 0)))) noF nopF) (retF ((calE m_lowest [vE 0, vE 1])))))
noncomputable def m_fraction : List D → M D := defM 2 2 B_fraction
noncomputable def B_sum_of_two : SF := (seqF (tasF [(calE m_pair_of [vE 0]), (calE m_pair_of [vE 1])] (consT (tupG 2 (consG (setG 2) (consG (setG 3) nilG))) (consT (tupG 2 (consG (setG 4) (consG (setG 5) nilG))) nilT))) (retF ((calE m_lowest [(op2 (addD true) ((op2 (mulD true) (vE 2) (vE 5))) ((op2 (mulD true) (vE 4) (vE 3)))), (op2 (mulD true) (vE 3) (vE 5))]))))
noncomputable def m_sum_of_two : List D → M D := defM 2 6 B_sum_of_two
noncomputable def B_product : SF := (seqF (tasF [(calE m_pair_of [vE 0]), (calE m_pair_of [vE 1])] (consT (tupG 2 (consG (setG 2) (consG (setG 3) nilG))) (consT (tupG 2 (consG (setG 4) (consG (setG 5) nilG))) nilT))) (retF ((calE m_lowest [(op2 (mulD true) (vE 2) (vE 4)), (op2 (mulD true) (vE 3) (vE 5))]))))
noncomputable def m_product : List D → M D := defM 2 6 B_product
noncomputable def B_turned : SF := (retF ((calE m_product [(op1 negD (cE (.int 1))), vE 0])))
noncomputable def m_turned : List D → M D := defM 1 1 B_turned
noncomputable def B_quotient : SF := (seqF (asgF ((calE m_pair_of [vE 1])) (tupG 2 (consG (setG 2) (consG (setG 3) nilG)))) (retF ((calE m_product [vE 0, (calE m_lowest [vE 3, vE 2])]))))
noncomputable def m_quotient : List D → M D := defM 2 4 B_quotient
noncomputable def B_summed : SF := (seqF (asgF (cE (.int 0)) (setG 1)) (seqF (forF (rowI (vE 0)) (setG 2) (seqF (asgF (cE (.int 1)) (setG 3)) (seqF (forF (rowI (vE 2)) (setG 4) (asgF ((calE m_product [vE 3, vE 4])) (setG 3))) (asgF ((calE m_sum_of_two [vE 1, vE 3])) (setG 1))))) (retF (vE 1))))
noncomputable def m_summed : List D → M D := defM 1 5 B_summed
noncomputable def B_halves_of : SF := (seqF (asgF (vE 0) (tupG 5 (consG (setG 1) (consG (setG 2) (consG (setG 3) (consG (setG 4) (consG (setG 5) nilG))))))) (seqF (parF 6 7 [(calE m_summed [(lstE [(tupE [vE 1, vE 1]), (tupE [cE (.int 4), vE 2])])]), (calE m_summed [(lstE [(tupE [cE (.int 2), vE 4]), (tupE [vE 1, vE 3])])])]) (seqF (asgF ((calE m_summed [(lstE [(tupE [vE 1, vE 1, vE 5]), (tupE [cE (.int 4), vE 2, vE 5]), (tupE [(op1 negD (cE (.int 1))), vE 1, vE 3, vE 4]), (tupE [vE 2, vE 3, vE 3]), (tupE [(op1 negD (cE (.int 1))), vE 4, vE 4])])])) (setG 8)) (retF ((tupE [vE 6, vE 7, (calE m_summed [(lstE [(tupE [vE 3, vE 3]), (tupE [cE (.int 4), vE 5])])]), vE 8]))))))
noncomputable def m_halves_of : List D → M D := defM 1 9 B_halves_of
noncomputable def B_d_of : SF := (seqF (asgF ((calE m_halves_of [vE 0])) (tupG 4 (consG (setG 1) (consG (setG 2) (consG (setG 3) (consG (setG 4) nilG)))))) (retF ((calE m_summed [(lstE [(tupE [cE (.int 9), vE 1, vE 2, vE 3]), (tupE [(op1 negD (cE (.int 1))), vE 1, vE 1, vE 4]), (tupE [(op1 negD (cE (.int 8))), vE 2, vE 2, vE 2]), (tupE [(op1 negD (cE (.int 27))), vE 3, vE 3])])]))))
noncomputable def m_d_of : List D → M D := defM 1 5 B_d_of
noncomputable def B_is_curve : SF := (seqF (iffF (orT (notT (tT ((calE isiD [vE 0, cE (.ty "tuple")])))) (orT (tB (op2 (eqD true) ((calE lenD [vE 0])) (cE (.int 5)))) (notT (tT ((calE allD [(lcE true (rowI (vE 0)) [1] (setG 1) yesT ((calE m_is_fraction [vE 1])))])))))) (retF (cE (.bl false))) nopF) (retF ((op2 (eqD true) ((calE m_d_of [vE 0])) (cE (.int 0))))))
noncomputable def m_is_curve : List D → M D := defM 1 2 B_is_curve
noncomputable def B_need_curve : SF := (iffF (notT (tT ((calE m_is_curve [vE 0])))) noF nopF)
noncomputable def m_need_curve : List D → M D := defM 1 1 B_need_curve
noncomputable def B_own_invariants : SF := (seqF (asgF ((calE m_halves_of [vE 0])) (tupG 4 (consG (setG 1) (consG (setG 2) (consG (setG 3) (consG (setG 4) nilG)))))) (seqF (asgF ((calE m_summed [(lstE [(tupE [vE 1, vE 1]), (tupE [(op1 negD (cE (.int 24))), vE 2])])])) (setG 5)) (seqF (asgF ((calE m_summed [(lstE [(tupE [cE (.int 36), vE 1, vE 2]), (tupE [(op1 negD (cE (.int 1))), vE 1, vE 1, vE 1]), (tupE [(op1 negD (cE (.int 216))), vE 3])])])) (setG 6)) (retF ((tupE [vE 1, vE 2, vE 3, vE 4, vE 5, vE 6, (calE m_d_of [vE 0]), (calE m_quotient [(calE m_summed [(lstE [(tupE [vE 5, vE 5, vE 5])])]), (calE m_d_of [vE 0])])]))))))
noncomputable def m_own_invariants : List D → M D := defM 1 7 B_own_invariants
noncomputable def B_invariants : SF := (seqF (expF ((calE m_need_curve [vE 0]))) (retF ((calE m_own_invariants [vE 0]))))
noncomputable def m_invariants : List D → M D := defM 1 1 B_invariants
noncomputable def B_off_by : SF := (seqF (asgF (vE 0) (tupG 5 (consG (setG 3) (consG (setG 4) (consG (setG 5) (consG (setG 6) (consG (setG 7) nilG))))))) (seqF (asgF ((calE m_summed [(lstE [(tupE [vE 2, vE 2]), (tupE [vE 3, vE 1, vE 2]), (tupE [vE 5, vE 2])])])) (setG 8)) (retF ((calE m_sum_of_two [vE 8, (calE m_summed [(lstE [(tupE [(op1 negD (cE (.int 1))), vE 1, vE 1, vE 1]), (tupE [(op1 negD (cE (.int 1))), vE 4, vE 1, vE 1]), (tupE [(op1 negD (cE (.int 1))), vE 6, vE 1]), (tupE [(op1 negD (cE (.int 1))), vE 7])])])])))))
noncomputable def m_off_by : List D → M D := defM 3 9 B_off_by
noncomputable def B_is_pair : SF := (retF ((andE ((calE isiD [vE 0, cE (.ty "tuple")])) (andE ((op2 (eqD false) ((calE lenD [vE 0])) (cE (.int 2)))) (andE ((calE m_is_fraction [(op2 ixD (vE 0) (cE (.int 0)))])) (calE m_is_fraction [(op2 ixD (vE 0) (cE (.int 1)))]))))))
noncomputable def m_is_pair : List D → M D := defM 1 1 B_is_pair
noncomputable def B_lies_on : SF := (retF ((orE ((op2 (isN false) (vE 1) (cE .non))) (andE ((calE m_is_pair [vE 1])) (op2 (eqD false) ((calE m_off_by [vE 0, (op2 ixD (vE 1) (cE (.int 0))), (op2 ixD (vE 1) (cE (.int 1)))])) (cE (.int 0)))))))
noncomputable def m_lies_on : List D → M D := defM 2 2 B_lies_on
noncomputable def B_is_change : SF := (seqF (iffF (orT (notT (tT ((calE isiD [vE 0, cE (.ty "tuple")])))) (orT (tB (op2 (eqD true) ((calE lenD [vE 0])) (cE (.int 4)))) (notT (tT ((calE allD [(lcE true (rowI (vE 0)) [1] (setG 1) yesT ((calE m_is_fraction [vE 1])))])))))) (retF (cE (.bl false))) nopF) (retF ((op2 (eqD true) ((op2 ixD (vE 0) (cE (.int 0)))) (cE (.int 0))))))
noncomputable def m_is_change : List D → M D := defM 1 2 B_is_change
noncomputable def B_need_change : SF := (iffF (notT (tT ((calE m_is_change [vE 0])))) noF nopF)
noncomputable def m_need_change : List D → M D := defM 1 1 B_need_change
noncomputable def B_by_power : SF := (seqF (forF (r1I [vE 2]) (setG 3) (asgF ((calE m_quotient [vE 0, vE 1])) (setG 0))) (retF (vE 0)))
noncomputable def m_by_power : List D → M D := defM 3 4 B_by_power
noncomputable def B_own_led : SF := (seqF (asgF (vE 0) (tupG 5 (consG (setG 2) (consG (setG 3) (consG (setG 4) (consG (setG 5) (consG (setG 6) nilG))))))) (seqF (asgF (vE 1) (tupG 4 (consG (setG 7) (consG (setG 8) (consG (setG 9) (consG (setG 10) nilG)))))) (seqF (asgF ((calE m_summed [(lstE [(tupE [vE 3]), (tupE [(op1 negD (cE (.int 1))), vE 9, vE 2]), (tupE [cE (.int 3), vE 8]), (tupE [(op1 negD (cE (.int 1))), vE 9, vE 9])])])) (setG 11)) (seqF (asgF ((calE m_summed [(lstE [(tupE [vE 5]), (tupE [(op1 negD (cE (.int 1))), vE 9, vE 4]), (tupE [cE (.int 2), vE 8, vE 3]), (tupE [(op1 negD (cE (.int 1))), vE 10, vE 2]), (tupE [(op1 negD (cE (.int 1))), vE 8, vE 9, vE 2]), (tupE [cE (.int 3), vE 8, vE 8]), (tupE [(op1 negD (cE (.int 2))), vE 9, vE 10])])])) (setG 12)) (seqF (asgF ((calE m_summed [(lstE [(tupE [vE 6]), (tupE [vE 8, vE 5]), (tupE [vE 8, vE 8, vE 3]), (tupE [vE 8, vE 8, vE 8]), (tupE [(op1 negD (cE (.int 1))), vE 10, vE 4]), (tupE [(op1 negD (cE (.int 1))), vE 10, vE 10]), (tupE [(op1 negD (cE (.int 1))), vE 8, vE 10, vE 2])])])) (setG 13)) (seqF (asgF ((lstE [(calE m_summed [(lstE [(tupE [vE 2]), (tupE [cE (.int 2), vE 9])])]), vE 11, (calE m_summed [(lstE [(tupE [vE 4]), (tupE [vE 8, vE 2]), (tupE [cE (.int 2), vE 10])])]), vE 12, vE 13])) (setG 14)) (retF ((calE tupD [(lcE true (zimI (vE 14) ((tupE [cE (.int 1), cE (.int 2), cE (.int 3), cE (.int 4), cE (.int 6)]))) [15, 16] (tupG 2 (consG (setG 15) (consG (setG 16) nilG))) yesT ((calE m_by_power [vE 15, vE 7, vE 16])))])))))))))
noncomputable def m_own_led : List D → M D := defM 2 17 B_own_led
noncomputable def B_led : SF := (seqF (expF ((calE m_need_curve [vE 0]))) (seqF (expF ((calE m_need_change [vE 1]))) (retF ((calE m_own_led [vE 0, vE 1])))))
noncomputable def m_led : List D → M D := defM 2 2 B_led
noncomputable def B_own_led_point : SF := (seqF (iffF (tB (op2 (isN false) (vE 0) (cE .non))) (retF (cE .non)) nopF) (seqF (tasF [vE 0, vE 1] (consT (tupG 2 (consG (setG 2) (consG (setG 3) nilG))) (consT (tupG 4 (consG (setG 4) (consG (setG 5) (consG (setG 6) (consG (setG 7) nilG))))) nilT))) (seqF (asgF ((calE m_summed [(lstE [(tupE [vE 3]), (tupE [(op1 negD (cE (.int 1))), vE 6, vE 2]), (tupE [vE 6, vE 5]), (tupE [(op1 negD (cE (.int 1))), vE 7])])])) (setG 8)) (retF ((tupE [(calE m_by_power [(calE m_summed [(lstE [(tupE [vE 2]), (tupE [(op1 negD (cE (.int 1))), vE 5])])]), vE 4, cE (.int 2)]), (calE m_by_power [vE 8, vE 4, cE (.int 3)])]))))))
noncomputable def m_own_led_point : List D → M D := defM 2 9 B_own_led_point
noncomputable def B_led_point : SF := (seqF (expF ((calE m_need_curve [vE 0]))) (seqF (iffF (notT (tT ((calE m_lies_on [vE 0, vE 1])))) noF nopF) (seqF (expF ((calE m_need_change [vE 2]))) (retF ((calE m_own_led_point [vE 1, vE 2]))))))
noncomputable def m_led_point : List D → M D := defM 3 3 B_led_point
noncomputable def B_root_below : SF := (seqF (asgF ((op2 (shlD) (cE (.int 1)) ((op2 (addD true) ((op2 (divD) ((op1 bitsD (vE 0))) (cE (.int 2)))) (cE (.int 1)))))) (setG 1)) (seqF (asgF ((op2 (divD) ((op2 (addD true) (vE 1) ((op2 (divD) (vE 0) (vE 1))))) (cE (.int 2)))) (setG 2)) (seqF (whF (tB (op2 (ltD) (vE 2) (vE 1))) (parF 1 2 [vE 2, (ifE ((tB (op2 (gtD) (vE 2) (cE (.int 0))))) ((op2 (divD) ((op2 (addD true) (vE 2) ((op2 (divD) (vE 0) (vE 2))))) (cE (.int 2)))) (cE (.int 0)))])) (retF (vE 1)))))
noncomputable def m_root_below : List D → M D := defM 1 3 B_root_below
noncomputable def B_own_root : SF := (seqF (iffF (tB (op2 (ltD) (vE 0) (cE (.int 0)))) (retF (cE .non)) nopF) (seqF (asgF ((calE m_root_below [vE 0])) (setG 1)) (retF ((ifE ((tB (op2 (eqD false) ((op2 (mulD true) (vE 1) (vE 1))) (vE 0)))) (vE 1) (cE .non))))))
noncomputable def m_own_root : List D → M D := defM 1 2 B_own_root
noncomputable def B_together_of : SF := (seqF (asgF (cE (.int 0)) (setG 1)) (seqF (forF (rowI (vE 0)) (setG 2) (asgF ((calE m_sum_of_two [vE 1, vE 2])) (setG 1))) (retF (vE 1))))
noncomputable def m_together_of : List D → M D := defM 1 3 B_together_of
noncomputable def B_is_on : SF := (seqF (iffF (tB (op2 (isN false) (vE 1) (cE .non))) (retF (cE (.bl true))) nopF) (seqF (iffF (orT (notT (tT ((calE isiD [vE 1, cE (.ty "tuple")])))) (orT (tB (op2 (eqD true) ((calE lenD [vE 1])) (cE (.int 2)))) (notT (tT ((calE allD [(lcE true (rowI (vE 1)) [2] (setG 2) yesT ((calE m_is_fraction [vE 2])))])))))) (retF (cE (.bl false))) nopF) (seqF (asgF (vE 0) (tupG 5 (consG (setG 3) (consG (setG 4) (consG (setG 5) (consG (setG 6) (consG (setG 7) nilG))))))) (seqF (asgF (vE 1) (tupG 2 (consG (setG 8) (consG (setG 9) nilG)))) (seqF (asgF ((calE m_product [vE 9, (calE m_together_of [(lstE [vE 9, (calE m_product [vE 3, vE 8]), vE 5])])])) (setG 10)) (seqF (asgF ((calE m_sum_of_two [(calE m_product [(calE m_sum_of_two [(calE m_product [(calE m_sum_of_two [vE 8, vE 4]), vE 8]), vE 6]), vE 8]), vE 7])) (setG 11)) (retF ((op2 (eqD false) (vE 10) (vE 11))))))))))
noncomputable def m_is_on : List D → M D := defM 2 12 B_is_on
noncomputable def B_need_point : SF := (iffF (notT (tT ((calE m_is_on [vE 0, vE 1])))) noF nopF)
noncomputable def m_need_point : List D → M D := defM 2 2 B_need_point
noncomputable def B_opposite_of : SF := (seqF (iffF (tB (op2 (isN false) (vE 1) (cE .non))) (retF (cE .non)) nopF) (seqF (asgF (vE 1) (tupG 2 (consG (setG 2) (consG (setG 3) nilG)))) (retF ((tupE [vE 2, (calE m_turned [(calE m_together_of [(lstE [vE 3, (calE m_product [(op2 ixD (vE 0) (cE (.int 0))), vE 2]), (op2 ixD (vE 0) (cE (.int 2)))])])])])))))
noncomputable def m_opposite_of : List D → M D := defM 2 4 B_opposite_of
noncomputable def B_slope_of : SF := (seqF (asgF (vE 0) (tupG 5 (consG (setG 3) (consG (setG 4) (consG (setG 5) (consG (setG 6) (consG (setG 7) nilG))))))) (seqF (tasF [vE 1, vE 2] (consT (tupG 2 (consG (setG 8) (consG (setG 9) nilG))) (consT (tupG 2 (consG (setG 10) (consG (setG 11) nilG))) nilT))) (seqF (iffF (tB (op2 (eqD true) (vE 8) (vE 10))) (retF ((calE m_quotient [(calE m_sum_of_two [vE 11, (calE m_turned [vE 9])]), (calE m_sum_of_two [vE 10, (calE m_turned [vE 8])])]))) nopF) (seqF (asgF ((calE m_together_of [(lstE [(calE m_product [cE (.int 3), (calE m_product [vE 8, vE 8])]), (calE m_product [cE (.int 2), (calE m_product [vE 4, vE 8])]), vE 6, (calE m_turned [(calE m_product [vE 3, vE 9])])])])) (setG 12)) (retF ((calE m_quotient [vE 12, (calE m_together_of [(lstE [vE 9, vE 9, (calE m_product [vE 3, vE 8]), vE 5])])])))))))
noncomputable def m_slope_of : List D → M D := defM 3 13 B_slope_of
noncomputable def B_sum_on : SF := (seqF (iffF (orT (tB (op2 (isN false) (vE 1) (cE .non))) (tB (op2 (isN false) (vE 2) (cE .non)))) (retF ((ifE ((tB (op2 (isN false) (vE 1) (cE .non)))) (vE 2) (vE 1)))) nopF) (seqF (iffF (tB (op2 (eqD false) (vE 2) ((calE m_opposite_of [vE 0, vE 1])))) (retF (cE .non)) nopF) (seqF (asgF (vE 0) (tupG 5 (consG (setG 3) (consG (setG 4) (consG (setG 5) (consG (setG 6) (consG (setG 7) nilG))))))) (seqF (asgF ((calE m_slope_of [vE 0, vE 1, vE 2])) (setG 8)) (seqF (asgF ((calE m_together_of [(lstE [(calE m_product [vE 8, (calE m_sum_of_two [vE 8, vE 3])]), (calE m_turned [vE 4]), (calE m_turned [(op2 ixD (vE 1) (cE (.int 0)))]), (calE m_turned [(op2 ixD (vE 2) (cE (.int 0)))])])])) (setG 9)) (seqF (asgF ((calE m_sum_of_two [(op2 ixD (vE 1) (cE (.int 1))), (calE m_product [vE 8, (calE m_sum_of_two [vE 9, (calE m_turned [(op2 ixD (vE 1) (cE (.int 0)))])])])])) (setG 10)) (retF ((calE m_opposite_of [vE 0, (tupE [vE 9, vE 10])])))))))))
noncomputable def m_sum_on : List D → M D := defM 3 11 B_sum_on
noncomputable def B_opposite : SF := (seqF (expF ((calE m_need_curve [vE 0]))) (seqF (expF ((calE m_need_point [vE 0, vE 1]))) (retF ((calE m_opposite_of [vE 0, vE 1])))))
noncomputable def m_opposite : List D → M D := defM 2 2 B_opposite
noncomputable def B_added : SF := (seqF (expF ((calE m_need_curve [vE 0]))) (seqF (expF ((calE m_need_point [vE 0, vE 1]))) (seqF (expF ((calE m_need_point [vE 0, vE 2]))) (retF ((calE m_sum_on [vE 0, vE 1, vE 2]))))))
noncomputable def m_added : List D → M D := defM 3 3 B_added
noncomputable def B_need_whole : SF := (seqF (expF ((calE m_need_curve [vE 0]))) (iffF (notT (tT ((calE allD [(lcE true (rowI (vE 0)) [1] (setG 1) yesT ((calE isiD [vE 1, cE (.ty "int")])))])))) noF nopF))
noncomputable def m_need_whole : List D → M D := defM 1 2 B_need_whole
noncomputable def B_need_bound : SF := (iffF (orT (notT (tT ((calE isiD [vE 0, cE (.ty "int")])))) (orT (tT ((calE isiD [vE 0, cE (.ty "bool")]))) (notT (tB (chn (leD) (leD) (cE (.int 1)) (vE 0) (cE c_FAR)))))) noF nopF)
noncomputable def m_need_bound : List D → M D := defM 1 1 B_need_bound
noncomputable def B_divisor : SF := (seqF (parF 2 3 [(calE absD [vE 0]), (calE absD [vE 1])]) (seqF (whF (tB (op2 (eqD true) (vE 3) (cE (.int 0)))) (parF 2 3 [vE 3, (op2 (modD) (vE 2) (vE 3))])) (retF (vE 2))))
noncomputable def m_divisor : List D → M D := defM 2 4 B_divisor
noncomputable def B_points_at : SF := (seqF (asgF (vE 0) (tupG 5 (consG (setG 4) (consG (setG 5) (consG (setG 6) (consG (setG 7) (consG (setG 8) nilG))))))) (seqF (asgF (vE 1) (tupG 3 (consG (setG 9) (consG (setG 10) (consG (setG 11) nilG))))) (seqF (asgF ((calE m_own_root [(op2 (addD true) ((op2 (addD true) ((op2 (addD true) ((op2 (mulD true) (cE (.int 4)) ((op2 (powD) (vE 2) (cE (.int 3)))))) ((op2 (mulD true) ((op2 (mulD true) ((op2 (mulD true) (vE 9) (vE 2))) (vE 2))) ((op2 (powD) (vE 3) (cE (.int 2)))))))) ((op2 (mulD true) ((op2 (mulD true) ((op2 (mulD true) (cE (.int 2)) (vE 10))) (vE 2))) ((op2 (powD) (vE 3) (cE (.int 4)))))))) ((op2 (mulD true) (vE 11) ((op2 (powD) (vE 3) (cE (.int 6)))))))])) (setG 12)) (seqF (iffF (tB (op2 (isN false) (vE 12) (cE .non))) (retF ((lstE []))) nopF) (seqF (asgF ((op2 (addD true) ((op2 (mulD true) ((op2 (mulD true) (vE 4) (vE 2))) (vE 3))) ((op2 (mulD true) (vE 6) ((op2 (powD) (vE 3) (cE (.int 3)))))))) (setG 13)) (seqF (asgF ((ifE ((tB (op2 (eqD false) (vE 12) (cE (.int 0))))) ((lstE [(op2 (subD) (vE 12) (vE 13))])) ((lstE [(op2 (subD) ((op1 negD (vE 12))) (vE 13)), (op2 (subD) (vE 12) (vE 13))])))) (setG 14)) (retF ((lcE true (rowI (vE 14)) [15] (setG 15) yesT ((tupE [(kwE m_fraction gw_fraction_0 [vE 2, (op2 (mulD true) (vE 3) (vE 3))] []), (kwE m_fraction gw_fraction_0 [vE 15, (op2 (mulD true) (cE (.int 2)) ((op2 (powD) (vE 3) (cE (.int 3)))))] [])])))))))))))
noncomputable def m_points_at : List D → M D := defM 4 16 B_points_at
noncomputable def B_sides : SF := (seqF (asgF ((lsoE [])) (setG 1)) (seqF (forF (r2I [cE (.int 1), cE (.int 15)]) (setG 2) (iffF (tB (op2 (leD) ((op2 (mulD true) (vE 2) (vE 2))) (vE 0))) (expF ((metE extD (vE 1) [(lcE true (r2I [(op1 negD (vE 0)), (op2 (addD true) (vE 0) (cE (.int 1)))]) [3] (setG 3) (tB (op2 (eqD false) ((calE m_divisor [vE 3, vE 2])) (cE (.int 1)))) ((tupE [(op2 (mulD true) (vE 3) ((op2 (divD) (cE c_SQUARES) ((op2 (mulD true) (vE 2) (vE 2)))))), vE 3, vE 2])))]))) nopF)) (retF ((calE (srtT true) [vE 1])))))
noncomputable def m_sides : List D → M D := defM 1 4 B_sides
noncomputable def B_all_to : SF := (seqF (parF 2 3 [(lsoE [cE .non]), (slcE true ((calE m_invariants [vE 0])) none (some (cE (.int 3))))]) (seqF (forF (rowI ((calE m_sides [vE 1]))) (tupG 3 (consG (setG 4) (consG (setG 5) (consG (setG 6) nilG)))) (expF ((metE extD (vE 2) [(calE m_points_at [vE 0, vE 3, vE 5, vE 6])])))) (retF ((frzE (vE 2))))))
noncomputable def m_all_to : List D → M D := defM 2 7 B_all_to
noncomputable def B_search : SF := (seqF (expF ((calE m_need_curve [vE 0]))) (seqF (expF ((calE m_need_bound [vE 1]))) (seqF (expF ((calE m_need_whole [vE 0]))) (retF ((calE m_all_to [vE 0, vE 1]))))))
noncomputable def m_search : List D → M D := defM 2 2 B_search
noncomputable def B_Lmixed : SF := (seqF (asgF ((op2 ixD ((lstE [cE (.int 2147483629), cE (.int 2147483587), cE (.int 2147483579), cE (.int 2147483563), cE (.int 2147483549)])) ((op2 (modD) (vE 1) (cE (.int 5)))))) (setG 2)) (retF ((op2 (modD) ((op2 (mulD true) ((op2 (modD) ((op2 (powD) ((op2 (modD) ((op2 (addD true) ((op2 (addD true) (vE 0) ((op2 (mulD true) (cE (.int 7919)) (vE 1))))) (cE (.int 104729)))) (vE 2))) (cE (.int 5)))) (vE 2))) ((op2 (addD true) (cE (.int 48271)) ((op2 (mulD true) (cE (.int 2)) (vE 1))))))) (vE 2)))))
noncomputable def m_Lmixed : List D → M D := defM 2 3 B_Lmixed
noncomputable def B_Ldraw : SF := (seqF (asgF ((ifE ((tB (op2 (eqD true) (vE 0) ((lstE []))))) ((slcE true (vE 0) (some (vE 1)) (some ((op2 (addD true) (vE 1) (cE (.int 9))))))) ((lstE [cE (.int 0)])))) (setG 2)) (retF (lsrE [vE 2, (op2 (mulD true) (cE (.int 64)) (vE 1)), cE (.int 0), (lcE false (rowI (vE 2)) [3] (setG 3) (tB (op2 (geD) (vE 3) ((op2 (powD) (cE (.int 10)) (cE (.int 18)))))) (vE 3))])))
noncomputable def m_Ldraw : List D → M D := defM 2 4 B_Ldraw
noncomputable def B_Lnext : SF := (seqF (iffF (andT (tB (op2 (eqD false) ((op2 rixD (vE 0) (cE (.int 2)))) (cE (.int 0)))) (tB (op2 (eqD true) ((op2 rixD (vE 0) (cE (.int 3)))) ((lstE []))))) (rputF (vE 0) (cE (.int 2)) ((metE popD0 ((op2 rixD (vE 0) (cE (.int 3)))) [cE (.int 0)]))) nopF) (seqF (iffF (tB (op2 (gtD) ((op2 rixD (vE 0) (cE (.int 2)))) (cE (.int 0)))) (seqF (asgF ((op2 (modD) ((op2 rixD (vE 0) (cE (.int 2)))) (vE 1))) (setG 2)) (seqF (rputF (vE 0) (cE (.int 2)) ((op2 (divD) ((op2 rixD (vE 0) (cE (.int 2)))) (vE 1)))) (retF (vE 2)))) nopF) (seqF (rputF (vE 0) (cE (.int 1)) ((op2 (addD true) ((op2 rixD (vE 0) (cE (.int 1)))) (cE (.int 1))))) (seqF (asgF ((op2 ixD ((op2 rixD (vE 0) (cE (.int 0)))) ((op2 (modD) ((op2 rixD (vE 0) (cE (.int 1)))) ((calE lenD [(op2 rixD (vE 0) (cE (.int 0)))])))))) (setG 3)) (retF ((op2 (modD) ((op2 (divD) ((op2 (addD true) ((op2 (mulD true) ((calE m_Lmixed [vE 3, (op2 rixD (vE 0) (cE (.int 1)))])) (cE (.int 2147483647)))) ((calE m_Lmixed [vE 3, (op2 (addD true) ((op2 rixD (vE 0) (cE (.int 1)))) (cE (.int 9001)))])))) (cE (.int 23)))) (vE 1))))))))
noncomputable def m_Lnext : List D → M D := defM 2 4 B_Lnext
noncomputable def B_Ld : SF := (seqF (asgF (vE 0) (tupG 5 (consG (setG 1) (consG (setG 2) (consG (setG 3) (consG (setG 4) (consG (setG 5) nilG))))))) (seqF (parF 6 7 [(op2 (addD true) ((op2 (mulD true) (vE 1) (vE 1))) ((op2 (mulD true) (cE (.int 4)) (vE 2)))), (op2 (addD true) ((op2 (mulD true) (cE (.int 2)) (vE 4))) ((op2 (mulD true) (vE 1) (vE 3))))]) (seqF (parF 8 9 [(op2 (addD true) ((op2 (mulD true) (vE 3) (vE 3))) ((op2 (mulD true) (cE (.int 4)) (vE 5)))), (op2 (subD) ((op2 (mulD true) ((op2 (mulD true) (vE 2) (vE 3))) (vE 3))) ((op2 (mulD true) (vE 4) (vE 4))))]) (seqF (asgF ((op2 (addD true) ((op2 (addD true) (vE 9) ((op2 (mulD true) ((op2 (mulD true) (vE 1) (vE 1))) (vE 5))))) ((op2 (mulD true) ((op2 (mulD true) (cE (.int 4)) (vE 2))) (vE 5))))) (setG 9)) (seqF (asgF ((op2 (subD) (vE 9) ((op2 (mulD true) ((op2 (mulD true) (vE 1) (vE 3))) (vE 4))))) (setG 9)) (seqF (asgF ((op2 (subD) ((op2 (mulD true) ((op2 (mulD true) ((op2 (mulD true) (cE (.int 9)) (vE 6))) (vE 7))) (vE 8))) ((op2 (mulD true) ((op2 (mulD true) (vE 6) (vE 6))) (vE 9))))) (setG 10)) (retF ((op2 (subD) ((op2 (subD) (vE 10) ((op2 (mulD true) ((op2 (mulD true) ((op2 (mulD true) (cE (.int 8)) (vE 7))) (vE 7))) (vE 7))))) ((op2 (mulD true) ((op2 (mulD true) (cE (.int 27)) (vE 8))) (vE 8))))))))))))
noncomputable def m_Ld : List D → M D := defM 1 11 B_Ld
noncomputable def B_Llow : SF := (seqF (asgF ((op2 (addD true) ((op2 (addD true) ((op2 (mulD true) (vE 2) (vE 2))) ((op2 (mulD true) ((op2 (mulD true) ((op2 ixD (vE 0) (cE (.int 0)))) (vE 1))) (vE 2))))) ((op2 (mulD true) ((op2 ixD (vE 0) (cE (.int 2)))) (vE 2))))) (setG 3)) (retF ((op2 (subD) ((op2 (subD) (vE 3) ((op2 (mulD true) ((op2 (mulD true) (vE 1) (vE 1))) (vE 1))))) ((op2 (mulD true) ((op2 (mulD true) ((op2 ixD (vE 0) (cE (.int 1)))) (vE 1))) (vE 1)))))))
noncomputable def m_Llow : List D → M D := defM 3 4 B_Llow
noncomputable def B_Lthrough : SF := (seqF (forF (r1I [cE (.int 6)]) (setG 2) (seqF (asgF ((calE tupD [(lcE true (r1I [cE (.int 3)]) [4] (setG 4) yesT ((op2 (subD) ((calE m_Lnext [vE 0, (op2 (addD true) ((op2 (mulD true) (cE (.int 2)) (vE 1))) (cE (.int 1)))])) (vE 1))))])) (setG 3)) (seqF (asgF ((lcE true (r1I [cE (.int 3)]) [4] (setG 4) yesT ((op2 (subD) ((calE m_Lnext [vE 0, (op2 (addD true) ((op2 (mulD true) (cE (.int 2)) (vE 1))) (cE (.int 1)))])) (vE 1))))) (tupG 3 (consG (setG 5) (consG (setG 6) (consG (setG 7) nilG))))) (seqF (asgF ((op2 (addD true) (vE 5) ((op2 ixD ((lstE [cE (.int 1), (op2 (subD) (cE (.int 0)) (cE (.int 1)))])) ((calE m_Lnext [vE 0, cE (.int 2)])))))) (setG 8)) (seqF (parF 9 10 [(calE m_Llow [vE 3, vE 5, vE 6]), (calE m_Llow [vE 3, vE 8, vE 7])]) (seqF (asgF ((op2 (mulD true) ((op2 (subD) (vE 9) (vE 10))) ((op2 (subD) (vE 5) (vE 8))))) (setG 11)) (seqF (asgF ((op2 (addD true) (vE 3) ((tupE [vE 11, (op2 (subD) (vE 9) ((op2 (mulD true) (vE 11) (vE 5))))])))) (setG 12)) (iffF (tB (op2 (eqD true) ((calE m_Ld [vE 12])) (cE (.int 0)))) (retF ((tupE [vE 12, (lstE [(tupE [vE 5, vE 6]), (tupE [vE 8, vE 7])])]))) nopF)))))))) (retF ((tupE [(tupE [cE (.int 0), cE (.int 0), cE (.int 1), (op2 (subD) (cE (.int 0)) (cE (.int 1))), cE (.int 0)]), (lstE [(tupE [cE (.int 0), cE (.int 0)]), (tupE [cE (.int 1), cE (.int 0)])])]))))
noncomputable def m_Lthrough : List D → M D := defM 2 13 B_Lthrough
noncomputable def B_Lworth : SF := (retF ((ifE ((tT ((calE isiD [vE 0, cE (.ty "tuple")])))) ((op2 (divD) ((op2 (mulD true) ((op2 ixD (vE 0) (cE (.int 0)))) ((op2 (powD) (cE (.int 5354228880)) (cE (.int 3)))))) ((op2 ixD (vE 0) (cE (.int 1)))))) ((op2 (mulD true) (vE 0) ((op2 (powD) (cE (.int 5354228880)) (cE (.int 3)))))))))
noncomputable def m_Lworth : List D → M D := defM 1 1 B_Lworth
noncomputable def B_Lheight : SF := (seqF (iffF (tB (op2 (isN false) (vE 0) (cE .non))) (retF (cE (.int 1))) nopF) (seqF (asgF ((ifE ((tT ((calE isiD [(op2 ixD (vE 0) (cE (.int 0))), cE (.ty "tuple")])))) ((op2 ixD (vE 0) (cE (.int 0)))) ((tupE [(op2 ixD (vE 0) (cE (.int 0))), cE (.int 1)])))) (tupG 2 (consG (setG 1) (consG (setG 2) nilG)))) (retF ((calE maxD [(calE absD [vE 1]), vE 2])))))
noncomputable def m_Lheight : List D → M D := defM 1 3 B_Lheight
noncomputable def LB0 : SF := (seqF (parF 13 14 [(op2 ixD (vE 7) ((calE m_Lnext [vE 2, (calE lenD [vE 7])]))), (op2 ixD (vE 7) ((calE m_Lnext [vE 2, (calE lenD [vE 7])])))]) (seqF (asgF ((calE m_added [vE 3, vE 13, vE 14])) (setG 15)) (iffF (orT (tB (op2 (inD true) ((calE m_opposite [vE 3, vE 13])) (vE 7))) (andT (tB (op2 (leD) ((calE m_Lheight [vE 15])) (vE 5))) (tB (op2 (inD true) (vE 15) (vE 7))))) (retF (cE (.bl false))) nopF)))
noncomputable def LB1 : SF := (seqF (asgF ((calE m_Ldraw [vE 0, vE 1])) (setG 2)) (seqF (asgF ((calE m_Lthrough [vE 2, (op2 ixD ((lstE [cE (.int 2), cE (.int 6)])) ((calE m_Lnext [vE 2, cE (.int 2)])))])) (tupG 2 (consG (setG 3) (consG (setG 4) nilG)))) (seqF (tasF [(op2 (addD true) (cE (.int 1)) ((calE m_Lnext [vE 2, cE (.int 12)]))), (tupE [(op2 ixD ((lstE [cE (.int 1), (op2 (subD) (cE (.int 0)) (cE (.int 1)))])) ((calE m_Lnext [vE 2, cE (.int 2)]))), cE (.int 0), (op2 (subD) ((calE m_Lnext [vE 2, cE (.int 9)])) (cE (.int 4)))])] (consT (setG 5) (consT (setG 6) nilT))) (seqF (asgF ((op2 (addD true) (vE 6) ((tupE [(op2 (subD) ((calE m_Lnext [vE 2, cE (.int 9)])) (cE (.int 4)))])))) (setG 6)) (seqF (parF 7 8 [(calE m_search [vE 3, vE 5]), (calE m_led [vE 3, vE 6])]) (seqF (asgF (lcE true (rowI (vE 7)) [10] (setG 10) (tB (op2 (isN true) (vE 10) (cE .non))) ((calE m_led_point [vE 3, vE 10, vE 6]))) (setG 9)) (seqF (asgF ((op2 (addD true) ((lstE [cE .non])) ((srtKE (vE 9) (tupE [(calE m_Lworth [(op2 ixD (vE 0) (cE (.int 0)))]), (calE m_Lworth [(op2 ixD (vE 0) (cE (.int 1)))])]))))) (setG 11)) (seqF (iffF (tB (op2 (eqD true) ((calE shwD [(calE m_search [vE 8, vE 5])])) ((calE shwD [vE 11])))) (retF (cE (.bl false))) nopF) (forF (r1I [cE (.int 4)]) (setG 12) LB0)))))))))
noncomputable def B_law : SF := (seqF (forF (r3I [cE (.int 0), (calE maxD [cE (.int 1), (calE minD [cE (.int 63), (calE lenD [vE 0])])]), cE (.int 21)]) (setG 1) LB1) (retF (cE (.bl true))))
noncomputable def m_law : List D → M D := defM 1 16 B_law
set_option genInjectivity false in
set_option genSizeOf false in
structure Txt (K : PySem.W.Frag) (mg : Str → Option Value) where
  f_is_number : Addr
  d_is_number : FuncData
  F_is_number : Fun K "is_number" "is_number" st_is_number f_is_number d_is_number
  b_is_number : Binds K d_is_number ["thing"] []
  f_common : Addr
  d_common : FuncData
  F_common : Fun K "common" "common" st_common f_common d_common
  b_common : Binds K d_common ["one", "other"] []
  f_is_fraction : Addr
  d_is_fraction : FuncData
  F_is_fraction : Fun K "is_fraction" "is_fraction" st_is_fraction f_is_fraction d_is_fraction
  b_is_fraction : Binds K d_is_fraction ["thing"] []
  f_pair_of : Addr
  d_pair_of : FuncData
  F_pair_of : Fun K "pair_of" "pair_of" st_pair_of f_pair_of d_pair_of
  b_pair_of : Binds K d_pair_of ["a"] []
  f_lowest : Addr
  d_lowest : FuncData
  F_lowest : Fun K "lowest" "lowest" st_lowest f_lowest d_lowest
  b_lowest : Binds K d_lowest ["top", "bottom"] []
  f_fraction : Addr
  d_fraction : FuncData
  dT_fraction : Addr
  F_fraction : FunA K "fraction" "fraction" st_fraction f_fraction d_fraction (.ref dT_fraction)
  df_fraction : ∃ o t sz, K.lookup dT_fraction = some o ∧ o.data = .seq #[.int (1) t] sz
  f_sum_of_two : Addr
  d_sum_of_two : FuncData
  F_sum_of_two : Fun K "sum_of_two" "sum_of_two" st_sum_of_two f_sum_of_two d_sum_of_two
  b_sum_of_two : Binds K d_sum_of_two ["a", "b"] []
  f_product : Addr
  d_product : FuncData
  F_product : Fun K "product" "product" st_product f_product d_product
  b_product : Binds K d_product ["a", "b"] []
  f_turned : Addr
  d_turned : FuncData
  F_turned : Fun K "turned" "turned" st_turned f_turned d_turned
  b_turned : Binds K d_turned ["a"] []
  f_quotient : Addr
  d_quotient : FuncData
  F_quotient : Fun K "quotient" "quotient" st_quotient f_quotient d_quotient
  b_quotient : Binds K d_quotient ["a", "b"] []
  f_summed : Addr
  d_summed : FuncData
  F_summed : Fun K "summed" "summed" st_summed f_summed d_summed
  b_summed : Binds K d_summed ["rows"] []
  f_halves_of : Addr
  d_halves_of : FuncData
  F_halves_of : Fun K "halves_of" "halves_of" st_halves_of f_halves_of d_halves_of
  b_halves_of : Binds K d_halves_of ["five"] []
  f_d_of : Addr
  d_d_of : FuncData
  F_d_of : Fun K "d_of" "d_of" st_d_of f_d_of d_d_of
  b_d_of : Binds K d_d_of ["five"] []
  f_is_curve : Addr
  d_is_curve : FuncData
  F_is_curve : Fun K "is_curve" "is_curve" st_is_curve f_is_curve d_is_curve
  b_is_curve : Binds K d_is_curve ["thing"] []
  f_need_curve : Addr
  d_need_curve : FuncData
  F_need_curve : Fun K "need_curve" "need_curve" st_need_curve f_need_curve d_need_curve
  b_need_curve : Binds K d_need_curve ["curve"] []
  f_own_invariants : Addr
  d_own_invariants : FuncData
  F_own_invariants : Fun K "own_invariants" "own_invariants" st_own_invariants f_own_invariants d_own_invariants
  b_own_invariants : Binds K d_own_invariants ["curve"] []
  f_invariants : Addr
  d_invariants : FuncData
  F_invariants : Fun K "invariants" "invariants" st_invariants f_invariants d_invariants
  b_invariants : Binds K d_invariants ["curve"] []
  f_off_by : Addr
  d_off_by : FuncData
  F_off_by : Fun K "off_by" "off_by" st_off_by f_off_by d_off_by
  b_off_by : Binds K d_off_by ["five", "x", "y"] []
  f_is_pair : Addr
  d_is_pair : FuncData
  F_is_pair : Fun K "is_pair" "is_pair" st_is_pair f_is_pair d_is_pair
  b_is_pair : Binds K d_is_pair ["thing"] []
  f_lies_on : Addr
  d_lies_on : FuncData
  F_lies_on : Fun K "lies_on" "lies_on" st_lies_on f_lies_on d_lies_on
  b_lies_on : Binds K d_lies_on ["curve", "thing"] []
  f_is_change : Addr
  d_is_change : FuncData
  F_is_change : Fun K "is_change" "is_change" st_is_change f_is_change d_is_change
  b_is_change : Binds K d_is_change ["thing"] []
  f_need_change : Addr
  d_need_change : FuncData
  F_need_change : Fun K "need_change" "need_change" st_need_change f_need_change d_need_change
  b_need_change : Binds K d_need_change ["change"] []
  f_by_power : Addr
  d_by_power : FuncData
  F_by_power : Fun K "by_power" "by_power" st_by_power f_by_power d_by_power
  b_by_power : Binds K d_by_power ["a", "u", "many"] []
  f_own_led : Addr
  d_own_led : FuncData
  F_own_led : Fun K "own_led" "own_led" st_own_led f_own_led d_own_led
  b_own_led : Binds K d_own_led ["curve", "change"] []
  f_led : Addr
  d_led : FuncData
  F_led : Fun K "led" "led" st_led f_led d_led
  b_led : Binds K d_led ["curve", "change"] []
  f_own_led_point : Addr
  d_own_led_point : FuncData
  F_own_led_point : Fun K "own_led_point" "own_led_point" st_own_led_point f_own_led_point d_own_led_point
  b_own_led_point : Binds K d_own_led_point ["point", "change"] []
  f_led_point : Addr
  d_led_point : FuncData
  F_led_point : Fun K "led_point" "led_point" st_led_point f_led_point d_led_point
  b_led_point : Binds K d_led_point ["curve", "point", "change"] []
  f_root_below : Addr
  d_root_below : FuncData
  F_root_below : Fun K "root_below" "root_below" st_root_below f_root_below d_root_below
  b_root_below : Binds K d_root_below ["number"] []
  f_own_root : Addr
  d_own_root : FuncData
  F_own_root : Fun K "own_root" "own_root" st_own_root f_own_root d_own_root
  b_own_root : Binds K d_own_root ["number"] []
  f_together_of : Addr
  d_together_of : FuncData
  F_together_of : Fun K "together_of" "together_of" st_together_of f_together_of d_together_of
  b_together_of : Binds K d_together_of ["things"] []
  f_is_on : Addr
  d_is_on : FuncData
  F_is_on : Fun K "is_on" "is_on" st_is_on f_is_on d_is_on
  b_is_on : Binds K d_is_on ["curve", "thing"] []
  f_need_point : Addr
  d_need_point : FuncData
  F_need_point : Fun K "need_point" "need_point" st_need_point f_need_point d_need_point
  b_need_point : Binds K d_need_point ["curve", "thing"] []
  f_opposite_of : Addr
  d_opposite_of : FuncData
  F_opposite_of : Fun K "opposite_of" "opposite_of" st_opposite_of f_opposite_of d_opposite_of
  b_opposite_of : Binds K d_opposite_of ["curve", "point"] []
  f_slope_of : Addr
  d_slope_of : FuncData
  F_slope_of : Fun K "slope_of" "slope_of" st_slope_of f_slope_of d_slope_of
  b_slope_of : Binds K d_slope_of ["curve", "one", "other"] []
  f_sum_on : Addr
  d_sum_on : FuncData
  F_sum_on : Fun K "sum_on" "sum_on" st_sum_on f_sum_on d_sum_on
  b_sum_on : Binds K d_sum_on ["curve", "one", "other"] []
  f_opposite : Addr
  d_opposite : FuncData
  F_opposite : Fun K "opposite" "opposite" st_opposite f_opposite d_opposite
  b_opposite : Binds K d_opposite ["curve", "point"] []
  f_added : Addr
  d_added : FuncData
  F_added : Fun K "added" "added" st_added f_added d_added
  b_added : Binds K d_added ["curve", "one", "other"] []
  f_need_whole : Addr
  d_need_whole : FuncData
  F_need_whole : Fun K "need_whole" "need_whole" st_need_whole f_need_whole d_need_whole
  b_need_whole : Binds K d_need_whole ["curve"] []
  f_need_bound : Addr
  d_need_bound : FuncData
  F_need_bound : Fun K "need_bound" "need_bound" st_need_bound f_need_bound d_need_bound
  b_need_bound : Binds K d_need_bound ["bound"] []
  f_divisor : Addr
  d_divisor : FuncData
  F_divisor : Fun K "divisor" "divisor" st_divisor f_divisor d_divisor
  b_divisor : Binds K d_divisor ["a", "b"] []
  f_points_at : Addr
  d_points_at : FuncData
  F_points_at : Fun K "points_at" "points_at" st_points_at f_points_at d_points_at
  b_points_at : Binds K d_points_at ["curve", "halves", "a", "d"] []
  f_sides : Addr
  d_sides : FuncData
  F_sides : Fun K "sides" "sides" st_sides f_sides d_sides
  b_sides : Binds K d_sides ["bound"] []
  f_all_to : Addr
  d_all_to : FuncData
  F_all_to : Fun K "all_to" "all_to" st_all_to f_all_to d_all_to
  b_all_to : Binds K d_all_to ["curve", "bound"] []
  f_search : Addr
  d_search : FuncData
  F_search : Fun K "search" "search" st_search f_search d_search
  b_search : Binds K d_search ["curve", "bound"] []
  f_Lmixed : Addr
  d_Lmixed : FuncData
  F_Lmixed : Fun K "_law_mixed" "_law_mixed" st_Lmixed f_Lmixed d_Lmixed
  b_Lmixed : Binds K d_Lmixed ["_law_cell", "_law_k"] []
  f_Ldraw : Addr
  d_Ldraw : FuncData
  F_Ldraw : Fun K "_law_draw" "_law_draw" st_Ldraw f_Ldraw d_Ldraw
  b_Ldraw : Binds K d_Ldraw ["_law_script", "_law_k"] []
  f_Lnext : Addr
  d_Lnext : FuncData
  F_Lnext : Fun K "_law_next" "_law_next" st_Lnext f_Lnext d_Lnext
  b_Lnext : Binds K d_Lnext ["_law_draw_here", "_law_many"] []
  f_Ld : Addr
  d_Ld : FuncData
  F_Ld : Fun K "_law_d" "_law_d" st_Ld f_Ld d_Ld
  b_Ld : Binds K d_Ld ["_law_five"] []
  f_Llow : Addr
  d_Llow : FuncData
  F_Llow : Fun K "_law_low" "_law_low" st_Llow f_Llow d_Llow
  b_Llow : Binds K d_Llow ["_law_three", "_law_x", "_law_y"] []
  f_Lthrough : Addr
  d_Lthrough : FuncData
  F_Lthrough : Fun K "_law_through" "_law_through" st_Lthrough f_Lthrough d_Lthrough
  b_Lthrough : Binds K d_Lthrough ["_law_draw_here", "_law_size"] []
  f_Lworth : Addr
  d_Lworth : FuncData
  F_Lworth : Fun K "_law_worth" "_law_worth" st_Lworth f_Lworth d_Lworth
  b_Lworth : Binds K d_Lworth ["_law_a"] []
  f_Lheight : Addr
  d_Lheight : FuncData
  F_Lheight : Fun K "_law_height" "_law_height" st_Lheight f_Lheight d_Lheight
  b_Lheight : Binds K d_Lheight ["_law_point"] []
  f_law : Addr
  d_law : FuncData
  F_law : Fun K "law" "law" st_law f_law d_law
  b_law : Binds K d_law ["_law_script"] []
  cc_law : Addr
  cP_law : Addr
  cE_law : d_law.code = .ref cc_law
  g_is_number : mg "is_number" = some (.ref f_is_number)
  g_common : mg "common" = some (.ref f_common)
  g_lowest : mg "lowest" = some (.ref f_lowest)
  g_pair_of : mg "pair_of" = some (.ref f_pair_of)
  g_product : mg "product" = some (.ref f_product)
  g_sum_of_two : mg "sum_of_two" = some (.ref f_sum_of_two)
  g_summed : mg "summed" = some (.ref f_summed)
  g_halves_of : mg "halves_of" = some (.ref f_halves_of)
  g_is_fraction : mg "is_fraction" = some (.ref f_is_fraction)
  g_d_of : mg "d_of" = some (.ref f_d_of)
  g_is_curve : mg "is_curve" = some (.ref f_is_curve)
  g_quotient : mg "quotient" = some (.ref f_quotient)
  g_need_curve : mg "need_curve" = some (.ref f_need_curve)
  g_own_invariants : mg "own_invariants" = some (.ref f_own_invariants)
  g_is_pair : mg "is_pair" = some (.ref f_is_pair)
  g_off_by : mg "off_by" = some (.ref f_off_by)
  g_is_change : mg "is_change" = some (.ref f_is_change)
  g_by_power : mg "by_power" = some (.ref f_by_power)
  g_need_change : mg "need_change" = some (.ref f_need_change)
  g_own_led : mg "own_led" = some (.ref f_own_led)
  g_lies_on : mg "lies_on" = some (.ref f_lies_on)
  g_own_led_point : mg "own_led_point" = some (.ref f_own_led_point)
  g_root_below : mg "root_below" = some (.ref f_root_below)
  g_together_of : mg "together_of" = some (.ref f_together_of)
  g_is_on : mg "is_on" = some (.ref f_is_on)
  g_turned : mg "turned" = some (.ref f_turned)
  g_opposite_of : mg "opposite_of" = some (.ref f_opposite_of)
  g_slope_of : mg "slope_of" = some (.ref f_slope_of)
  g_need_point : mg "need_point" = some (.ref f_need_point)
  g_sum_on : mg "sum_on" = some (.ref f_sum_on)
  g_own_root : mg "own_root" = some (.ref f_own_root)
  g_fraction : mg "fraction" = some (.ref f_fraction)
  g_divisor : mg "divisor" = some (.ref f_divisor)
  g_invariants : mg "invariants" = some (.ref f_invariants)
  g_sides : mg "sides" = some (.ref f_sides)
  g_points_at : mg "points_at" = some (.ref f_points_at)
  g_need_bound : mg "need_bound" = some (.ref f_need_bound)
  g_need_whole : mg "need_whole" = some (.ref f_need_whole)
  g_all_to : mg "all_to" = some (.ref f_all_to)
  g_Lmixed : mg "_law_mixed" = some (.ref f_Lmixed)
  g_Lnext : mg "_law_next" = some (.ref f_Lnext)
  g_Llow : mg "_law_low" = some (.ref f_Llow)
  g_Ld : mg "_law_d" = some (.ref f_Ld)
  g_Ldraw : mg "_law_draw" = some (.ref f_Ldraw)
  g_Lthrough : mg "_law_through" = some (.ref f_Lthrough)
  g_led : mg "led" = some (.ref f_led)
  g_search : mg "search" = some (.ref f_search)
  g_led_point : mg "led_point" = some (.ref f_led_point)
  g_Lworth : mg "_law_worth" = some (.ref f_Lworth)
  g_added : mg "added" = some (.ref f_added)
  g_opposite : mg "opposite" = some (.ref f_opposite)
  g_Lheight : mg "_law_height" = some (.ref f_Lheight)
  g_law : mg "law" = some (.ref f_law)
  n_int : mg "int" = none
  n_isinstance : mg "isinstance" = none
  n_bool : mg "bool" = none
  n_abs : mg "abs" = none
  n_tuple : mg "tuple" = none
  n_len : mg "len" = none
  n_all : mg "all" = none
  n_range : mg "range" = none
  n_zip : mg "zip" = none
  n_sorted : mg "sorted" = none
  n_max : mg "max" = none
  n_min : mg "min" = none
  n_repr : mg "repr" = none
  e_FAR : ∃ t, mg "FAR" = some (Value.int 200 t)
  e_SQUARES : ∃ t, mg "SQUARES" = some (Value.int 129859329600 t)
  dig : Dig K
theorem bt_int : bootBuiltins "int" = some (.type "int") := by decide +kernel
theorem bt_isinstance : bootBuiltins "isinstance" = some (.builtin "isinstance") := by decide +kernel
theorem bt_bool : bootBuiltins "bool" = some (.type "bool") := by decide +kernel
theorem bt_abs : bootBuiltins "abs" = some (.builtin "abs") := by decide +kernel
theorem bt_tuple : bootBuiltins "tuple" = some (.type "tuple") := by decide +kernel
theorem bt_len : bootBuiltins "len" = some (.builtin "len") := by decide +kernel
theorem bt_all : bootBuiltins "all" = some (.builtin "all") := by decide +kernel
theorem bt_sorted : bootBuiltins "sorted" = some (.builtin "sorted") := by decide +kernel
theorem bt_max : bootBuiltins "max" = some (.builtin "max") := by decide +kernel
theorem bt_min : bootBuiltins "min" = some (.builtin "min") := by decide +kernel
theorem bt_repr : bootBuiltins "repr" = some (.builtin "repr") := by decide +kernel
set_option genInjectivity false in
set_option genSizeOf false in
structure TxtC (C : Cf) extends Txt C.K C.mg where
  hX : C.ex = fun _ => True
  tB_law : LamX.TabB C.base C.mg cc_law cP_law
  tM_law : (cP_law, ((("law" : Str) ++ ".<locals>.") ++ "<lambda>")) ∈ C.tb
  tU_law : ∀ p ∈ C.tb, p.1 = cP_law → p.2 = ((("law" : Str) ++ ".<locals>.") ++ "<lambda>")
theorem TxtC.uses {C : Cf} {p : Prop} (T : TxtC C) (h : TxtC C → p) : p := h T
def TxtC.lamb {C : Cf} (T : TxtC C) : TxtC C.lamb := ⟨T.toTxt, rfl, T.tB_law, T.tM_law, T.tU_law⟩
def TxtC.noq {C : Cf} (T : TxtC C) : TxtC C.noq := ⟨T.toTxt, T.hX, T.tB_law, T.tM_law, T.tU_law⟩
def TxtC.cqd {C : Cf} (T : TxtC C) (v : Value) (q : Str) : TxtC (C.cqd v q) := ⟨T.toTxt, T.hX, T.tB_law, T.tM_law, T.tU_law⟩
section
variable {C : Cf}
theorem Txt.k_FAR {sc : Scope} {N : List Str} {k : Nat} {pos : Pos} (T : Txt C.K C.mg) (hg : GlS sc "FAR" := by rfl) : SE C sc N k (.Name "FAR" pos) (cE c_FAR) := by
  obtain ⟨t, h⟩ := T.e_FAR
  exact s_glob h (v := .int _) ⟨t, rfl⟩ (fun F H => PV.int _) hg
theorem Txt.k_SQUARES {sc : Scope} {N : List Str} {k : Nat} {pos : Pos} (T : Txt C.K C.mg) (hg : GlS sc "SQUARES" := by rfl) : SE C sc N k (.Name "SQUARES" pos) (cE c_SQUARES) := by
  obtain ⟨t, h⟩ := T.e_SQUARES
  exact s_glob h (v := .int _) ⟨t, rfl⟩ (fun F H => PV.int _) hg
theorem Txt.w_fraction_0 (T : Txt C.K C.mg) : KwB C T.d_fraction ["top", "bottom"] 2 [] gw_fraction_0 := by
  obtain ⟨o, t, sz, lT, oT⟩ := T.df_fraction
  exact kwB_dG T.F_fraction lT oT (z := .int (1)) ⟨t, rfl⟩ (fun _ _ => PV.int _) hw_fraction_0
    (fun a c w h1 h2 => match a, h1, c, h2 with | [_, _], _, [], _ => rfl)
    (fun h1 h2 hd l1 l2 => by
      rcases kw_cons h1 l1 with ⟨_, _, _, _, rfl, rfl, hu0, h1, l1⟩
      rcases kw_cons h1 l1 with ⟨_, _, _, _, rfl, rfl, hu1, h1, l1⟩
      obtain ⟨rfl, rfl⟩ := kw_nil h1 l1
      obtain ⟨rfl, rfl⟩ := kw_nil h2 l2
      exact .cons hu0 (.cons hu1 (.nil)))
    (fun _ _ _ _ _ _ us ws w h1 h2 => match us, h1, ws, h2 with | [_, _], _, [], _ => ⟨_, rfl, rfl⟩)
theorem ok_is_number (T : TxtC C) : Fn C 1 T.f_is_number T.d_is_number ["thing"] (spM C 1 m_is_number) :=
  Fn.noq (fn_body (C := C.noq) (k := 0) (FunA.of T.F_is_number) sc_is_number (TxtC.uses T.noq fun T => show SB C.noq (defScope st_is_number) N_is_number 0 (defBody st_is_number) B_is_number from
    (b_one (x_ret ((s_and ((s_bf c_isi T.n_isinstance bt_isinstance (a_cons (s_v 0) (a_cons ((s_bty T.n_int bt_int)) (a_nil))))) (s_one ((s_not ((s_bf c_isi T.n_isinstance bt_isinstance (a_cons (s_v 0) (a_cons ((s_bty T.n_bool bt_bool)) (a_nil))))))))))))) T.hX (fun v q h => nomatch h))
theorem ok_common (T : TxtC C) : Fn C 1 T.f_common T.d_common ["one", "other"] (spM C 2 m_common) :=
  Fn.noq (fn_body (C := C.noq) (k := 0) (FunA.of T.F_common) sc_common (TxtC.uses T.noq fun T => show SB C.noq (defScope st_common) N_common 0 (defBody st_common) B_common from
    (b_cons (x_while (t_cmp (o_ne) (s_v 1) (s_int)) (b_one (x_par 0 1 (a_cons (s_v 1) (a_cons ((s_bin (o_mod) (s_v 0) (s_v 1))) (a_nil))) (hw := by intro env h; cases env; cases h; rfl)))) (b_one (x_ret ((s_bf c_abs T.n_abs bt_abs (a_cons (s_v 0) (a_nil)))))))) T.hX (fun v q h => nomatch h))
theorem ok_is_fraction (T : TxtC C) : Fn C 2 T.f_is_fraction T.d_is_fraction ["thing"] (spM C 1 m_is_fraction) :=
  Fn.noq (fn_body (C := C.noq) (k := 1) (FunA.of T.F_is_fraction) sc_is_fraction (TxtC.uses T.noq fun T => show SB C.noq (defScope st_is_fraction) N_is_fraction 1 (defBody st_is_fraction) B_is_fraction from
    (b_cons (x_if (t_not (t_val ((s_bf c_isi T.n_isinstance bt_isinstance (a_cons (s_v 0) (a_cons ((s_bty T.n_tuple bt_tuple)) (a_nil))))))) (b_one (x_ret ((s_call (ok_is_number T) (by decide) T.g_is_number T.F_is_number.kp T.b_is_number (a_cons (s_v 0) (a_nil)))))) b_nil) (b_cons (x_if (t_w (w_or ((t_cmp (o_ne) ((s_bf c_len T.n_len bt_len (a_cons (s_v 0) (a_nil)))) (s_int))) (w_or ((t_not (t_val ((s_call (ok_is_number T) (by decide) T.g_is_number T.F_is_number.kp T.b_is_number (a_cons ((s_ix (s_v 0) (s_int))) (a_nil))))))) (w_or1 ((t_not (t_val ((s_call (ok_is_number T) (by decide) T.g_is_number T.F_is_number.kp T.b_is_number (a_cons ((s_ix (s_v 0) (s_int))) (a_nil))))))))))) (b_one (x_ret (s_bl))) b_nil) (b_one (x_ret ((s_and ((s_cmp (o_gt) ((s_ix (s_v 0) (s_int))) (s_int))) (s_one ((s_cmp (o_eq) ((s_call (ok_common T) (by decide) T.g_common T.F_common.kp T.b_common (a_cons ((s_ix (s_v 0) (s_int))) (a_cons ((s_ix (s_v 0) (s_int))) (a_nil))))) (s_int))))))))))) T.hX (fun v q h => nomatch h))
theorem ok_pair_of (T : TxtC C) : Fn C 1 T.f_pair_of T.d_pair_of ["a"] (spM C 1 m_pair_of) :=
  Fn.noq (fn_body (C := C.noq) (k := 0) (FunA.of T.F_pair_of) sc_pair_of (TxtC.uses T.noq fun T => show SB C.noq (defScope st_pair_of) N_pair_of 0 (defBody st_pair_of) B_pair_of from
    (b_one (x_ret ((s_if ((t_val ((s_bf c_isi T.n_isinstance bt_isinstance (a_cons (s_v 0) (a_cons ((s_bty T.n_tuple bt_tuple)) (a_nil))))))) (s_v 0) ((s_tup (a_cons (s_v 0) (a_cons (s_int) (a_nil)))))))))) T.hX (fun v q h => nomatch h))
theorem ok_lowest (T : TxtC C) : Fn C 2 T.f_lowest T.d_lowest ["top", "bottom"] (spM C 2 m_lowest) :=
  Fn.noq (fn_body (C := C.noq) (k := 1) (FunA.of T.F_lowest) sc_lowest (TxtC.uses T.noq fun T => show SB C.noq (defScope st_lowest) N_lowest 1 (defBody st_lowest) B_lowest from
    (b_cons (x_asg ((s_if ((t_cmp (o_gt) (s_v 1) (s_int))) ((s_call (ok_common T) (by decide) T.g_common T.F_common.kp T.b_common (a_cons (s_v 0) (a_cons (s_v 1) (a_nil))))) ((s_neg ((s_call (ok_common T) (by decide) T.g_common T.F_common.kp T.b_common (a_cons (s_v 0) (a_cons (s_v 1) (a_nil))))))))) (g_name 2)) (b_one (x_ret ((s_if ((t_cmp (o_eq) ((s_bin (o_div) (s_v 1) (s_v 2))) (s_int))) ((s_bin (o_div) (s_v 0) (s_v 2))) ((s_tup (a_cons ((s_bin (o_div) (s_v 0) (s_v 2))) (a_cons ((s_bin (o_div) (s_v 1) (s_v 2))) (a_nil))))))))))) T.hX (fun v q h => nomatch h))
theorem ok_fraction (T : TxtC C) : Fn C 3 T.f_fraction T.d_fraction ["top", "bottom"] (spM C 2 m_fraction) :=
  Fn.noq (fn_body (C := C.noq) (k := 2) T.F_fraction sc_fraction (TxtC.uses T.noq fun T => show SB C.noq (defScope st_fraction) N_fraction 2 (defBody st_fraction) B_fraction from
    (b_cons (x_if (t_w (w_or ((t_not (t_val ((s_call (ok_is_number T) (by decide) T.g_is_number T.F_is_number.kp T.b_is_number (a_cons (s_v 0) (a_nil))))))) (w_or1 ((t_not (t_val ((s_call (ok_is_number T) (by decide) T.g_is_number T.F_is_number.kp T.b_is_number (a_cons (s_v 1) (a_nil)))))))))) (b_one x_never) b_nil) (b_cons (x_if (t_cmp (o_eq) (s_v 1) (s_int)) (b_one x_never) b_nil) (b_one (x_ret ((s_call (ok_lowest T) (by decide) T.g_lowest T.F_lowest.kp T.b_lowest (a_cons (s_v 0) (a_cons (s_v 1) (a_nil)))))))))) T.hX (fun v q h => nomatch h))
theorem ok_sum_of_two (T : TxtC C) : Fn C 3 T.f_sum_of_two T.d_sum_of_two ["a", "b"] (spM C 2 m_sum_of_two) :=
  Fn.noq (fn_body (C := C.noq) (k := 2) (FunA.of T.F_sum_of_two) sc_sum_of_two (TxtC.uses T.noq fun T => show SB C.noq (defScope st_sum_of_two) N_sum_of_two 2 (defBody st_sum_of_two) B_sum_of_two from
    (b_cons (x_tas (a_cons ((s_call (ok_pair_of T) (by decide) T.g_pair_of T.F_pair_of.kp T.b_pair_of (a_cons (s_v 0) (a_nil)))) (a_cons ((s_call (ok_pair_of T) (by decide) T.g_pair_of T.F_pair_of.kp T.b_pair_of (a_cons (s_v 1) (a_nil)))) (a_nil))) (gd_cons (g_tup (n := 2) (gs_cons (g_name 2) (gs_cons (g_name 3) gs_nil))) (gd_cons (g_tup (n := 2) (gs_cons (g_name 4) (gs_cons (g_name 5) gs_nil))) gd_nil))) (b_one (x_ret ((s_call (ok_lowest T) (by decide) T.g_lowest T.F_lowest.kp T.b_lowest (a_cons ((s_bin (o_add true) ((s_bin (o_mul true) (s_v 2) (s_v 5))) ((s_bin (o_mul true) (s_v 4) (s_v 3))))) (a_cons ((s_bin (o_mul true) (s_v 3) (s_v 5))) (a_nil))))))))) T.hX (fun v q h => nomatch h))
theorem ok_product (T : TxtC C) : Fn C 3 T.f_product T.d_product ["a", "b"] (spM C 2 m_product) :=
  Fn.noq (fn_body (C := C.noq) (k := 2) (FunA.of T.F_product) sc_product (TxtC.uses T.noq fun T => show SB C.noq (defScope st_product) N_product 2 (defBody st_product) B_product from
    (b_cons (x_tas (a_cons ((s_call (ok_pair_of T) (by decide) T.g_pair_of T.F_pair_of.kp T.b_pair_of (a_cons (s_v 0) (a_nil)))) (a_cons ((s_call (ok_pair_of T) (by decide) T.g_pair_of T.F_pair_of.kp T.b_pair_of (a_cons (s_v 1) (a_nil)))) (a_nil))) (gd_cons (g_tup (n := 2) (gs_cons (g_name 2) (gs_cons (g_name 3) gs_nil))) (gd_cons (g_tup (n := 2) (gs_cons (g_name 4) (gs_cons (g_name 5) gs_nil))) gd_nil))) (b_one (x_ret ((s_call (ok_lowest T) (by decide) T.g_lowest T.F_lowest.kp T.b_lowest (a_cons ((s_bin (o_mul true) (s_v 2) (s_v 4))) (a_cons ((s_bin (o_mul true) (s_v 3) (s_v 5))) (a_nil))))))))) T.hX (fun v q h => nomatch h))
theorem ok_turned (T : TxtC C) : Fn C 4 T.f_turned T.d_turned ["a"] (spM C 1 m_turned) :=
  Fn.noq (fn_body (C := C.noq) (k := 3) (FunA.of T.F_turned) sc_turned (TxtC.uses T.noq fun T => show SB C.noq (defScope st_turned) N_turned 3 (defBody st_turned) B_turned from
    (b_one (x_ret ((s_call (ok_product T) (by decide) T.g_product T.F_product.kp T.b_product (a_cons ((s_neg (s_int))) (a_cons (s_v 0) (a_nil)))))))) T.hX (fun v q h => nomatch h))
theorem ok_quotient (T : TxtC C) : Fn C 4 T.f_quotient T.d_quotient ["a", "b"] (spM C 2 m_quotient) :=
  Fn.noq (fn_body (C := C.noq) (k := 3) (FunA.of T.F_quotient) sc_quotient (TxtC.uses T.noq fun T => show SB C.noq (defScope st_quotient) N_quotient 3 (defBody st_quotient) B_quotient from
    (b_cons (x_asg ((s_call (ok_pair_of T) (by decide) T.g_pair_of T.F_pair_of.kp T.b_pair_of (a_cons (s_v 1) (a_nil)))) (g_tup (n := 2) (gs_cons (g_name 2) (gs_cons (g_name 3) gs_nil)))) (b_one (x_ret ((s_call (ok_product T) (by decide) T.g_product T.F_product.kp T.b_product (a_cons (s_v 0) (a_cons ((s_call (ok_lowest T) (by decide) T.g_lowest T.F_lowest.kp T.b_lowest (a_cons (s_v 3) (a_cons (s_v 2) (a_nil))))) (a_nil))))))))) T.hX (fun v q h => nomatch h))
theorem ok_summed (T : TxtC C) : Fn C 4 T.f_summed T.d_summed ["rows"] (spM C 1 m_summed) :=
  Fn.noq (fn_body (C := C.noq) (k := 3) (FunA.of T.F_summed) sc_summed (TxtC.uses T.noq fun T => show SB C.noq (defScope st_summed) N_summed 3 (defBody st_summed) B_summed from
    (b_cons (x_asg (s_int) (g_name 1)) (b_cons (x_for (i_row (s_v 0)) (g_name 2) (b_cons (x_asg (s_int) (g_name 3)) (b_cons (x_for (i_row (s_v 2)) (g_name 4) (b_one (x_asg ((s_call (ok_product T) (by decide) T.g_product T.F_product.kp T.b_product (a_cons (s_v 3) (a_cons (s_v 4) (a_nil))))) (g_name 3)))) (b_one (x_asg ((s_call (ok_sum_of_two T) (by decide) T.g_sum_of_two T.F_sum_of_two.kp T.b_sum_of_two (a_cons (s_v 1) (a_cons (s_v 3) (a_nil))))) (g_name 1)))))) (b_one (x_ret (s_v 1)))))) T.hX (fun v q h => nomatch h))
theorem ok_halves_of (T : TxtC C) : Fn C 5 T.f_halves_of T.d_halves_of ["five"] (spM C 1 m_halves_of) :=
  Fn.noq (fn_body (C := C.noq) (k := 4) (FunA.of T.F_halves_of) sc_halves_of (TxtC.uses T.noq fun T => show SB C.noq (defScope st_halves_of) N_halves_of 4 (defBody st_halves_of) B_halves_of from
    (b_cons (x_asg (s_v 0) (g_tup (n := 5) (gs_cons (g_name 1) (gs_cons (g_name 2) (gs_cons (g_name 3) (gs_cons (g_name 4) (gs_cons (g_name 5) gs_nil))))))) (b_cons (x_par 6 7 (a_cons ((s_call (ok_summed T) (by decide) T.g_summed T.F_summed.kp T.b_summed (a_cons ((s_lst (a_cons ((s_tup (a_cons (s_v 1) (a_cons (s_v 1) (a_nil))))) (a_cons ((s_tup (a_cons (s_int) (a_cons (s_v 2) (a_nil))))) (a_nil))))) (a_nil)))) (a_cons ((s_call (ok_summed T) (by decide) T.g_summed T.F_summed.kp T.b_summed (a_cons ((s_lst (a_cons ((s_tup (a_cons (s_int) (a_cons (s_v 4) (a_nil))))) (a_cons ((s_tup (a_cons (s_v 1) (a_cons (s_v 3) (a_nil))))) (a_nil))))) (a_nil)))) (a_nil))) (hw := by intro env h; cases env; cases h; rfl)) (b_cons (x_asg ((s_call (ok_summed T) (by decide) T.g_summed T.F_summed.kp T.b_summed (a_cons ((s_lst (a_cons ((s_tup (a_cons (s_v 1) (a_cons (s_v 1) (a_cons (s_v 5) (a_nil)))))) (a_cons ((s_tup (a_cons (s_int) (a_cons (s_v 2) (a_cons (s_v 5) (a_nil)))))) (a_cons ((s_tup (a_cons ((s_neg (s_int))) (a_cons (s_v 1) (a_cons (s_v 3) (a_cons (s_v 4) (a_nil))))))) (a_cons ((s_tup (a_cons (s_v 2) (a_cons (s_v 3) (a_cons (s_v 3) (a_nil)))))) (a_cons ((s_tup (a_cons ((s_neg (s_int))) (a_cons (s_v 4) (a_cons (s_v 4) (a_nil)))))) (a_nil)))))))) (a_nil)))) (g_name 8)) (b_one (x_ret ((s_tup (a_cons (s_v 6) (a_cons (s_v 7) (a_cons ((s_call (ok_summed T) (by decide) T.g_summed T.F_summed.kp T.b_summed (a_cons ((s_lst (a_cons ((s_tup (a_cons (s_v 3) (a_cons (s_v 3) (a_nil))))) (a_cons ((s_tup (a_cons (s_int) (a_cons (s_v 5) (a_nil))))) (a_nil))))) (a_nil)))) (a_cons (s_v 8) (a_nil))))))))))))) T.hX (fun v q h => nomatch h))
theorem ok_d_of (T : TxtC C) : Fn C 6 T.f_d_of T.d_d_of ["five"] (spM C 1 m_d_of) :=
  Fn.noq (fn_body (C := C.noq) (k := 5) (FunA.of T.F_d_of) sc_d_of (TxtC.uses T.noq fun T => show SB C.noq (defScope st_d_of) N_d_of 5 (defBody st_d_of) B_d_of from
    (b_cons (x_asg ((s_call (ok_halves_of T) (by decide) T.g_halves_of T.F_halves_of.kp T.b_halves_of (a_cons (s_v 0) (a_nil)))) (g_tup (n := 4) (gs_cons (g_name 1) (gs_cons (g_name 2) (gs_cons (g_name 3) (gs_cons (g_name 4) gs_nil)))))) (b_one (x_ret ((s_call (ok_summed T) (by decide) T.g_summed T.F_summed.kp T.b_summed (a_cons ((s_lst (a_cons ((s_tup (a_cons (s_int) (a_cons (s_v 1) (a_cons (s_v 2) (a_cons (s_v 3) (a_nil))))))) (a_cons ((s_tup (a_cons ((s_neg (s_int))) (a_cons (s_v 1) (a_cons (s_v 1) (a_cons (s_v 4) (a_nil))))))) (a_cons ((s_tup (a_cons ((s_neg (s_int))) (a_cons (s_v 2) (a_cons (s_v 2) (a_cons (s_v 2) (a_nil))))))) (a_cons ((s_tup (a_cons ((s_neg (s_int))) (a_cons (s_v 3) (a_cons (s_v 3) (a_nil)))))) (a_nil))))))) (a_nil)))))))) T.hX (fun v q h => nomatch h))
theorem ok_is_curve (T : TxtC C) : Fn C 7 T.f_is_curve T.d_is_curve ["thing"] (spM C 1 m_is_curve) :=
  Fn.noq (fn_body (C := C.noq) (k := 6) (FunA.of T.F_is_curve) sc_is_curve (TxtC.uses T.noq fun T => show SB C.noq (defScope st_is_curve) N_is_curve 6 (defBody st_is_curve) B_is_curve from
    (b_cons (x_if (t_w (w_or ((t_not (t_val ((s_bf c_isi T.n_isinstance bt_isinstance (a_cons (s_v 0) (a_cons ((s_bty T.n_tuple bt_tuple)) (a_nil)))))))) (w_or ((t_cmp (o_ne) ((s_bf c_len T.n_len bt_len (a_cons (s_v 0) (a_nil)))) (s_int))) (w_or1 ((t_not (t_val ((s_bf c_all T.n_all bt_all (a_cons ((s_lc true [("one", 1)] (i_row (s_v 0)) (g_name 1) c_yes ((s_call (ok_is_fraction T) (by decide) T.g_is_fraction T.F_is_fraction.kp T.b_is_fraction (a_cons (s_v 1) (a_nil)))))) (a_nil))))))))))) (b_one (x_ret (s_bl))) b_nil) (b_one (x_ret ((s_cmp (o_ne) ((s_call (ok_d_of T) (by decide) T.g_d_of T.F_d_of.kp T.b_d_of (a_cons (s_v 0) (a_nil)))) (s_int))))))) T.hX (fun v q h => nomatch h))
theorem ok_need_curve (T : TxtC C) : Fn C 8 T.f_need_curve T.d_need_curve ["curve"] (spM C 1 m_need_curve) :=
  Fn.noq (fn_body (C := C.noq) (k := 7) (FunA.of T.F_need_curve) sc_need_curve (TxtC.uses T.noq fun T => show SB C.noq (defScope st_need_curve) N_need_curve 7 (defBody st_need_curve) B_need_curve from
    (b_one (x_if (t_not (t_val ((s_call (ok_is_curve T) (by decide) T.g_is_curve T.F_is_curve.kp T.b_is_curve (a_cons (s_v 0) (a_nil)))))) (b_one x_never) b_nil))) T.hX (fun v q h => nomatch h))
theorem ok_own_invariants (T : TxtC C) : Fn C 7 T.f_own_invariants T.d_own_invariants ["curve"] (spM C 1 m_own_invariants) :=
  Fn.noq (fn_body (C := C.noq) (k := 6) (FunA.of T.F_own_invariants) sc_own_invariants (TxtC.uses T.noq fun T => show SB C.noq (defScope st_own_invariants) N_own_invariants 6 (defBody st_own_invariants) B_own_invariants from
    (b_cons (x_asg ((s_call (ok_halves_of T) (by decide) T.g_halves_of T.F_halves_of.kp T.b_halves_of (a_cons (s_v 0) (a_nil)))) (g_tup (n := 4) (gs_cons (g_name 1) (gs_cons (g_name 2) (gs_cons (g_name 3) (gs_cons (g_name 4) gs_nil)))))) (b_cons (x_asg ((s_call (ok_summed T) (by decide) T.g_summed T.F_summed.kp T.b_summed (a_cons ((s_lst (a_cons ((s_tup (a_cons (s_v 1) (a_cons (s_v 1) (a_nil))))) (a_cons ((s_tup (a_cons ((s_neg (s_int))) (a_cons (s_v 2) (a_nil))))) (a_nil))))) (a_nil)))) (g_name 5)) (b_cons (x_asg ((s_call (ok_summed T) (by decide) T.g_summed T.F_summed.kp T.b_summed (a_cons ((s_lst (a_cons ((s_tup (a_cons (s_int) (a_cons (s_v 1) (a_cons (s_v 2) (a_nil)))))) (a_cons ((s_tup (a_cons ((s_neg (s_int))) (a_cons (s_v 1) (a_cons (s_v 1) (a_cons (s_v 1) (a_nil))))))) (a_cons ((s_tup (a_cons ((s_neg (s_int))) (a_cons (s_v 3) (a_nil))))) (a_nil)))))) (a_nil)))) (g_name 6)) (b_one (x_ret ((s_tup (a_cons (s_v 1) (a_cons (s_v 2) (a_cons (s_v 3) (a_cons (s_v 4) (a_cons (s_v 5) (a_cons (s_v 6) (a_cons ((s_call (ok_d_of T) (by decide) T.g_d_of T.F_d_of.kp T.b_d_of (a_cons (s_v 0) (a_nil)))) (a_cons ((s_call (ok_quotient T) (by decide) T.g_quotient T.F_quotient.kp T.b_quotient (a_cons ((s_call (ok_summed T) (by decide) T.g_summed T.F_summed.kp T.b_summed (a_cons ((s_lst (a_cons ((s_tup (a_cons (s_v 5) (a_cons (s_v 5) (a_cons (s_v 5) (a_nil)))))) (a_nil)))) (a_nil)))) (a_cons ((s_call (ok_d_of T) (by decide) T.g_d_of T.F_d_of.kp T.b_d_of (a_cons (s_v 0) (a_nil)))) (a_nil))))) (a_nil))))))))))))))))) T.hX (fun v q h => nomatch h))
theorem ok_invariants (T : TxtC C) : Fn C 9 T.f_invariants T.d_invariants ["curve"] (spM C 1 m_invariants) :=
  Fn.noq (fn_body (C := C.noq) (k := 8) (FunA.of T.F_invariants) sc_invariants (TxtC.uses T.noq fun T => show SB C.noq (defScope st_invariants) N_invariants 8 (defBody st_invariants) B_invariants from
    (b_cons (x_exp ((s_call (ok_need_curve T) (by decide) T.g_need_curve T.F_need_curve.kp T.b_need_curve (a_cons (s_v 0) (a_nil))))) (b_one (x_ret ((s_call (ok_own_invariants T) (by decide) T.g_own_invariants T.F_own_invariants.kp T.b_own_invariants (a_cons (s_v 0) (a_nil)))))))) T.hX (fun v q h => nomatch h))
theorem ok_off_by (T : TxtC C) : Fn C 5 T.f_off_by T.d_off_by ["five", "x", "y"] (spM C 3 m_off_by) :=
  Fn.noq (fn_body (C := C.noq) (k := 4) (FunA.of T.F_off_by) sc_off_by (TxtC.uses T.noq fun T => show SB C.noq (defScope st_off_by) N_off_by 4 (defBody st_off_by) B_off_by from
    (b_cons (x_asg (s_v 0) (g_tup (n := 5) (gs_cons (g_name 3) (gs_cons (g_name 4) (gs_cons (g_name 5) (gs_cons (g_name 6) (gs_cons (g_name 7) gs_nil))))))) (b_cons (x_asg ((s_call (ok_summed T) (by decide) T.g_summed T.F_summed.kp T.b_summed (a_cons ((s_lst (a_cons ((s_tup (a_cons (s_v 2) (a_cons (s_v 2) (a_nil))))) (a_cons ((s_tup (a_cons (s_v 3) (a_cons (s_v 1) (a_cons (s_v 2) (a_nil)))))) (a_cons ((s_tup (a_cons (s_v 5) (a_cons (s_v 2) (a_nil))))) (a_nil)))))) (a_nil)))) (g_name 8)) (b_one (x_ret ((s_call (ok_sum_of_two T) (by decide) T.g_sum_of_two T.F_sum_of_two.kp T.b_sum_of_two (a_cons (s_v 8) (a_cons ((s_call (ok_summed T) (by decide) T.g_summed T.F_summed.kp T.b_summed (a_cons ((s_lst (a_cons ((s_tup (a_cons ((s_neg (s_int))) (a_cons (s_v 1) (a_cons (s_v 1) (a_cons (s_v 1) (a_nil))))))) (a_cons ((s_tup (a_cons ((s_neg (s_int))) (a_cons (s_v 4) (a_cons (s_v 1) (a_cons (s_v 1) (a_nil))))))) (a_cons ((s_tup (a_cons ((s_neg (s_int))) (a_cons (s_v 6) (a_cons (s_v 1) (a_nil)))))) (a_cons ((s_tup (a_cons ((s_neg (s_int))) (a_cons (s_v 7) (a_nil))))) (a_nil))))))) (a_nil)))) (a_nil)))))))))) T.hX (fun v q h => nomatch h))
theorem ok_is_pair (T : TxtC C) : Fn C 3 T.f_is_pair T.d_is_pair ["thing"] (spM C 1 m_is_pair) :=
  Fn.noq (fn_body (C := C.noq) (k := 2) (FunA.of T.F_is_pair) sc_is_pair (TxtC.uses T.noq fun T => show SB C.noq (defScope st_is_pair) N_is_pair 2 (defBody st_is_pair) B_is_pair from
    (b_one (x_ret ((s_and ((s_bf c_isi T.n_isinstance bt_isinstance (a_cons (s_v 0) (a_cons ((s_bty T.n_tuple bt_tuple)) (a_nil))))) (s_and ((s_cmp (o_eq) ((s_bf c_len T.n_len bt_len (a_cons (s_v 0) (a_nil)))) (s_int))) (s_and ((s_call (ok_is_fraction T) (by decide) T.g_is_fraction T.F_is_fraction.kp T.b_is_fraction (a_cons ((s_ix (s_v 0) (s_int))) (a_nil)))) (s_one ((s_call (ok_is_fraction T) (by decide) T.g_is_fraction T.F_is_fraction.kp T.b_is_fraction (a_cons ((s_ix (s_v 0) (s_int))) (a_nil)))))))))))) T.hX (fun v q h => nomatch h))
theorem ok_lies_on (T : TxtC C) : Fn C 6 T.f_lies_on T.d_lies_on ["curve", "thing"] (spM C 2 m_lies_on) :=
  Fn.noq (fn_body (C := C.noq) (k := 5) (FunA.of T.F_lies_on) sc_lies_on (TxtC.uses T.noq fun T => show SB C.noq (defScope st_lies_on) N_lies_on 5 (defBody st_lies_on) B_lies_on from
    (b_one (x_ret ((s_or ((s_cmp (o_is) (s_v 1) (s_non))) (s_one ((s_and ((s_call (ok_is_pair T) (by decide) T.g_is_pair T.F_is_pair.kp T.b_is_pair (a_cons (s_v 1) (a_nil)))) (s_one ((s_cmp (o_eq) ((s_call (ok_off_by T) (by decide) T.g_off_by T.F_off_by.kp T.b_off_by (a_cons (s_v 0) (a_cons ((s_ix (s_v 1) (s_int))) (a_cons ((s_ix (s_v 1) (s_int))) (a_nil)))))) (s_int)))))))))))) T.hX (fun v q h => nomatch h))
theorem ok_is_change (T : TxtC C) : Fn C 3 T.f_is_change T.d_is_change ["thing"] (spM C 1 m_is_change) :=
  Fn.noq (fn_body (C := C.noq) (k := 2) (FunA.of T.F_is_change) sc_is_change (TxtC.uses T.noq fun T => show SB C.noq (defScope st_is_change) N_is_change 2 (defBody st_is_change) B_is_change from
    (b_cons (x_if (t_w (w_or ((t_not (t_val ((s_bf c_isi T.n_isinstance bt_isinstance (a_cons (s_v 0) (a_cons ((s_bty T.n_tuple bt_tuple)) (a_nil)))))))) (w_or ((t_cmp (o_ne) ((s_bf c_len T.n_len bt_len (a_cons (s_v 0) (a_nil)))) (s_int))) (w_or1 ((t_not (t_val ((s_bf c_all T.n_all bt_all (a_cons ((s_lc true [("one", 1)] (i_row (s_v 0)) (g_name 1) c_yes ((s_call (ok_is_fraction T) (by decide) T.g_is_fraction T.F_is_fraction.kp T.b_is_fraction (a_cons (s_v 1) (a_nil)))))) (a_nil))))))))))) (b_one (x_ret (s_bl))) b_nil) (b_one (x_ret ((s_cmp (o_ne) ((s_ix (s_v 0) (s_int))) (s_int))))))) T.hX (fun v q h => nomatch h))
theorem ok_need_change (T : TxtC C) : Fn C 4 T.f_need_change T.d_need_change ["change"] (spM C 1 m_need_change) :=
  Fn.noq (fn_body (C := C.noq) (k := 3) (FunA.of T.F_need_change) sc_need_change (TxtC.uses T.noq fun T => show SB C.noq (defScope st_need_change) N_need_change 3 (defBody st_need_change) B_need_change from
    (b_one (x_if (t_not (t_val ((s_call (ok_is_change T) (by decide) T.g_is_change T.F_is_change.kp T.b_is_change (a_cons (s_v 0) (a_nil)))))) (b_one x_never) b_nil))) T.hX (fun v q h => nomatch h))
theorem ok_by_power (T : TxtC C) : Fn C 5 T.f_by_power T.d_by_power ["a", "u", "many"] (spM C 3 m_by_power) :=
  Fn.noq (fn_body (C := C.noq) (k := 4) (FunA.of T.F_by_power) sc_by_power (TxtC.uses T.noq fun T => show SB C.noq (defScope st_by_power) N_by_power 4 (defBody st_by_power) B_by_power from
    (b_cons (x_for (i_r1 (a_cons (s_v 2) (a_nil)) T.n_range) (g_name 3) (b_one (x_asg ((s_call (ok_quotient T) (by decide) T.g_quotient T.F_quotient.kp T.b_quotient (a_cons (s_v 0) (a_cons (s_v 1) (a_nil))))) (g_name 0)))) (b_one (x_ret (s_v 0))))) T.hX (fun v q h => nomatch h))
theorem ok_own_led (T : TxtC C) : Fn C 6 T.f_own_led T.d_own_led ["curve", "change"] (spM C 2 m_own_led) :=
  Fn.noq (fn_body (C := C.noq) (k := 5) (FunA.of T.F_own_led) sc_own_led (TxtC.uses T.noq fun T => show SB C.noq (defScope st_own_led) N_own_led 5 (defBody st_own_led) B_own_led from
    (b_cons (x_asg (s_v 0) (g_tup (n := 5) (gs_cons (g_name 2) (gs_cons (g_name 3) (gs_cons (g_name 4) (gs_cons (g_name 5) (gs_cons (g_name 6) gs_nil))))))) (b_cons (x_asg (s_v 1) (g_tup (n := 4) (gs_cons (g_name 7) (gs_cons (g_name 8) (gs_cons (g_name 9) (gs_cons (g_name 10) gs_nil)))))) (b_cons (x_asg ((s_call (ok_summed T) (by decide) T.g_summed T.F_summed.kp T.b_summed (a_cons ((s_lst (a_cons ((s_tup (a_cons (s_v 3) (a_nil)))) (a_cons ((s_tup (a_cons ((s_neg (s_int))) (a_cons (s_v 9) (a_cons (s_v 2) (a_nil)))))) (a_cons ((s_tup (a_cons (s_int) (a_cons (s_v 8) (a_nil))))) (a_cons ((s_tup (a_cons ((s_neg (s_int))) (a_cons (s_v 9) (a_cons (s_v 9) (a_nil)))))) (a_nil))))))) (a_nil)))) (g_name 11)) (b_cons (x_asg ((s_call (ok_summed T) (by decide) T.g_summed T.F_summed.kp T.b_summed (a_cons ((s_lst (a_cons ((s_tup (a_cons (s_v 5) (a_nil)))) (a_cons ((s_tup (a_cons ((s_neg (s_int))) (a_cons (s_v 9) (a_cons (s_v 4) (a_nil)))))) (a_cons ((s_tup (a_cons (s_int) (a_cons (s_v 8) (a_cons (s_v 3) (a_nil)))))) (a_cons ((s_tup (a_cons ((s_neg (s_int))) (a_cons (s_v 10) (a_cons (s_v 2) (a_nil)))))) (a_cons ((s_tup (a_cons ((s_neg (s_int))) (a_cons (s_v 8) (a_cons (s_v 9) (a_cons (s_v 2) (a_nil))))))) (a_cons ((s_tup (a_cons (s_int) (a_cons (s_v 8) (a_cons (s_v 8) (a_nil)))))) (a_cons ((s_tup (a_cons ((s_neg (s_int))) (a_cons (s_v 9) (a_cons (s_v 10) (a_nil)))))) (a_nil)))))))))) (a_nil)))) (g_name 12)) (b_cons (x_asg ((s_call (ok_summed T) (by decide) T.g_summed T.F_summed.kp T.b_summed (a_cons ((s_lst (a_cons ((s_tup (a_cons (s_v 6) (a_nil)))) (a_cons ((s_tup (a_cons (s_v 8) (a_cons (s_v 5) (a_nil))))) (a_cons ((s_tup (a_cons (s_v 8) (a_cons (s_v 8) (a_cons (s_v 3) (a_nil)))))) (a_cons ((s_tup (a_cons (s_v 8) (a_cons (s_v 8) (a_cons (s_v 8) (a_nil)))))) (a_cons ((s_tup (a_cons ((s_neg (s_int))) (a_cons (s_v 10) (a_cons (s_v 4) (a_nil)))))) (a_cons ((s_tup (a_cons ((s_neg (s_int))) (a_cons (s_v 10) (a_cons (s_v 10) (a_nil)))))) (a_cons ((s_tup (a_cons ((s_neg (s_int))) (a_cons (s_v 8) (a_cons (s_v 10) (a_cons (s_v 2) (a_nil))))))) (a_nil)))))))))) (a_nil)))) (g_name 13)) (b_cons (x_asg ((s_lst (a_cons ((s_call (ok_summed T) (by decide) T.g_summed T.F_summed.kp T.b_summed (a_cons ((s_lst (a_cons ((s_tup (a_cons (s_v 2) (a_nil)))) (a_cons ((s_tup (a_cons (s_int) (a_cons (s_v 9) (a_nil))))) (a_nil))))) (a_nil)))) (a_cons (s_v 11) (a_cons ((s_call (ok_summed T) (by decide) T.g_summed T.F_summed.kp T.b_summed (a_cons ((s_lst (a_cons ((s_tup (a_cons (s_v 4) (a_nil)))) (a_cons ((s_tup (a_cons (s_v 8) (a_cons (s_v 2) (a_nil))))) (a_cons ((s_tup (a_cons (s_int) (a_cons (s_v 10) (a_nil))))) (a_nil)))))) (a_nil)))) (a_cons (s_v 12) (a_cons (s_v 13) (a_nil)))))))) (g_name 14)) (b_one (x_ret ((s_bt c_tup T.n_tuple bt_tuple (a_cons ((s_lc true [("one", 15), ("many", 16)] (i_zim (s_v 14) ((s_tup (a_cons (s_int) (a_cons (s_int) (a_cons (s_int) (a_cons (s_int) (a_cons (s_int) (a_nil)))))))) T.n_zip) (g_tup (n := 2) (gs_cons (g_name 15) (gs_cons (g_name 16) gs_nil))) c_yes ((s_call (ok_by_power T) (by decide) T.g_by_power T.F_by_power.kp T.b_by_power (a_cons (s_v 15) (a_cons (s_v 7) (a_cons (s_v 16) (a_nil)))))))) (a_nil))))))))))))) T.hX (fun v q h => nomatch h))
theorem ok_led (T : TxtC C) : Fn C 9 T.f_led T.d_led ["curve", "change"] (spM C 2 m_led) :=
  Fn.noq (fn_body (C := C.noq) (k := 8) (FunA.of T.F_led) sc_led (TxtC.uses T.noq fun T => show SB C.noq (defScope st_led) N_led 8 (defBody st_led) B_led from
    (b_cons (x_exp ((s_call (ok_need_curve T) (by decide) T.g_need_curve T.F_need_curve.kp T.b_need_curve (a_cons (s_v 0) (a_nil))))) (b_cons (x_exp ((s_call (ok_need_change T) (by decide) T.g_need_change T.F_need_change.kp T.b_need_change (a_cons (s_v 1) (a_nil))))) (b_one (x_ret ((s_call (ok_own_led T) (by decide) T.g_own_led T.F_own_led.kp T.b_own_led (a_cons (s_v 0) (a_cons (s_v 1) (a_nil)))))))))) T.hX (fun v q h => nomatch h))
theorem ok_own_led_point (T : TxtC C) : Fn C 6 T.f_own_led_point T.d_own_led_point ["point", "change"] (spM C 2 m_own_led_point) :=
  Fn.noq (fn_body (C := C.noq) (k := 5) (FunA.of T.F_own_led_point) sc_own_led_point (TxtC.uses T.noq fun T => show SB C.noq (defScope st_own_led_point) N_own_led_point 5 (defBody st_own_led_point) B_own_led_point from
    (b_cons (x_if (t_cmp (o_is) (s_v 0) (s_non)) (b_one (x_ret (s_non))) b_nil) (b_cons (x_tas (a_cons (s_v 0) (a_cons (s_v 1) (a_nil))) (gd_cons (g_tup (n := 2) (gs_cons (g_name 2) (gs_cons (g_name 3) gs_nil))) (gd_cons (g_tup (n := 4) (gs_cons (g_name 4) (gs_cons (g_name 5) (gs_cons (g_name 6) (gs_cons (g_name 7) gs_nil))))) gd_nil))) (b_cons (x_asg ((s_call (ok_summed T) (by decide) T.g_summed T.F_summed.kp T.b_summed (a_cons ((s_lst (a_cons ((s_tup (a_cons (s_v 3) (a_nil)))) (a_cons ((s_tup (a_cons ((s_neg (s_int))) (a_cons (s_v 6) (a_cons (s_v 2) (a_nil)))))) (a_cons ((s_tup (a_cons (s_v 6) (a_cons (s_v 5) (a_nil))))) (a_cons ((s_tup (a_cons ((s_neg (s_int))) (a_cons (s_v 7) (a_nil))))) (a_nil))))))) (a_nil)))) (g_name 8)) (b_one (x_ret ((s_tup (a_cons ((s_call (ok_by_power T) (by decide) T.g_by_power T.F_by_power.kp T.b_by_power (a_cons ((s_call (ok_summed T) (by decide) T.g_summed T.F_summed.kp T.b_summed (a_cons ((s_lst (a_cons ((s_tup (a_cons (s_v 2) (a_nil)))) (a_cons ((s_tup (a_cons ((s_neg (s_int))) (a_cons (s_v 5) (a_nil))))) (a_nil))))) (a_nil)))) (a_cons (s_v 4) (a_cons (s_int) (a_nil)))))) (a_cons ((s_call (ok_by_power T) (by decide) T.g_by_power T.F_by_power.kp T.b_by_power (a_cons (s_v 8) (a_cons (s_v 4) (a_cons (s_int) (a_nil)))))) (a_nil))))))))))) T.hX (fun v q h => nomatch h))
theorem ok_led_point (T : TxtC C) : Fn C 9 T.f_led_point T.d_led_point ["curve", "point", "change"] (spM C 3 m_led_point) :=
  Fn.noq (fn_body (C := C.noq) (k := 8) (FunA.of T.F_led_point) sc_led_point (TxtC.uses T.noq fun T => show SB C.noq (defScope st_led_point) N_led_point 8 (defBody st_led_point) B_led_point from
    (b_cons (x_exp ((s_call (ok_need_curve T) (by decide) T.g_need_curve T.F_need_curve.kp T.b_need_curve (a_cons (s_v 0) (a_nil))))) (b_cons (x_if (t_not (t_val ((s_call (ok_lies_on T) (by decide) T.g_lies_on T.F_lies_on.kp T.b_lies_on (a_cons (s_v 0) (a_cons (s_v 1) (a_nil))))))) (b_one x_never) b_nil) (b_cons (x_exp ((s_call (ok_need_change T) (by decide) T.g_need_change T.F_need_change.kp T.b_need_change (a_cons (s_v 2) (a_nil))))) (b_one (x_ret ((s_call (ok_own_led_point T) (by decide) T.g_own_led_point T.F_own_led_point.kp T.b_own_led_point (a_cons (s_v 1) (a_cons (s_v 2) (a_nil))))))))))) T.hX (fun v q h => nomatch h))
theorem ok_root_below (T : TxtC C) : Fn C 1 T.f_root_below T.d_root_below ["number"] (spM C 1 m_root_below) :=
  Fn.noq (fn_body (C := C.noq) (k := 0) (FunA.of T.F_root_below) sc_root_below (TxtC.uses T.noq fun T => show SB C.noq (defScope st_root_below) N_root_below 0 (defBody st_root_below) B_root_below from
    (b_cons (x_asg ((s_bin (o_shl) (s_int) ((s_bin (o_add true) ((s_bin (o_div) ((s_bits (s_v 0))) (s_int))) (s_int))))) (g_name 1)) (b_cons (x_asg ((s_bin (o_div) ((s_bin (o_add true) (s_v 1) ((s_bin (o_div) (s_v 0) (s_v 1))))) (s_int))) (g_name 2)) (b_cons (x_while (t_cmp (o_lt) (s_v 2) (s_v 1)) (b_one (x_par 1 2 (a_cons (s_v 2) (a_cons ((s_if ((t_cmp (o_gt) (s_v 2) (s_int))) ((s_bin (o_div) ((s_bin (o_add true) (s_v 2) ((s_bin (o_div) (s_v 0) (s_v 2))))) (s_int))) (s_int))) (a_nil))) (hw := by intro env h; cases env; cases h; rfl)))) (b_one (x_ret (s_v 1))))))) T.hX (fun v q h => nomatch h))
theorem ok_own_root (T : TxtC C) : Fn C 2 T.f_own_root T.d_own_root ["number"] (spM C 1 m_own_root) :=
  Fn.noq (fn_body (C := C.noq) (k := 1) (FunA.of T.F_own_root) sc_own_root (TxtC.uses T.noq fun T => show SB C.noq (defScope st_own_root) N_own_root 1 (defBody st_own_root) B_own_root from
    (b_cons (x_if (t_cmp (o_lt) (s_v 0) (s_int)) (b_one (x_ret (s_non))) b_nil) (b_cons (x_asg ((s_call (ok_root_below T) (by decide) T.g_root_below T.F_root_below.kp T.b_root_below (a_cons (s_v 0) (a_nil)))) (g_name 1)) (b_one (x_ret ((s_if ((t_cmp (o_eq) ((s_bin (o_mul true) (s_v 1) (s_v 1))) (s_v 0))) (s_v 1) (s_non)))))))) T.hX (fun v q h => nomatch h))
theorem ok_together_of (T : TxtC C) : Fn C 4 T.f_together_of T.d_together_of ["things"] (spM C 1 m_together_of) :=
  Fn.noq (fn_body (C := C.noq) (k := 3) (FunA.of T.F_together_of) sc_together_of (TxtC.uses T.noq fun T => show SB C.noq (defScope st_together_of) N_together_of 3 (defBody st_together_of) B_together_of from
    (b_cons (x_asg (s_int) (g_name 1)) (b_cons (x_for (i_row (s_v 0)) (g_name 2) (b_one (x_asg ((s_call (ok_sum_of_two T) (by decide) T.g_sum_of_two T.F_sum_of_two.kp T.b_sum_of_two (a_cons (s_v 1) (a_cons (s_v 2) (a_nil))))) (g_name 1)))) (b_one (x_ret (s_v 1)))))) T.hX (fun v q h => nomatch h))
theorem ok_is_on (T : TxtC C) : Fn C 5 T.f_is_on T.d_is_on ["curve", "thing"] (spM C 2 m_is_on) :=
  Fn.noq (fn_body (C := C.noq) (k := 4) (FunA.of T.F_is_on) sc_is_on (TxtC.uses T.noq fun T => show SB C.noq (defScope st_is_on) N_is_on 4 (defBody st_is_on) B_is_on from
    (b_cons (x_if (t_cmp (o_is) (s_v 1) (s_non)) (b_one (x_ret (s_bl))) b_nil) (b_cons (x_if (t_w (w_or ((t_not (t_val ((s_bf c_isi T.n_isinstance bt_isinstance (a_cons (s_v 1) (a_cons ((s_bty T.n_tuple bt_tuple)) (a_nil)))))))) (w_or ((t_cmp (o_ne) ((s_bf c_len T.n_len bt_len (a_cons (s_v 1) (a_nil)))) (s_int))) (w_or1 ((t_not (t_val ((s_bf c_all T.n_all bt_all (a_cons ((s_lc true [("one", 2)] (i_row (s_v 1)) (g_name 2) c_yes ((s_call (ok_is_fraction T) (by decide) T.g_is_fraction T.F_is_fraction.kp T.b_is_fraction (a_cons (s_v 2) (a_nil)))))) (a_nil))))))))))) (b_one (x_ret (s_bl))) b_nil) (b_cons (x_asg (s_v 0) (g_tup (n := 5) (gs_cons (g_name 3) (gs_cons (g_name 4) (gs_cons (g_name 5) (gs_cons (g_name 6) (gs_cons (g_name 7) gs_nil))))))) (b_cons (x_asg (s_v 1) (g_tup (n := 2) (gs_cons (g_name 8) (gs_cons (g_name 9) gs_nil)))) (b_cons (x_asg ((s_call (ok_product T) (by decide) T.g_product T.F_product.kp T.b_product (a_cons (s_v 9) (a_cons ((s_call (ok_together_of T) (by decide) T.g_together_of T.F_together_of.kp T.b_together_of (a_cons ((s_lst (a_cons (s_v 9) (a_cons ((s_call (ok_product T) (by decide) T.g_product T.F_product.kp T.b_product (a_cons (s_v 3) (a_cons (s_v 8) (a_nil))))) (a_cons (s_v 5) (a_nil)))))) (a_nil)))) (a_nil))))) (g_name 10)) (b_cons (x_asg ((s_call (ok_sum_of_two T) (by decide) T.g_sum_of_two T.F_sum_of_two.kp T.b_sum_of_two (a_cons ((s_call (ok_product T) (by decide) T.g_product T.F_product.kp T.b_product (a_cons ((s_call (ok_sum_of_two T) (by decide) T.g_sum_of_two T.F_sum_of_two.kp T.b_sum_of_two (a_cons ((s_call (ok_product T) (by decide) T.g_product T.F_product.kp T.b_product (a_cons ((s_call (ok_sum_of_two T) (by decide) T.g_sum_of_two T.F_sum_of_two.kp T.b_sum_of_two (a_cons (s_v 8) (a_cons (s_v 4) (a_nil))))) (a_cons (s_v 8) (a_nil))))) (a_cons (s_v 6) (a_nil))))) (a_cons (s_v 8) (a_nil))))) (a_cons (s_v 7) (a_nil))))) (g_name 11)) (b_one (x_ret ((s_cmp (o_eq) (s_v 10) (s_v 11)))))))))))) T.hX (fun v q h => nomatch h))
theorem ok_need_point (T : TxtC C) : Fn C 6 T.f_need_point T.d_need_point ["curve", "thing"] (spM C 2 m_need_point) :=
  Fn.noq (fn_body (C := C.noq) (k := 5) (FunA.of T.F_need_point) sc_need_point (TxtC.uses T.noq fun T => show SB C.noq (defScope st_need_point) N_need_point 5 (defBody st_need_point) B_need_point from
    (b_one (x_if (t_not (t_val ((s_call (ok_is_on T) (by decide) T.g_is_on T.F_is_on.kp T.b_is_on (a_cons (s_v 0) (a_cons (s_v 1) (a_nil))))))) (b_one x_never) b_nil))) T.hX (fun v q h => nomatch h))
theorem ok_opposite_of (T : TxtC C) : Fn C 5 T.f_opposite_of T.d_opposite_of ["curve", "point"] (spM C 2 m_opposite_of) :=
  Fn.noq (fn_body (C := C.noq) (k := 4) (FunA.of T.F_opposite_of) sc_opposite_of (TxtC.uses T.noq fun T => show SB C.noq (defScope st_opposite_of) N_opposite_of 4 (defBody st_opposite_of) B_opposite_of from
    (b_cons (x_if (t_cmp (o_is) (s_v 1) (s_non)) (b_one (x_ret (s_non))) b_nil) (b_cons (x_asg (s_v 1) (g_tup (n := 2) (gs_cons (g_name 2) (gs_cons (g_name 3) gs_nil)))) (b_one (x_ret ((s_tup (a_cons (s_v 2) (a_cons ((s_call (ok_turned T) (by decide) T.g_turned T.F_turned.kp T.b_turned (a_cons ((s_call (ok_together_of T) (by decide) T.g_together_of T.F_together_of.kp T.b_together_of (a_cons ((s_lst (a_cons (s_v 3) (a_cons ((s_call (ok_product T) (by decide) T.g_product T.F_product.kp T.b_product (a_cons ((s_ix (s_v 0) (s_int))) (a_cons (s_v 2) (a_nil))))) (a_cons ((s_ix (s_v 0) (s_int))) (a_nil)))))) (a_nil)))) (a_nil)))) (a_nil)))))))))) T.hX (fun v q h => nomatch h))
theorem ok_slope_of (T : TxtC C) : Fn C 5 T.f_slope_of T.d_slope_of ["curve", "one", "other"] (spM C 3 m_slope_of) :=
  Fn.noq (fn_body (C := C.noq) (k := 4) (FunA.of T.F_slope_of) sc_slope_of (TxtC.uses T.noq fun T => show SB C.noq (defScope st_slope_of) N_slope_of 4 (defBody st_slope_of) B_slope_of from
    (b_cons (x_asg (s_v 0) (g_tup (n := 5) (gs_cons (g_name 3) (gs_cons (g_name 4) (gs_cons (g_name 5) (gs_cons (g_name 6) (gs_cons (g_name 7) gs_nil))))))) (b_cons (x_tas (a_cons (s_v 1) (a_cons (s_v 2) (a_nil))) (gd_cons (g_tup (n := 2) (gs_cons (g_name 8) (gs_cons (g_name 9) gs_nil))) (gd_cons (g_tup (n := 2) (gs_cons (g_name 10) (gs_cons (g_name 11) gs_nil))) gd_nil))) (b_cons (x_if (t_cmp (o_ne) (s_v 8) (s_v 10)) (b_one (x_ret ((s_call (ok_quotient T) (by decide) T.g_quotient T.F_quotient.kp T.b_quotient (a_cons ((s_call (ok_sum_of_two T) (by decide) T.g_sum_of_two T.F_sum_of_two.kp T.b_sum_of_two (a_cons (s_v 11) (a_cons ((s_call (ok_turned T) (by decide) T.g_turned T.F_turned.kp T.b_turned (a_cons (s_v 9) (a_nil)))) (a_nil))))) (a_cons ((s_call (ok_sum_of_two T) (by decide) T.g_sum_of_two T.F_sum_of_two.kp T.b_sum_of_two (a_cons (s_v 10) (a_cons ((s_call (ok_turned T) (by decide) T.g_turned T.F_turned.kp T.b_turned (a_cons (s_v 8) (a_nil)))) (a_nil))))) (a_nil))))))) b_nil) (b_cons (x_asg ((s_call (ok_together_of T) (by decide) T.g_together_of T.F_together_of.kp T.b_together_of (a_cons ((s_lst (a_cons ((s_call (ok_product T) (by decide) T.g_product T.F_product.kp T.b_product (a_cons (s_int) (a_cons ((s_call (ok_product T) (by decide) T.g_product T.F_product.kp T.b_product (a_cons (s_v 8) (a_cons (s_v 8) (a_nil))))) (a_nil))))) (a_cons ((s_call (ok_product T) (by decide) T.g_product T.F_product.kp T.b_product (a_cons (s_int) (a_cons ((s_call (ok_product T) (by decide) T.g_product T.F_product.kp T.b_product (a_cons (s_v 4) (a_cons (s_v 8) (a_nil))))) (a_nil))))) (a_cons (s_v 6) (a_cons ((s_call (ok_turned T) (by decide) T.g_turned T.F_turned.kp T.b_turned (a_cons ((s_call (ok_product T) (by decide) T.g_product T.F_product.kp T.b_product (a_cons (s_v 3) (a_cons (s_v 9) (a_nil))))) (a_nil)))) (a_nil))))))) (a_nil)))) (g_name 12)) (b_one (x_ret ((s_call (ok_quotient T) (by decide) T.g_quotient T.F_quotient.kp T.b_quotient (a_cons (s_v 12) (a_cons ((s_call (ok_together_of T) (by decide) T.g_together_of T.F_together_of.kp T.b_together_of (a_cons ((s_lst (a_cons (s_v 9) (a_cons (s_v 9) (a_cons ((s_call (ok_product T) (by decide) T.g_product T.F_product.kp T.b_product (a_cons (s_v 3) (a_cons (s_v 8) (a_nil))))) (a_cons (s_v 5) (a_nil))))))) (a_nil)))) (a_nil)))))))))))) T.hX (fun v q h => nomatch h))
theorem ok_sum_on (T : TxtC C) : Fn C 6 T.f_sum_on T.d_sum_on ["curve", "one", "other"] (spM C 3 m_sum_on) :=
  Fn.noq (fn_body (C := C.noq) (k := 5) (FunA.of T.F_sum_on) sc_sum_on (TxtC.uses T.noq fun T => show SB C.noq (defScope st_sum_on) N_sum_on 5 (defBody st_sum_on) B_sum_on from
    (b_cons (x_if (t_w (w_or ((t_cmp (o_is) (s_v 1) (s_non))) (w_or1 ((t_cmp (o_is) (s_v 2) (s_non)))))) (b_one (x_ret ((s_if ((t_cmp (o_is) (s_v 1) (s_non))) (s_v 2) (s_v 1))))) b_nil) (b_cons (x_if (t_cmp (o_eq) (s_v 2) ((s_call (ok_opposite_of T) (by decide) T.g_opposite_of T.F_opposite_of.kp T.b_opposite_of (a_cons (s_v 0) (a_cons (s_v 1) (a_nil)))))) (b_one (x_ret (s_non))) b_nil) (b_cons (x_asg (s_v 0) (g_tup (n := 5) (gs_cons (g_name 3) (gs_cons (g_name 4) (gs_cons (g_name 5) (gs_cons (g_name 6) (gs_cons (g_name 7) gs_nil))))))) (b_cons (x_asg ((s_call (ok_slope_of T) (by decide) T.g_slope_of T.F_slope_of.kp T.b_slope_of (a_cons (s_v 0) (a_cons (s_v 1) (a_cons (s_v 2) (a_nil)))))) (g_name 8)) (b_cons (x_asg ((s_call (ok_together_of T) (by decide) T.g_together_of T.F_together_of.kp T.b_together_of (a_cons ((s_lst (a_cons ((s_call (ok_product T) (by decide) T.g_product T.F_product.kp T.b_product (a_cons (s_v 8) (a_cons ((s_call (ok_sum_of_two T) (by decide) T.g_sum_of_two T.F_sum_of_two.kp T.b_sum_of_two (a_cons (s_v 8) (a_cons (s_v 3) (a_nil))))) (a_nil))))) (a_cons ((s_call (ok_turned T) (by decide) T.g_turned T.F_turned.kp T.b_turned (a_cons (s_v 4) (a_nil)))) (a_cons ((s_call (ok_turned T) (by decide) T.g_turned T.F_turned.kp T.b_turned (a_cons ((s_ix (s_v 1) (s_int))) (a_nil)))) (a_cons ((s_call (ok_turned T) (by decide) T.g_turned T.F_turned.kp T.b_turned (a_cons ((s_ix (s_v 2) (s_int))) (a_nil)))) (a_nil))))))) (a_nil)))) (g_name 9)) (b_cons (x_asg ((s_call (ok_sum_of_two T) (by decide) T.g_sum_of_two T.F_sum_of_two.kp T.b_sum_of_two (a_cons ((s_ix (s_v 1) (s_int))) (a_cons ((s_call (ok_product T) (by decide) T.g_product T.F_product.kp T.b_product (a_cons (s_v 8) (a_cons ((s_call (ok_sum_of_two T) (by decide) T.g_sum_of_two T.F_sum_of_two.kp T.b_sum_of_two (a_cons (s_v 9) (a_cons ((s_call (ok_turned T) (by decide) T.g_turned T.F_turned.kp T.b_turned (a_cons ((s_ix (s_v 1) (s_int))) (a_nil)))) (a_nil))))) (a_nil))))) (a_nil))))) (g_name 10)) (b_one (x_ret ((s_call (ok_opposite_of T) (by decide) T.g_opposite_of T.F_opposite_of.kp T.b_opposite_of (a_cons (s_v 0) (a_cons ((s_tup (a_cons (s_v 9) (a_cons (s_v 10) (a_nil))))) (a_nil)))))))))))))) T.hX (fun v q h => nomatch h))
theorem ok_opposite (T : TxtC C) : Fn C 9 T.f_opposite T.d_opposite ["curve", "point"] (spM C 2 m_opposite) :=
  Fn.noq (fn_body (C := C.noq) (k := 8) (FunA.of T.F_opposite) sc_opposite (TxtC.uses T.noq fun T => show SB C.noq (defScope st_opposite) N_opposite 8 (defBody st_opposite) B_opposite from
    (b_cons (x_exp ((s_call (ok_need_curve T) (by decide) T.g_need_curve T.F_need_curve.kp T.b_need_curve (a_cons (s_v 0) (a_nil))))) (b_cons (x_exp ((s_call (ok_need_point T) (by decide) T.g_need_point T.F_need_point.kp T.b_need_point (a_cons (s_v 0) (a_cons (s_v 1) (a_nil)))))) (b_one (x_ret ((s_call (ok_opposite_of T) (by decide) T.g_opposite_of T.F_opposite_of.kp T.b_opposite_of (a_cons (s_v 0) (a_cons (s_v 1) (a_nil)))))))))) T.hX (fun v q h => nomatch h))
theorem ok_added (T : TxtC C) : Fn C 9 T.f_added T.d_added ["curve", "one", "other"] (spM C 3 m_added) :=
  Fn.noq (fn_body (C := C.noq) (k := 8) (FunA.of T.F_added) sc_added (TxtC.uses T.noq fun T => show SB C.noq (defScope st_added) N_added 8 (defBody st_added) B_added from
    (b_cons (x_exp ((s_call (ok_need_curve T) (by decide) T.g_need_curve T.F_need_curve.kp T.b_need_curve (a_cons (s_v 0) (a_nil))))) (b_cons (x_exp ((s_call (ok_need_point T) (by decide) T.g_need_point T.F_need_point.kp T.b_need_point (a_cons (s_v 0) (a_cons (s_v 1) (a_nil)))))) (b_cons (x_exp ((s_call (ok_need_point T) (by decide) T.g_need_point T.F_need_point.kp T.b_need_point (a_cons (s_v 0) (a_cons (s_v 2) (a_nil)))))) (b_one (x_ret ((s_call (ok_sum_on T) (by decide) T.g_sum_on T.F_sum_on.kp T.b_sum_on (a_cons (s_v 0) (a_cons (s_v 1) (a_cons (s_v 2) (a_nil)))))))))))) T.hX (fun v q h => nomatch h))
theorem ok_need_whole (T : TxtC C) : Fn C 9 T.f_need_whole T.d_need_whole ["curve"] (spM C 1 m_need_whole) :=
  Fn.noq (fn_body (C := C.noq) (k := 8) (FunA.of T.F_need_whole) sc_need_whole (TxtC.uses T.noq fun T => show SB C.noq (defScope st_need_whole) N_need_whole 8 (defBody st_need_whole) B_need_whole from
    (b_cons (x_exp ((s_call (ok_need_curve T) (by decide) T.g_need_curve T.F_need_curve.kp T.b_need_curve (a_cons (s_v 0) (a_nil))))) (b_one (x_if (t_not (t_val ((s_bf c_all T.n_all bt_all (a_cons ((s_lc true [("a", 1)] (i_row (s_v 0)) (g_name 1) c_yes ((s_bf c_isi T.n_isinstance bt_isinstance (a_cons (s_v 1) (a_cons ((s_bty T.n_int bt_int)) (a_nil))))))) (a_nil)))))) (b_one x_never) b_nil)))) T.hX (fun v q h => nomatch h))
theorem ok_need_bound (T : TxtC C) : Fn C 1 T.f_need_bound T.d_need_bound ["bound"] (spM C 1 m_need_bound) :=
  Fn.noq (fn_body (C := C.noq) (k := 0) (FunA.of T.F_need_bound) sc_need_bound (TxtC.uses T.noq fun T => show SB C.noq (defScope st_need_bound) N_need_bound 0 (defBody st_need_bound) B_need_bound from
    (b_one (x_if (t_w (w_or ((t_not (t_val ((s_bf c_isi T.n_isinstance bt_isinstance (a_cons (s_v 0) (a_cons ((s_bty T.n_int bt_int)) (a_nil)))))))) (w_or ((t_val ((s_bf c_isi T.n_isinstance bt_isinstance (a_cons (s_v 0) (a_cons ((s_bty T.n_bool bt_bool)) (a_nil))))))) (w_or1 ((t_not (t_chain (o_le) (o_le) (s_int) (s_v 0) (T.k_FAR)))))))) (b_one x_never) b_nil))) T.hX (fun v q h => nomatch h))
theorem ok_divisor (T : TxtC C) : Fn C 1 T.f_divisor T.d_divisor ["a", "b"] (spM C 2 m_divisor) :=
  Fn.noq (fn_body (C := C.noq) (k := 0) (FunA.of T.F_divisor) sc_divisor (TxtC.uses T.noq fun T => show SB C.noq (defScope st_divisor) N_divisor 0 (defBody st_divisor) B_divisor from
    (b_cons (x_par 2 3 (a_cons ((s_bf c_abs T.n_abs bt_abs (a_cons (s_v 0) (a_nil)))) (a_cons ((s_bf c_abs T.n_abs bt_abs (a_cons (s_v 1) (a_nil)))) (a_nil))) (hw := by intro env h; cases env; cases h; rfl)) (b_cons (x_while (t_cmp (o_ne) (s_v 3) (s_int)) (b_one (x_par 2 3 (a_cons (s_v 3) (a_cons ((s_bin (o_mod) (s_v 2) (s_v 3))) (a_nil))) (hw := by intro env h; cases env; cases h; rfl)))) (b_one (x_ret (s_v 2)))))) T.hX (fun v q h => nomatch h))
theorem ok_points_at (T : TxtC C) : Fn C 4 T.f_points_at T.d_points_at ["curve", "halves", "a", "d"] (spM C 4 m_points_at) :=
  Fn.noq (fn_body (C := C.noq) (k := 3) (FunA.of T.F_points_at) sc_points_at (TxtC.uses T.noq fun T => show SB C.noq (defScope st_points_at) N_points_at 3 (defBody st_points_at) B_points_at from
    (b_cons (x_asg (s_v 0) (g_tup (n := 5) (gs_cons (g_name 4) (gs_cons (g_name 5) (gs_cons (g_name 6) (gs_cons (g_name 7) (gs_cons (g_name 8) gs_nil))))))) (b_cons (x_asg (s_v 1) (g_tup (n := 3) (gs_cons (g_name 9) (gs_cons (g_name 10) (gs_cons (g_name 11) gs_nil))))) (b_cons (x_asg ((s_call (ok_own_root T) (by decide) T.g_own_root T.F_own_root.kp T.b_own_root (a_cons ((s_bin (o_add true) ((s_bin (o_add true) ((s_bin (o_add true) ((s_bin (o_mul true) (s_int) ((s_bin (o_pow) (s_v 2) (s_int))))) ((s_bin (o_mul true) ((s_bin (o_mul true) ((s_bin (o_mul true) (s_v 9) (s_v 2))) (s_v 2))) ((s_bin (o_pow) (s_v 3) (s_int))))))) ((s_bin (o_mul true) ((s_bin (o_mul true) ((s_bin (o_mul true) (s_int) (s_v 10))) (s_v 2))) ((s_bin (o_pow) (s_v 3) (s_int))))))) ((s_bin (o_mul true) (s_v 11) ((s_bin (o_pow) (s_v 3) (s_int))))))) (a_nil)))) (g_name 12)) (b_cons (x_if (t_cmp (o_is) (s_v 12) (s_non)) (b_one (x_ret ((s_lst (a_nil))))) b_nil) (b_cons (x_asg ((s_bin (o_add true) ((s_bin (o_mul true) ((s_bin (o_mul true) (s_v 4) (s_v 2))) (s_v 3))) ((s_bin (o_mul true) (s_v 6) ((s_bin (o_pow) (s_v 3) (s_int))))))) (g_name 13)) (b_cons (x_asg ((s_if ((t_cmp (o_eq) (s_v 12) (s_int))) ((s_lst (a_cons ((s_bin (o_sub) (s_v 12) (s_v 13))) (a_nil)))) ((s_lst (a_cons ((s_bin (o_sub) ((s_neg (s_v 12))) (s_v 13))) (a_cons ((s_bin (o_sub) (s_v 12) (s_v 13))) (a_nil))))))) (g_name 14)) (b_one (x_ret ((s_lc true [("top", 15)] (i_row (s_v 14)) (g_name 15) c_yes ((s_tup (a_cons ((s_kw (ok_fraction T) (by decide) T.g_fraction T.F_fraction.kp T.w_fraction_0 (a_cons (s_v 2) (a_cons ((s_bin (o_mul true) (s_v 3) (s_v 3))) (a_nil))) k_nil)) (a_cons ((s_kw (ok_fraction T) (by decide) T.g_fraction T.F_fraction.kp T.w_fraction_0 (a_cons (s_v 15) (a_cons ((s_bin (o_mul true) (s_int) ((s_bin (o_pow) (s_v 3) (s_int))))) (a_nil))) k_nil)) (a_nil)))))))))))))))) T.hX (fun v q h => nomatch h))
theorem ok_sides (T : TxtC C) : Fn C 2 T.f_sides T.d_sides ["bound"] (spM C 1 m_sides) :=
  Fn.noq (fn_body (C := C.noq) (k := 1) (FunA.of T.F_sides) sc_sides (TxtC.uses T.noq fun T => show SB C.noq (defScope st_sides) N_sides 1 (defBody st_sides) B_sides from
    (b_cons (x_asg ((s_lso (a_nil))) (g_name 1)) (b_cons (x_for (i_r2 (a_cons (s_int) (a_cons (s_int) (a_nil))) T.n_range) (g_name 2) (b_one (x_if (t_cmp (o_le) ((s_bin (o_mul true) (s_v 2) (s_v 2))) (s_v 0)) (b_one (x_exp ((s_met PySem.F.plainAttrs_list PySem.F.slot_list_extend PySem.F.type_list_extend m_ext (s_v 1) (a_cons ((s_lc true [("a", 3)] (i_r2 (a_cons ((s_neg (s_v 0))) (a_cons ((s_bin (o_add true) (s_v 0) (s_int))) (a_nil))) T.n_range) (g_name 3) (c_if (t_cmp (o_eq) ((s_call (ok_divisor T) (by decide) T.g_divisor T.F_divisor.kp T.b_divisor (a_cons (s_v 3) (a_cons (s_v 2) (a_nil))))) (s_int))) ((s_tup (a_cons ((s_bin (o_mul true) (s_v 3) ((s_bin (o_div) (T.k_SQUARES) ((s_bin (o_mul true) (s_v 2) (s_v 2))))))) (a_cons (s_v 3) (a_cons (s_v 2) (a_nil)))))))) (a_nil)))))) b_nil))) (b_one (x_ret ((s_bf (c_srtT true) T.n_sorted bt_sorted (a_cons (s_v 1) (a_nil))))))))) T.hX (fun v q h => nomatch h))
theorem ok_all_to (T : TxtC C) : Fn C 10 T.f_all_to T.d_all_to ["curve", "bound"] (spM C 2 m_all_to) :=
  Fn.noq (fn_body (C := C.noq) (k := 9) (FunA.of T.F_all_to) sc_all_to (TxtC.uses T.noq fun T => show SB C.noq (defScope st_all_to) N_all_to 9 (defBody st_all_to) B_all_to from
    (b_cons (x_par 2 3 (a_cons ((s_lso (a_cons (s_non) (a_nil)))) (a_cons ((s_slc true ((s_call (ok_invariants T) (by decide) T.g_invariants T.F_invariants.kp T.b_invariants (a_cons (s_v 0) (a_nil)))) o_none (o_some (s_int)))) (a_nil))) (hw := by intro env h; cases env; cases h; rfl)) (b_cons (x_for (i_row ((s_call (ok_sides T) (by decide) T.g_sides T.F_sides.kp T.b_sides (a_cons (s_v 1) (a_nil))))) (g_tup (n := 3) (gs_cons (g_name 4) (gs_cons (g_name 5) (gs_cons (g_name 6) gs_nil)))) (b_one (x_exp ((s_met PySem.F.plainAttrs_list PySem.F.slot_list_extend PySem.F.type_list_extend m_ext (s_v 2) (a_cons ((s_call (ok_points_at T) (by decide) T.g_points_at T.F_points_at.kp T.b_points_at (a_cons (s_v 0) (a_cons (s_v 3) (a_cons (s_v 5) (a_cons (s_v 6) (a_nil))))))) (a_nil))))))) (b_one (x_ret ((s_frz (s_v 2)))))))) T.hX (fun v q h => nomatch h))
theorem ok_search (T : TxtC C) : Fn C 11 T.f_search T.d_search ["curve", "bound"] (spM C 2 m_search) :=
  Fn.noq (fn_body (C := C.noq) (k := 10) (FunA.of T.F_search) sc_search (TxtC.uses T.noq fun T => show SB C.noq (defScope st_search) N_search 10 (defBody st_search) B_search from
    (b_cons (x_exp ((s_call (ok_need_curve T) (by decide) T.g_need_curve T.F_need_curve.kp T.b_need_curve (a_cons (s_v 0) (a_nil))))) (b_cons (x_exp ((s_call (ok_need_bound T) (by decide) T.g_need_bound T.F_need_bound.kp T.b_need_bound (a_cons (s_v 1) (a_nil))))) (b_cons (x_exp ((s_call (ok_need_whole T) (by decide) T.g_need_whole T.F_need_whole.kp T.b_need_whole (a_cons (s_v 0) (a_nil))))) (b_one (x_ret ((s_call (ok_all_to T) (by decide) T.g_all_to T.F_all_to.kp T.b_all_to (a_cons (s_v 0) (a_cons (s_v 1) (a_nil))))))))))) T.hX (fun v q h => nomatch h))
theorem ok_Lmixed (T : TxtC C) : Fn C 1 T.f_Lmixed T.d_Lmixed ["_law_cell", "_law_k"] (spM C 2 m_Lmixed) :=
  Fn.noq (fn_body (C := C.noq) (k := 0) (FunA.of T.F_Lmixed) sc_Lmixed (TxtC.uses T.noq fun T => show SB C.noq (defScope st_Lmixed) N_Lmixed 0 (defBody st_Lmixed) B_Lmixed from
    (b_cons (x_asg ((s_ix ((s_lst (a_cons (s_int) (a_cons (s_int) (a_cons (s_int) (a_cons (s_int) (a_cons (s_int) (a_nil)))))))) ((s_bin (o_mod) (s_v 1) (s_int))))) (g_name 2)) (b_one (x_ret ((s_bin (o_mod) ((s_bin (o_mul true) ((s_bin (o_mod) ((s_bin (o_pow) ((s_bin (o_mod) ((s_bin (o_add true) ((s_bin (o_add true) (s_v 0) ((s_bin (o_mul true) (s_int) (s_v 1))))) (s_int))) (s_v 2))) (s_int))) (s_v 2))) ((s_bin (o_add true) (s_int) ((s_bin (o_mul true) (s_int) (s_v 1))))))) (s_v 2))))))) T.hX (fun v q h => nomatch h))
theorem ok_Ldraw (T : TxtC C) : Fn C 1 T.f_Ldraw T.d_Ldraw ["_law_script", "_law_k"] (spM C 2 m_Ldraw) :=
  Fn.noq (fn_body (C := C.noq) (k := 0) (FunA.of T.F_Ldraw) sc_Ldraw (TxtC.uses T.noq fun T => show SB C.noq (defScope st_Ldraw) N_Ldraw 0 (defBody st_Ldraw) B_Ldraw from
    (b_cons (x_asg ((s_if ((t_cmp (o_ne) (s_v 0) ((s_lst (a_nil))))) ((s_slc true (s_v 0) (o_some (s_v 1)) (o_some ((s_bin (o_add true) (s_v 1) (s_int)))))) ((s_lst (a_cons (s_int) (a_nil)))))) (g_name 2)) (b_one (x_ret (s_lsr (a_cons (s_v 2) (a_cons ((s_bin (o_mul true) (s_int) (s_v 1))) (a_cons (s_int) (a_cons ((s_lc false [("_law_cell", 3)] (i_row (s_v 2)) (g_name 3) (c_if (t_cmp (o_ge) (s_v 3) ((s_bin (o_pow) (s_int) (s_int))))) (s_v 3))) (a_nil)))))))))) T.hX (fun v q h => nomatch h))
theorem ok_Lnext (T : TxtC C) : Fn C 2 T.f_Lnext T.d_Lnext ["_law_draw_here", "_law_many"] (spM C 2 m_Lnext) :=
  Fn.noq (fn_body (C := C.noq) (k := 1) (FunA.of T.F_Lnext) sc_Lnext (TxtC.uses T.noq fun T => show SB C.noq (defScope st_Lnext) N_Lnext 1 (defBody st_Lnext) B_Lnext from
    (b_cons (x_if (t_w (w_and ((t_cmp (o_eq) ((s_rix (s_v 0) (s_int))) (s_int))) (w_and1 ((t_cmp (o_ne) ((s_rix (s_v 0) (s_int))) ((s_lst (a_nil)))))))) (b_one (x_rput (s_v 0) (s_int) ((s_met PySem.F.plainAttrs_list PySem.F.slot_list_pop PySem.F.type_list_pop m_pop0 ((s_rix (s_v 0) (s_int))) (a_cons (s_int) (a_nil)))))) b_nil) (b_cons (x_if (t_cmp (o_gt) ((s_rix (s_v 0) (s_int))) (s_int)) (b_cons (x_asg ((s_bin (o_mod) ((s_rix (s_v 0) (s_int))) (s_v 1))) (g_name 2)) (b_cons (x_rput (s_v 0) (s_int) ((s_bin (o_div) ((s_rix (s_v 0) (s_int))) (s_v 1)))) (b_one (x_ret (s_v 2))))) b_nil) (b_cons (x_rput (s_v 0) (s_int) ((s_bin (o_add true) ((s_rix (s_v 0) (s_int))) (s_int)))) (b_cons (x_asg ((s_ix ((s_rix (s_v 0) (s_int))) ((s_bin (o_mod) ((s_rix (s_v 0) (s_int))) ((s_bf c_len T.n_len bt_len (a_cons ((s_rix (s_v 0) (s_int))) (a_nil)))))))) (g_name 3)) (b_one (x_ret ((s_bin (o_mod) ((s_bin (o_div) ((s_bin (o_add true) ((s_bin (o_mul true) ((s_call (ok_Lmixed T) (by decide) T.g_Lmixed T.F_Lmixed.kp T.b_Lmixed (a_cons (s_v 3) (a_cons ((s_rix (s_v 0) (s_int))) (a_nil))))) (s_int))) ((s_call (ok_Lmixed T) (by decide) T.g_Lmixed T.F_Lmixed.kp T.b_Lmixed (a_cons (s_v 3) (a_cons ((s_bin (o_add true) ((s_rix (s_v 0) (s_int))) (s_int))) (a_nil))))))) (s_int))) (s_v 1)))))))))) T.hX (fun v q h => nomatch h))
theorem ok_Ld (T : TxtC C) : Fn C 1 T.f_Ld T.d_Ld ["_law_five"] (spM C 1 m_Ld) :=
  Fn.noq (fn_body (C := C.noq) (k := 0) (FunA.of T.F_Ld) sc_Ld (TxtC.uses T.noq fun T => show SB C.noq (defScope st_Ld) N_Ld 0 (defBody st_Ld) B_Ld from
    (b_cons (x_asg (s_v 0) (g_tup (n := 5) (gs_cons (g_name 1) (gs_cons (g_name 2) (gs_cons (g_name 3) (gs_cons (g_name 4) (gs_cons (g_name 5) gs_nil))))))) (b_cons (x_par 6 7 (a_cons ((s_bin (o_add true) ((s_bin (o_mul true) (s_v 1) (s_v 1))) ((s_bin (o_mul true) (s_int) (s_v 2))))) (a_cons ((s_bin (o_add true) ((s_bin (o_mul true) (s_int) (s_v 4))) ((s_bin (o_mul true) (s_v 1) (s_v 3))))) (a_nil))) (hw := by intro env h; cases env; cases h; rfl)) (b_cons (x_par 8 9 (a_cons ((s_bin (o_add true) ((s_bin (o_mul true) (s_v 3) (s_v 3))) ((s_bin (o_mul true) (s_int) (s_v 5))))) (a_cons ((s_bin (o_sub) ((s_bin (o_mul true) ((s_bin (o_mul true) (s_v 2) (s_v 3))) (s_v 3))) ((s_bin (o_mul true) (s_v 4) (s_v 4))))) (a_nil))) (hw := by intro env h; cases env; cases h; rfl)) (b_cons (x_asg ((s_bin (o_add true) ((s_bin (o_add true) (s_v 9) ((s_bin (o_mul true) ((s_bin (o_mul true) (s_v 1) (s_v 1))) (s_v 5))))) ((s_bin (o_mul true) ((s_bin (o_mul true) (s_int) (s_v 2))) (s_v 5))))) (g_name 9)) (b_cons (x_asg ((s_bin (o_sub) (s_v 9) ((s_bin (o_mul true) ((s_bin (o_mul true) (s_v 1) (s_v 3))) (s_v 4))))) (g_name 9)) (b_cons (x_asg ((s_bin (o_sub) ((s_bin (o_mul true) ((s_bin (o_mul true) ((s_bin (o_mul true) (s_int) (s_v 6))) (s_v 7))) (s_v 8))) ((s_bin (o_mul true) ((s_bin (o_mul true) (s_v 6) (s_v 6))) (s_v 9))))) (g_name 10)) (b_one (x_ret ((s_bin (o_sub) ((s_bin (o_sub) (s_v 10) ((s_bin (o_mul true) ((s_bin (o_mul true) ((s_bin (o_mul true) (s_int) (s_v 7))) (s_v 7))) (s_v 7))))) ((s_bin (o_mul true) ((s_bin (o_mul true) (s_int) (s_v 8))) (s_v 8)))))))))))))) T.hX (fun v q h => nomatch h))
theorem ok_Llow (T : TxtC C) : Fn C 1 T.f_Llow T.d_Llow ["_law_three", "_law_x", "_law_y"] (spM C 3 m_Llow) :=
  Fn.noq (fn_body (C := C.noq) (k := 0) (FunA.of T.F_Llow) sc_Llow (TxtC.uses T.noq fun T => show SB C.noq (defScope st_Llow) N_Llow 0 (defBody st_Llow) B_Llow from
    (b_cons (x_asg ((s_bin (o_add true) ((s_bin (o_add true) ((s_bin (o_mul true) (s_v 2) (s_v 2))) ((s_bin (o_mul true) ((s_bin (o_mul true) ((s_ix (s_v 0) (s_int))) (s_v 1))) (s_v 2))))) ((s_bin (o_mul true) ((s_ix (s_v 0) (s_int))) (s_v 2))))) (g_name 3)) (b_one (x_ret ((s_bin (o_sub) ((s_bin (o_sub) (s_v 3) ((s_bin (o_mul true) ((s_bin (o_mul true) (s_v 1) (s_v 1))) (s_v 1))))) ((s_bin (o_mul true) ((s_bin (o_mul true) ((s_ix (s_v 0) (s_int))) (s_v 1))) (s_v 1))))))))) T.hX (fun v q h => nomatch h))
theorem ok_Lthrough (T : TxtC C) : Fn C 3 T.f_Lthrough T.d_Lthrough ["_law_draw_here", "_law_size"] (spM C 2 m_Lthrough) :=
  Fn.noq (fn_body (C := C.noq) (k := 2) (FunA.of T.F_Lthrough) sc_Lthrough (TxtC.uses T.noq fun T => show SB C.noq (defScope st_Lthrough) N_Lthrough 2 (defBody st_Lthrough) B_Lthrough from
    (b_cons (x_for (i_r1 (a_cons (s_int) (a_nil)) T.n_range) (g_name 2) (b_cons (x_asg ((s_bt c_tup T.n_tuple bt_tuple (a_cons ((s_lc true [("_law_part", 4)] (i_r1 (a_cons (s_int) (a_nil)) T.n_range) (g_name 4) c_yes ((s_bin (o_sub) ((s_call (ok_Lnext T) (by decide) T.g_Lnext T.F_Lnext.kp T.b_Lnext (a_cons (s_v 0) (a_cons ((s_bin (o_add true) ((s_bin (o_mul true) (s_int) (s_v 1))) (s_int))) (a_nil))))) (s_v 1))))) (a_nil)))) (g_name 3)) (b_cons (x_asg ((s_lc true [("_law_part", 4)] (i_r1 (a_cons (s_int) (a_nil)) T.n_range) (g_name 4) c_yes ((s_bin (o_sub) ((s_call (ok_Lnext T) (by decide) T.g_Lnext T.F_Lnext.kp T.b_Lnext (a_cons (s_v 0) (a_cons ((s_bin (o_add true) ((s_bin (o_mul true) (s_int) (s_v 1))) (s_int))) (a_nil))))) (s_v 1))))) (g_tup (n := 3) (gs_cons (g_name 5) (gs_cons (g_name 6) (gs_cons (g_name 7) gs_nil))))) (b_cons (x_asg ((s_bin (o_add true) (s_v 5) ((s_ix ((s_lst (a_cons (s_int) (a_cons ((s_bin (o_sub) (s_int) (s_int))) (a_nil))))) ((s_call (ok_Lnext T) (by decide) T.g_Lnext T.F_Lnext.kp T.b_Lnext (a_cons (s_v 0) (a_cons (s_int) (a_nil))))))))) (g_name 8)) (b_cons (x_par 9 10 (a_cons ((s_call (ok_Llow T) (by decide) T.g_Llow T.F_Llow.kp T.b_Llow (a_cons (s_v 3) (a_cons (s_v 5) (a_cons (s_v 6) (a_nil)))))) (a_cons ((s_call (ok_Llow T) (by decide) T.g_Llow T.F_Llow.kp T.b_Llow (a_cons (s_v 3) (a_cons (s_v 8) (a_cons (s_v 7) (a_nil)))))) (a_nil))) (hw := by intro env h; cases env; cases h; rfl)) (b_cons (x_asg ((s_bin (o_mul true) ((s_bin (o_sub) (s_v 9) (s_v 10))) ((s_bin (o_sub) (s_v 5) (s_v 8))))) (g_name 11)) (b_cons (x_asg ((s_bin (o_add true) (s_v 3) ((s_tup (a_cons (s_v 11) (a_cons ((s_bin (o_sub) (s_v 9) ((s_bin (o_mul true) (s_v 11) (s_v 5))))) (a_nil))))))) (g_name 12)) (b_one (x_if (t_cmp (o_ne) ((s_call (ok_Ld T) (by decide) T.g_Ld T.F_Ld.kp T.b_Ld (a_cons (s_v 12) (a_nil)))) (s_int)) (b_one (x_ret ((s_tup (a_cons (s_v 12) (a_cons ((s_lst (a_cons ((s_tup (a_cons (s_v 5) (a_cons (s_v 6) (a_nil))))) (a_cons ((s_tup (a_cons (s_v 8) (a_cons (s_v 7) (a_nil))))) (a_nil))))) (a_nil))))))) b_nil))))))))) (b_one (x_ret ((s_tup (a_cons ((s_tup (a_cons (s_int) (a_cons (s_int) (a_cons (s_int) (a_cons ((s_bin (o_sub) (s_int) (s_int))) (a_cons (s_int) (a_nil)))))))) (a_cons ((s_lst (a_cons ((s_tup (a_cons (s_int) (a_cons (s_int) (a_nil))))) (a_cons ((s_tup (a_cons (s_int) (a_cons (s_int) (a_nil))))) (a_nil))))) (a_nil))))))))) T.hX (fun v q h => nomatch h))
theorem ok_Lworth (T : TxtC C) : Fn C 1 T.f_Lworth T.d_Lworth ["_law_a"] (spM C 1 m_Lworth) :=
  Fn.noq (fn_body (C := C.noq) (k := 0) (FunA.of T.F_Lworth) sc_Lworth (TxtC.uses T.noq fun T => show SB C.noq (defScope st_Lworth) N_Lworth 0 (defBody st_Lworth) B_Lworth from
    (b_one (x_ret ((s_if ((t_val ((s_bf c_isi T.n_isinstance bt_isinstance (a_cons (s_v 0) (a_cons ((s_bty T.n_tuple bt_tuple)) (a_nil))))))) ((s_bin (o_div) ((s_bin (o_mul true) ((s_ix (s_v 0) (s_int))) ((s_bin (o_pow) (s_int) (s_int))))) ((s_ix (s_v 0) (s_int))))) ((s_bin (o_mul true) (s_v 0) ((s_bin (o_pow) (s_int) (s_int)))))))))) T.hX (fun v q h => nomatch h))
theorem ok_Lheight (T : TxtC C) : Fn C 1 T.f_Lheight T.d_Lheight ["_law_point"] (spM C 1 m_Lheight) :=
  Fn.noq (fn_body (C := C.noq) (k := 0) (FunA.of T.F_Lheight) sc_Lheight (TxtC.uses T.noq fun T => show SB C.noq (defScope st_Lheight) N_Lheight 0 (defBody st_Lheight) B_Lheight from
    (b_cons (x_if (t_cmp (o_is) (s_v 0) (s_non)) (b_one (x_ret (s_int))) b_nil) (b_cons (x_asg ((s_if ((t_val ((s_bf c_isi T.n_isinstance bt_isinstance (a_cons ((s_ix (s_v 0) (s_int))) (a_cons ((s_bty T.n_tuple bt_tuple)) (a_nil))))))) ((s_ix (s_v 0) (s_int))) ((s_tup (a_cons ((s_ix (s_v 0) (s_int))) (a_cons (s_int) (a_nil))))))) (g_tup (n := 2) (gs_cons (g_name 1) (gs_cons (g_name 2) gs_nil)))) (b_one (x_ret ((s_bf c_max T.n_max bt_max (a_cons ((s_bf c_abs T.n_abs bt_abs (a_cons (s_v 1) (a_nil)))) (a_cons (s_v 2) (a_nil)))))))))) T.hX (fun v q h => nomatch h))
theorem useM_law {p : Cf → Prop} (T : TxtC C) (h : ∀ (v : Value) (T : TxtC (C.cqd v (("law" : Str) ++ ".<locals>."))), v = .ref T.cc_law → p (C.cqd v (("law" : Str) ++ ".<locals>."))) : p (C.cqd (.ref T.cc_law) (("law" : Str) ++ ".<locals>.")) := h _ (T.cqd _ _) rfl
theorem ok_law (T : TxtC C) (hrg : C.rg = true) : Fn C 12 T.f_law T.d_law ["_law_script"] (spM C 1 m_law) :=
  Fn.cqd (v := .ref T.cc_law) (q := (("law" : Str) ++ ".<locals>.")) (fn_body (C := C.cqd (.ref T.cc_law) (("law" : Str) ++ ".<locals>.")) (k := 11) (FunA.of T.F_law) sc_law (useM_law (p := fun C => SB C (defScope st_law) N_law 11 (defBody st_law) B_law) T fun v T hv =>
    (b_cons (x_for (i_r3 (a_cons (s_int) (a_cons ((s_bf c_max T.n_max bt_max (a_cons (s_int) (a_cons ((s_bf c_min T.n_min bt_min (a_cons (s_int) (a_cons ((s_bf c_len T.n_len bt_len (a_cons (s_v 0) (a_nil)))) (a_nil))))) (a_nil))))) (a_cons (s_int) (a_nil)))) T.n_range) (g_name 1) (b_cons (x_asg ((s_call (ok_Ldraw T) (by decide) T.g_Ldraw T.F_Ldraw.kp T.b_Ldraw (a_cons (s_v 0) (a_cons (s_v 1) (a_nil))))) (g_name 2)) (b_cons (x_asg ((s_call (ok_Lthrough T) (by decide) T.g_Lthrough T.F_Lthrough.kp T.b_Lthrough (a_cons (s_v 2) (a_cons ((s_ix ((s_lst (a_cons (s_int) (a_cons (s_int) (a_nil))))) ((s_call (ok_Lnext T) (by decide) T.g_Lnext T.F_Lnext.kp T.b_Lnext (a_cons (s_v 2) (a_cons (s_int) (a_nil))))))) (a_nil))))) (g_tup (n := 2) (gs_cons (g_name 3) (gs_cons (g_name 4) gs_nil)))) (b_cons (x_tas (a_cons ((s_bin (o_add true) (s_int) ((s_call (ok_Lnext T) (by decide) T.g_Lnext T.F_Lnext.kp T.b_Lnext (a_cons (s_v 2) (a_cons (s_int) (a_nil))))))) (a_cons ((s_tup (a_cons ((s_ix ((s_lst (a_cons (s_int) (a_cons ((s_bin (o_sub) (s_int) (s_int))) (a_nil))))) ((s_call (ok_Lnext T) (by decide) T.g_Lnext T.F_Lnext.kp T.b_Lnext (a_cons (s_v 2) (a_cons (s_int) (a_nil))))))) (a_cons (s_int) (a_cons ((s_bin (o_sub) ((s_call (ok_Lnext T) (by decide) T.g_Lnext T.F_Lnext.kp T.b_Lnext (a_cons (s_v 2) (a_cons (s_int) (a_nil))))) (s_int))) (a_nil)))))) (a_nil))) (gd_cons (g_name 5) (gd_cons (g_name 6) gd_nil))) (b_cons (x_asg ((s_bin (o_add true) (s_v 6) ((s_tup (a_cons ((s_bin (o_sub) ((s_call (ok_Lnext T) (by decide) T.g_Lnext T.F_Lnext.kp T.b_Lnext (a_cons (s_v 2) (a_cons (s_int) (a_nil))))) (s_int))) (a_nil)))))) (g_name 6)) (b_cons (x_par 7 8 (a_cons ((s_call (ok_search T) (by decide) T.g_search T.F_search.kp T.b_search (a_cons (s_v 3) (a_cons (s_v 5) (a_nil))))) (a_cons ((s_call (ok_led T) (by decide) T.g_led T.F_led.kp T.b_led (a_cons (s_v 3) (a_cons (s_v 6) (a_nil))))) (a_nil))) (hw := by intro env h; cases env; cases h; rfl)) (b_cons (x_lc 9 true [("_law_point", 10)] (i_row (s_v 7)) (g_name 10) (c_if (t_cmp (o_isnot) (s_v 10) (s_non))) ((s_call (ok_led_point T) (by decide) T.g_led_point T.F_led_point.kp T.b_led_point (a_cons (s_v 3) (a_cons (s_v 10) (a_cons (s_v 6) (a_nil))))))) (b_cons (x_asg ((s_bin (o_add true) ((s_lst (a_cons (s_non) (a_nil)))) ((s_srtK (k := 9) (pn := "_law_point") T.n_sorted (s_v 9) (TxtC.uses T.lamb fun T => (s_tup (a_cons ((s_call (ok_Lworth T) (by decide) T.g_Lworth T.F_Lworth.kp T.b_Lworth (a_cons ((s_ix (s_v 0) (s_int))) (a_nil)))) (a_cons ((s_call (ok_Lworth T) (by decide) T.g_Lworth T.F_Lworth.kp T.b_Lworth (a_cons ((s_ix (s_v 0) (s_int))) (a_nil)))) (a_nil))))) (cq_of hv) T.tB_law T.tM_law T.tU_law (lamK_by (by decide +kernel)))))) (g_name 11)) (b_cons (x_if (t_cmp (o_ne) ((s_bf (c_shw hrg T.dig) T.n_repr bt_repr (a_cons ((s_call (ok_search T) (by decide) T.g_search T.F_search.kp T.b_search (a_cons (s_v 8) (a_cons (s_v 5) (a_nil))))) (a_nil)))) ((s_bf (c_shw hrg T.dig) T.n_repr bt_repr (a_cons (s_v 11) (a_nil))))) (b_one (x_ret (s_bl))) b_nil) (b_one (x_for (i_r1 (a_cons (s_int) (a_nil)) T.n_range) (g_name 12) (b_cons (x_par 13 14 (a_cons ((s_ix (s_v 7) ((s_call (ok_Lnext T) (by decide) T.g_Lnext T.F_Lnext.kp T.b_Lnext (a_cons (s_v 2) (a_cons ((s_bf c_len T.n_len bt_len (a_cons (s_v 7) (a_nil)))) (a_nil))))))) (a_cons ((s_ix (s_v 7) ((s_call (ok_Lnext T) (by decide) T.g_Lnext T.F_Lnext.kp T.b_Lnext (a_cons (s_v 2) (a_cons ((s_bf c_len T.n_len bt_len (a_cons (s_v 7) (a_nil)))) (a_nil))))))) (a_nil))) (hw := by intro env h; cases env; cases h; rfl)) (b_cons (x_asg ((s_call (ok_added T) (by decide) T.g_added T.F_added.kp T.b_added (a_cons (s_v 3) (a_cons (s_v 13) (a_cons (s_v 14) (a_nil)))))) (g_name 15)) (b_one (x_if (t_w (w_or ((t_cmp (o_in2) ((s_call (ok_opposite T) (by decide) T.g_opposite T.F_opposite.kp T.b_opposite (a_cons (s_v 3) (a_cons (s_v 13) (a_nil))))) (s_v 7))) (w_or1 ((t_w (w_and ((t_cmp (o_le) ((s_call (ok_Lheight T) (by decide) T.g_Lheight T.F_Lheight.kp T.b_Lheight (a_cons (s_v 15) (a_nil)))) (s_v 5))) (w_and1 ((t_cmp (o_in2) (s_v 15) (s_v 7)))))))))) (b_one (x_ret (s_bl))) b_nil))))))))))))))) (b_one (x_ret (s_bl))))) T.hX (fun v q h => by cases h; exact ⟨T.cE_law.symm, rfl⟩))
end
def mkT {K : PySem.W.Frag} {h : Heap} {mg : Str → Option Value} {ts : List Addr} (X : K.In h) (G : h.Ns mainGlobals mg)
    {f_is_number f_common f_is_fraction f_pair_of f_lowest f_fraction f_sum_of_two f_product f_turned f_quotient f_summed f_halves_of f_d_of f_is_curve f_need_curve f_own_invariants f_invariants f_off_by f_is_pair f_lies_on f_is_change f_need_change f_by_power f_own_led f_led f_own_led_point f_led_point f_root_below f_own_root f_together_of f_is_on f_need_point f_opposite_of f_slope_of f_sum_on f_opposite f_added f_need_whole f_need_bound f_divisor f_points_at f_sides f_all_to f_search f_Lmixed f_Ldraw f_Lnext f_Ld f_Llow f_Lthrough f_Lworth f_Lheight f_law : Addr}
    {od0 an0 : Option Addr} {sl0 : Array (Option Value)} {oc0 kV0 dc0 pm0 cd0 ct0 : Value}
    (a0 : PySem.W.nsIn K mainGlobals "is_number" = some (some (.ref f_is_number))) (l0 : K.lookup f_is_number = some ⟨oc0, od0, .func (PySem.W.fnOf "is_number" "is_number" (defArgs st_is_number) (defBody st_is_number) (defScope st_is_number) .none kV0 dc0 pm0 an0 cd0 ct0), sl0⟩) (c0 : PySem.W.codeIn K cd0 "is_number" = true) (k0 : PySem.W.keepIn K (.ref f_is_number) = true)
    {od1 an1 : Option Addr} {sl1 : Array (Option Value)} {oc1 kV1 dc1 pm1 cd1 ct1 : Value}
    (a1 : PySem.W.nsIn K mainGlobals "common" = some (some (.ref f_common))) (l1 : K.lookup f_common = some ⟨oc1, od1, .func (PySem.W.fnOf "common" "common" (defArgs st_common) (defBody st_common) (defScope st_common) .none kV1 dc1 pm1 an1 cd1 ct1), sl1⟩) (c1 : PySem.W.codeIn K cd1 "common" = true) (k1 : PySem.W.keepIn K (.ref f_common) = true)
    {od2 an2 : Option Addr} {sl2 : Array (Option Value)} {oc2 kV2 dc2 pm2 cd2 ct2 : Value}
    (a2 : PySem.W.nsIn K mainGlobals "is_fraction" = some (some (.ref f_is_fraction))) (l2 : K.lookup f_is_fraction = some ⟨oc2, od2, .func (PySem.W.fnOf "is_fraction" "is_fraction" (defArgs st_is_fraction) (defBody st_is_fraction) (defScope st_is_fraction) .none kV2 dc2 pm2 an2 cd2 ct2), sl2⟩) (c2 : PySem.W.codeIn K cd2 "is_fraction" = true) (k2 : PySem.W.keepIn K (.ref f_is_fraction) = true)
    {od3 an3 : Option Addr} {sl3 : Array (Option Value)} {oc3 kV3 dc3 pm3 cd3 ct3 : Value}
    (a3 : PySem.W.nsIn K mainGlobals "pair_of" = some (some (.ref f_pair_of))) (l3 : K.lookup f_pair_of = some ⟨oc3, od3, .func (PySem.W.fnOf "pair_of" "pair_of" (defArgs st_pair_of) (defBody st_pair_of) (defScope st_pair_of) .none kV3 dc3 pm3 an3 cd3 ct3), sl3⟩) (c3 : PySem.W.codeIn K cd3 "pair_of" = true) (k3 : PySem.W.keepIn K (.ref f_pair_of) = true)
    {od4 an4 : Option Addr} {sl4 : Array (Option Value)} {oc4 kV4 dc4 pm4 cd4 ct4 : Value}
    (a4 : PySem.W.nsIn K mainGlobals "lowest" = some (some (.ref f_lowest))) (l4 : K.lookup f_lowest = some ⟨oc4, od4, .func (PySem.W.fnOf "lowest" "lowest" (defArgs st_lowest) (defBody st_lowest) (defScope st_lowest) .none kV4 dc4 pm4 an4 cd4 ct4), sl4⟩) (c4 : PySem.W.codeIn K cd4 "lowest" = true) (k4 : PySem.W.keepIn K (.ref f_lowest) = true)
    {od5 an5 : Option Addr} {sl5 : Array (Option Value)} {oc5 kV5 dc5 pm5 cd5 ct5 : Value}
    {dT5 : Addr}
    (a5 : PySem.W.nsIn K mainGlobals "fraction" = some (some (.ref f_fraction))) (l5 : K.lookup f_fraction = some ⟨oc5, od5, .func (PySem.W.fnOf "fraction" "fraction" (defArgs st_fraction) (defBody st_fraction) (defScope st_fraction) (.ref dT5) kV5 dc5 pm5 an5 cd5 ct5), sl5⟩) (c5 : PySem.W.codeIn K cd5 "fraction" = true) (k5 : PySem.W.keepIn K (.ref f_fraction) = true)
    {dfc5 : Value} {dd5 : Option Addr} {dv5 : Array Value} {dn5 : Nat} {ds5 : Array (Option Value)} {dt5 : Tok} (dl5 : K.lookup dT5 = some ⟨dfc5, dd5, .seq dv5 dn5, ds5⟩) (dq5 : dv5 = #[.int (1) dt5])
    {od6 an6 : Option Addr} {sl6 : Array (Option Value)} {oc6 kV6 dc6 pm6 cd6 ct6 : Value}
    (a6 : PySem.W.nsIn K mainGlobals "sum_of_two" = some (some (.ref f_sum_of_two))) (l6 : K.lookup f_sum_of_two = some ⟨oc6, od6, .func (PySem.W.fnOf "sum_of_two" "sum_of_two" (defArgs st_sum_of_two) (defBody st_sum_of_two) (defScope st_sum_of_two) .none kV6 dc6 pm6 an6 cd6 ct6), sl6⟩) (c6 : PySem.W.codeIn K cd6 "sum_of_two" = true) (k6 : PySem.W.keepIn K (.ref f_sum_of_two) = true)
    {od7 an7 : Option Addr} {sl7 : Array (Option Value)} {oc7 kV7 dc7 pm7 cd7 ct7 : Value}
    (a7 : PySem.W.nsIn K mainGlobals "product" = some (some (.ref f_product))) (l7 : K.lookup f_product = some ⟨oc7, od7, .func (PySem.W.fnOf "product" "product" (defArgs st_product) (defBody st_product) (defScope st_product) .none kV7 dc7 pm7 an7 cd7 ct7), sl7⟩) (c7 : PySem.W.codeIn K cd7 "product" = true) (k7 : PySem.W.keepIn K (.ref f_product) = true)
    {od8 an8 : Option Addr} {sl8 : Array (Option Value)} {oc8 kV8 dc8 pm8 cd8 ct8 : Value}
    (a8 : PySem.W.nsIn K mainGlobals "turned" = some (some (.ref f_turned))) (l8 : K.lookup f_turned = some ⟨oc8, od8, .func (PySem.W.fnOf "turned" "turned" (defArgs st_turned) (defBody st_turned) (defScope st_turned) .none kV8 dc8 pm8 an8 cd8 ct8), sl8⟩) (c8 : PySem.W.codeIn K cd8 "turned" = true) (k8 : PySem.W.keepIn K (.ref f_turned) = true)
    {od9 an9 : Option Addr} {sl9 : Array (Option Value)} {oc9 kV9 dc9 pm9 cd9 ct9 : Value}
    (a9 : PySem.W.nsIn K mainGlobals "quotient" = some (some (.ref f_quotient))) (l9 : K.lookup f_quotient = some ⟨oc9, od9, .func (PySem.W.fnOf "quotient" "quotient" (defArgs st_quotient) (defBody st_quotient) (defScope st_quotient) .none kV9 dc9 pm9 an9 cd9 ct9), sl9⟩) (c9 : PySem.W.codeIn K cd9 "quotient" = true) (k9 : PySem.W.keepIn K (.ref f_quotient) = true)
    {od10 an10 : Option Addr} {sl10 : Array (Option Value)} {oc10 kV10 dc10 pm10 cd10 ct10 : Value}
    (a10 : PySem.W.nsIn K mainGlobals "summed" = some (some (.ref f_summed))) (l10 : K.lookup f_summed = some ⟨oc10, od10, .func (PySem.W.fnOf "summed" "summed" (defArgs st_summed) (defBody st_summed) (defScope st_summed) .none kV10 dc10 pm10 an10 cd10 ct10), sl10⟩) (c10 : PySem.W.codeIn K cd10 "summed" = true) (k10 : PySem.W.keepIn K (.ref f_summed) = true)
    {od11 an11 : Option Addr} {sl11 : Array (Option Value)} {oc11 kV11 dc11 pm11 cd11 ct11 : Value}
    (a11 : PySem.W.nsIn K mainGlobals "halves_of" = some (some (.ref f_halves_of))) (l11 : K.lookup f_halves_of = some ⟨oc11, od11, .func (PySem.W.fnOf "halves_of" "halves_of" (defArgs st_halves_of) (defBody st_halves_of) (defScope st_halves_of) .none kV11 dc11 pm11 an11 cd11 ct11), sl11⟩) (c11 : PySem.W.codeIn K cd11 "halves_of" = true) (k11 : PySem.W.keepIn K (.ref f_halves_of) = true)
    {od12 an12 : Option Addr} {sl12 : Array (Option Value)} {oc12 kV12 dc12 pm12 cd12 ct12 : Value}
    (a12 : PySem.W.nsIn K mainGlobals "d_of" = some (some (.ref f_d_of))) (l12 : K.lookup f_d_of = some ⟨oc12, od12, .func (PySem.W.fnOf "d_of" "d_of" (defArgs st_d_of) (defBody st_d_of) (defScope st_d_of) .none kV12 dc12 pm12 an12 cd12 ct12), sl12⟩) (c12 : PySem.W.codeIn K cd12 "d_of" = true) (k12 : PySem.W.keepIn K (.ref f_d_of) = true)
    {od13 an13 : Option Addr} {sl13 : Array (Option Value)} {oc13 kV13 dc13 pm13 cd13 ct13 : Value}
    (a13 : PySem.W.nsIn K mainGlobals "is_curve" = some (some (.ref f_is_curve))) (l13 : K.lookup f_is_curve = some ⟨oc13, od13, .func (PySem.W.fnOf "is_curve" "is_curve" (defArgs st_is_curve) (defBody st_is_curve) (defScope st_is_curve) .none kV13 dc13 pm13 an13 cd13 ct13), sl13⟩) (c13 : PySem.W.codeIn K cd13 "is_curve" = true) (k13 : PySem.W.keepIn K (.ref f_is_curve) = true)
    {od14 an14 : Option Addr} {sl14 : Array (Option Value)} {oc14 kV14 dc14 pm14 cd14 ct14 : Value}
    (a14 : PySem.W.nsIn K mainGlobals "need_curve" = some (some (.ref f_need_curve))) (l14 : K.lookup f_need_curve = some ⟨oc14, od14, .func (PySem.W.fnOf "need_curve" "need_curve" (defArgs st_need_curve) (defBody st_need_curve) (defScope st_need_curve) .none kV14 dc14 pm14 an14 cd14 ct14), sl14⟩) (c14 : PySem.W.codeIn K cd14 "need_curve" = true) (k14 : PySem.W.keepIn K (.ref f_need_curve) = true)
    {od15 an15 : Option Addr} {sl15 : Array (Option Value)} {oc15 kV15 dc15 pm15 cd15 ct15 : Value}
    (a15 : PySem.W.nsIn K mainGlobals "own_invariants" = some (some (.ref f_own_invariants))) (l15 : K.lookup f_own_invariants = some ⟨oc15, od15, .func (PySem.W.fnOf "own_invariants" "own_invariants" (defArgs st_own_invariants) (defBody st_own_invariants) (defScope st_own_invariants) .none kV15 dc15 pm15 an15 cd15 ct15), sl15⟩) (c15 : PySem.W.codeIn K cd15 "own_invariants" = true) (k15 : PySem.W.keepIn K (.ref f_own_invariants) = true)
    {od16 an16 : Option Addr} {sl16 : Array (Option Value)} {oc16 kV16 dc16 pm16 cd16 ct16 : Value}
    (a16 : PySem.W.nsIn K mainGlobals "invariants" = some (some (.ref f_invariants))) (l16 : K.lookup f_invariants = some ⟨oc16, od16, .func (PySem.W.fnOf "invariants" "invariants" (defArgs st_invariants) (defBody st_invariants) (defScope st_invariants) .none kV16 dc16 pm16 an16 cd16 ct16), sl16⟩) (c16 : PySem.W.codeIn K cd16 "invariants" = true) (k16 : PySem.W.keepIn K (.ref f_invariants) = true)
    {od17 an17 : Option Addr} {sl17 : Array (Option Value)} {oc17 kV17 dc17 pm17 cd17 ct17 : Value}
    (a17 : PySem.W.nsIn K mainGlobals "off_by" = some (some (.ref f_off_by))) (l17 : K.lookup f_off_by = some ⟨oc17, od17, .func (PySem.W.fnOf "off_by" "off_by" (defArgs st_off_by) (defBody st_off_by) (defScope st_off_by) .none kV17 dc17 pm17 an17 cd17 ct17), sl17⟩) (c17 : PySem.W.codeIn K cd17 "off_by" = true) (k17 : PySem.W.keepIn K (.ref f_off_by) = true)
    {od18 an18 : Option Addr} {sl18 : Array (Option Value)} {oc18 kV18 dc18 pm18 cd18 ct18 : Value}
    (a18 : PySem.W.nsIn K mainGlobals "is_pair" = some (some (.ref f_is_pair))) (l18 : K.lookup f_is_pair = some ⟨oc18, od18, .func (PySem.W.fnOf "is_pair" "is_pair" (defArgs st_is_pair) (defBody st_is_pair) (defScope st_is_pair) .none kV18 dc18 pm18 an18 cd18 ct18), sl18⟩) (c18 : PySem.W.codeIn K cd18 "is_pair" = true) (k18 : PySem.W.keepIn K (.ref f_is_pair) = true)
    {od19 an19 : Option Addr} {sl19 : Array (Option Value)} {oc19 kV19 dc19 pm19 cd19 ct19 : Value}
    (a19 : PySem.W.nsIn K mainGlobals "lies_on" = some (some (.ref f_lies_on))) (l19 : K.lookup f_lies_on = some ⟨oc19, od19, .func (PySem.W.fnOf "lies_on" "lies_on" (defArgs st_lies_on) (defBody st_lies_on) (defScope st_lies_on) .none kV19 dc19 pm19 an19 cd19 ct19), sl19⟩) (c19 : PySem.W.codeIn K cd19 "lies_on" = true) (k19 : PySem.W.keepIn K (.ref f_lies_on) = true)
    {od20 an20 : Option Addr} {sl20 : Array (Option Value)} {oc20 kV20 dc20 pm20 cd20 ct20 : Value}
    (a20 : PySem.W.nsIn K mainGlobals "is_change" = some (some (.ref f_is_change))) (l20 : K.lookup f_is_change = some ⟨oc20, od20, .func (PySem.W.fnOf "is_change" "is_change" (defArgs st_is_change) (defBody st_is_change) (defScope st_is_change) .none kV20 dc20 pm20 an20 cd20 ct20), sl20⟩) (c20 : PySem.W.codeIn K cd20 "is_change" = true) (k20 : PySem.W.keepIn K (.ref f_is_change) = true)
    {od21 an21 : Option Addr} {sl21 : Array (Option Value)} {oc21 kV21 dc21 pm21 cd21 ct21 : Value}
    (a21 : PySem.W.nsIn K mainGlobals "need_change" = some (some (.ref f_need_change))) (l21 : K.lookup f_need_change = some ⟨oc21, od21, .func (PySem.W.fnOf "need_change" "need_change" (defArgs st_need_change) (defBody st_need_change) (defScope st_need_change) .none kV21 dc21 pm21 an21 cd21 ct21), sl21⟩) (c21 : PySem.W.codeIn K cd21 "need_change" = true) (k21 : PySem.W.keepIn K (.ref f_need_change) = true)
    {od22 an22 : Option Addr} {sl22 : Array (Option Value)} {oc22 kV22 dc22 pm22 cd22 ct22 : Value}
    (a22 : PySem.W.nsIn K mainGlobals "by_power" = some (some (.ref f_by_power))) (l22 : K.lookup f_by_power = some ⟨oc22, od22, .func (PySem.W.fnOf "by_power" "by_power" (defArgs st_by_power) (defBody st_by_power) (defScope st_by_power) .none kV22 dc22 pm22 an22 cd22 ct22), sl22⟩) (c22 : PySem.W.codeIn K cd22 "by_power" = true) (k22 : PySem.W.keepIn K (.ref f_by_power) = true)
    {od23 an23 : Option Addr} {sl23 : Array (Option Value)} {oc23 kV23 dc23 pm23 cd23 ct23 : Value}
    (a23 : PySem.W.nsIn K mainGlobals "own_led" = some (some (.ref f_own_led))) (l23 : K.lookup f_own_led = some ⟨oc23, od23, .func (PySem.W.fnOf "own_led" "own_led" (defArgs st_own_led) (defBody st_own_led) (defScope st_own_led) .none kV23 dc23 pm23 an23 cd23 ct23), sl23⟩) (c23 : PySem.W.codeIn K cd23 "own_led" = true) (k23 : PySem.W.keepIn K (.ref f_own_led) = true)
    {od24 an24 : Option Addr} {sl24 : Array (Option Value)} {oc24 kV24 dc24 pm24 cd24 ct24 : Value}
    (a24 : PySem.W.nsIn K mainGlobals "led" = some (some (.ref f_led))) (l24 : K.lookup f_led = some ⟨oc24, od24, .func (PySem.W.fnOf "led" "led" (defArgs st_led) (defBody st_led) (defScope st_led) .none kV24 dc24 pm24 an24 cd24 ct24), sl24⟩) (c24 : PySem.W.codeIn K cd24 "led" = true) (k24 : PySem.W.keepIn K (.ref f_led) = true)
    {od25 an25 : Option Addr} {sl25 : Array (Option Value)} {oc25 kV25 dc25 pm25 cd25 ct25 : Value}
    (a25 : PySem.W.nsIn K mainGlobals "own_led_point" = some (some (.ref f_own_led_point))) (l25 : K.lookup f_own_led_point = some ⟨oc25, od25, .func (PySem.W.fnOf "own_led_point" "own_led_point" (defArgs st_own_led_point) (defBody st_own_led_point) (defScope st_own_led_point) .none kV25 dc25 pm25 an25 cd25 ct25), sl25⟩) (c25 : PySem.W.codeIn K cd25 "own_led_point" = true) (k25 : PySem.W.keepIn K (.ref f_own_led_point) = true)
    {od26 an26 : Option Addr} {sl26 : Array (Option Value)} {oc26 kV26 dc26 pm26 cd26 ct26 : Value}
    (a26 : PySem.W.nsIn K mainGlobals "led_point" = some (some (.ref f_led_point))) (l26 : K.lookup f_led_point = some ⟨oc26, od26, .func (PySem.W.fnOf "led_point" "led_point" (defArgs st_led_point) (defBody st_led_point) (defScope st_led_point) .none kV26 dc26 pm26 an26 cd26 ct26), sl26⟩) (c26 : PySem.W.codeIn K cd26 "led_point" = true) (k26 : PySem.W.keepIn K (.ref f_led_point) = true)
    {od27 an27 : Option Addr} {sl27 : Array (Option Value)} {oc27 kV27 dc27 pm27 cd27 ct27 : Value}
    (a27 : PySem.W.nsIn K mainGlobals "root_below" = some (some (.ref f_root_below))) (l27 : K.lookup f_root_below = some ⟨oc27, od27, .func (PySem.W.fnOf "root_below" "root_below" (defArgs st_root_below) (defBody st_root_below) (defScope st_root_below) .none kV27 dc27 pm27 an27 cd27 ct27), sl27⟩) (c27 : PySem.W.codeIn K cd27 "root_below" = true) (k27 : PySem.W.keepIn K (.ref f_root_below) = true)
    {od28 an28 : Option Addr} {sl28 : Array (Option Value)} {oc28 kV28 dc28 pm28 cd28 ct28 : Value}
    (a28 : PySem.W.nsIn K mainGlobals "own_root" = some (some (.ref f_own_root))) (l28 : K.lookup f_own_root = some ⟨oc28, od28, .func (PySem.W.fnOf "own_root" "own_root" (defArgs st_own_root) (defBody st_own_root) (defScope st_own_root) .none kV28 dc28 pm28 an28 cd28 ct28), sl28⟩) (c28 : PySem.W.codeIn K cd28 "own_root" = true) (k28 : PySem.W.keepIn K (.ref f_own_root) = true)
    {od29 an29 : Option Addr} {sl29 : Array (Option Value)} {oc29 kV29 dc29 pm29 cd29 ct29 : Value}
    (a29 : PySem.W.nsIn K mainGlobals "together_of" = some (some (.ref f_together_of))) (l29 : K.lookup f_together_of = some ⟨oc29, od29, .func (PySem.W.fnOf "together_of" "together_of" (defArgs st_together_of) (defBody st_together_of) (defScope st_together_of) .none kV29 dc29 pm29 an29 cd29 ct29), sl29⟩) (c29 : PySem.W.codeIn K cd29 "together_of" = true) (k29 : PySem.W.keepIn K (.ref f_together_of) = true)
    {od30 an30 : Option Addr} {sl30 : Array (Option Value)} {oc30 kV30 dc30 pm30 cd30 ct30 : Value}
    (a30 : PySem.W.nsIn K mainGlobals "is_on" = some (some (.ref f_is_on))) (l30 : K.lookup f_is_on = some ⟨oc30, od30, .func (PySem.W.fnOf "is_on" "is_on" (defArgs st_is_on) (defBody st_is_on) (defScope st_is_on) .none kV30 dc30 pm30 an30 cd30 ct30), sl30⟩) (c30 : PySem.W.codeIn K cd30 "is_on" = true) (k30 : PySem.W.keepIn K (.ref f_is_on) = true)
    {od31 an31 : Option Addr} {sl31 : Array (Option Value)} {oc31 kV31 dc31 pm31 cd31 ct31 : Value}
    (a31 : PySem.W.nsIn K mainGlobals "need_point" = some (some (.ref f_need_point))) (l31 : K.lookup f_need_point = some ⟨oc31, od31, .func (PySem.W.fnOf "need_point" "need_point" (defArgs st_need_point) (defBody st_need_point) (defScope st_need_point) .none kV31 dc31 pm31 an31 cd31 ct31), sl31⟩) (c31 : PySem.W.codeIn K cd31 "need_point" = true) (k31 : PySem.W.keepIn K (.ref f_need_point) = true)
    {od32 an32 : Option Addr} {sl32 : Array (Option Value)} {oc32 kV32 dc32 pm32 cd32 ct32 : Value}
    (a32 : PySem.W.nsIn K mainGlobals "opposite_of" = some (some (.ref f_opposite_of))) (l32 : K.lookup f_opposite_of = some ⟨oc32, od32, .func (PySem.W.fnOf "opposite_of" "opposite_of" (defArgs st_opposite_of) (defBody st_opposite_of) (defScope st_opposite_of) .none kV32 dc32 pm32 an32 cd32 ct32), sl32⟩) (c32 : PySem.W.codeIn K cd32 "opposite_of" = true) (k32 : PySem.W.keepIn K (.ref f_opposite_of) = true)
    {od33 an33 : Option Addr} {sl33 : Array (Option Value)} {oc33 kV33 dc33 pm33 cd33 ct33 : Value}
    (a33 : PySem.W.nsIn K mainGlobals "slope_of" = some (some (.ref f_slope_of))) (l33 : K.lookup f_slope_of = some ⟨oc33, od33, .func (PySem.W.fnOf "slope_of" "slope_of" (defArgs st_slope_of) (defBody st_slope_of) (defScope st_slope_of) .none kV33 dc33 pm33 an33 cd33 ct33), sl33⟩) (c33 : PySem.W.codeIn K cd33 "slope_of" = true) (k33 : PySem.W.keepIn K (.ref f_slope_of) = true)
    {od34 an34 : Option Addr} {sl34 : Array (Option Value)} {oc34 kV34 dc34 pm34 cd34 ct34 : Value}
    (a34 : PySem.W.nsIn K mainGlobals "sum_on" = some (some (.ref f_sum_on))) (l34 : K.lookup f_sum_on = some ⟨oc34, od34, .func (PySem.W.fnOf "sum_on" "sum_on" (defArgs st_sum_on) (defBody st_sum_on) (defScope st_sum_on) .none kV34 dc34 pm34 an34 cd34 ct34), sl34⟩) (c34 : PySem.W.codeIn K cd34 "sum_on" = true) (k34 : PySem.W.keepIn K (.ref f_sum_on) = true)
    {od35 an35 : Option Addr} {sl35 : Array (Option Value)} {oc35 kV35 dc35 pm35 cd35 ct35 : Value}
    (a35 : PySem.W.nsIn K mainGlobals "opposite" = some (some (.ref f_opposite))) (l35 : K.lookup f_opposite = some ⟨oc35, od35, .func (PySem.W.fnOf "opposite" "opposite" (defArgs st_opposite) (defBody st_opposite) (defScope st_opposite) .none kV35 dc35 pm35 an35 cd35 ct35), sl35⟩) (c35 : PySem.W.codeIn K cd35 "opposite" = true) (k35 : PySem.W.keepIn K (.ref f_opposite) = true)
    {od36 an36 : Option Addr} {sl36 : Array (Option Value)} {oc36 kV36 dc36 pm36 cd36 ct36 : Value}
    (a36 : PySem.W.nsIn K mainGlobals "added" = some (some (.ref f_added))) (l36 : K.lookup f_added = some ⟨oc36, od36, .func (PySem.W.fnOf "added" "added" (defArgs st_added) (defBody st_added) (defScope st_added) .none kV36 dc36 pm36 an36 cd36 ct36), sl36⟩) (c36 : PySem.W.codeIn K cd36 "added" = true) (k36 : PySem.W.keepIn K (.ref f_added) = true)
    {od37 an37 : Option Addr} {sl37 : Array (Option Value)} {oc37 kV37 dc37 pm37 cd37 ct37 : Value}
    (a37 : PySem.W.nsIn K mainGlobals "need_whole" = some (some (.ref f_need_whole))) (l37 : K.lookup f_need_whole = some ⟨oc37, od37, .func (PySem.W.fnOf "need_whole" "need_whole" (defArgs st_need_whole) (defBody st_need_whole) (defScope st_need_whole) .none kV37 dc37 pm37 an37 cd37 ct37), sl37⟩) (c37 : PySem.W.codeIn K cd37 "need_whole" = true) (k37 : PySem.W.keepIn K (.ref f_need_whole) = true)
    {od38 an38 : Option Addr} {sl38 : Array (Option Value)} {oc38 kV38 dc38 pm38 cd38 ct38 : Value}
    (a38 : PySem.W.nsIn K mainGlobals "need_bound" = some (some (.ref f_need_bound))) (l38 : K.lookup f_need_bound = some ⟨oc38, od38, .func (PySem.W.fnOf "need_bound" "need_bound" (defArgs st_need_bound) (defBody st_need_bound) (defScope st_need_bound) .none kV38 dc38 pm38 an38 cd38 ct38), sl38⟩) (c38 : PySem.W.codeIn K cd38 "need_bound" = true) (k38 : PySem.W.keepIn K (.ref f_need_bound) = true)
    {od39 an39 : Option Addr} {sl39 : Array (Option Value)} {oc39 kV39 dc39 pm39 cd39 ct39 : Value}
    (a39 : PySem.W.nsIn K mainGlobals "divisor" = some (some (.ref f_divisor))) (l39 : K.lookup f_divisor = some ⟨oc39, od39, .func (PySem.W.fnOf "divisor" "divisor" (defArgs st_divisor) (defBody st_divisor) (defScope st_divisor) .none kV39 dc39 pm39 an39 cd39 ct39), sl39⟩) (c39 : PySem.W.codeIn K cd39 "divisor" = true) (k39 : PySem.W.keepIn K (.ref f_divisor) = true)
    {od40 an40 : Option Addr} {sl40 : Array (Option Value)} {oc40 kV40 dc40 pm40 cd40 ct40 : Value}
    (a40 : PySem.W.nsIn K mainGlobals "points_at" = some (some (.ref f_points_at))) (l40 : K.lookup f_points_at = some ⟨oc40, od40, .func (PySem.W.fnOf "points_at" "points_at" (defArgs st_points_at) (defBody st_points_at) (defScope st_points_at) .none kV40 dc40 pm40 an40 cd40 ct40), sl40⟩) (c40 : PySem.W.codeIn K cd40 "points_at" = true) (k40 : PySem.W.keepIn K (.ref f_points_at) = true)
    {od41 an41 : Option Addr} {sl41 : Array (Option Value)} {oc41 kV41 dc41 pm41 cd41 ct41 : Value}
    (a41 : PySem.W.nsIn K mainGlobals "sides" = some (some (.ref f_sides))) (l41 : K.lookup f_sides = some ⟨oc41, od41, .func (PySem.W.fnOf "sides" "sides" (defArgs st_sides) (defBody st_sides) (defScope st_sides) .none kV41 dc41 pm41 an41 cd41 ct41), sl41⟩) (c41 : PySem.W.codeIn K cd41 "sides" = true) (k41 : PySem.W.keepIn K (.ref f_sides) = true)
    {od42 an42 : Option Addr} {sl42 : Array (Option Value)} {oc42 kV42 dc42 pm42 cd42 ct42 : Value}
    (a42 : PySem.W.nsIn K mainGlobals "all_to" = some (some (.ref f_all_to))) (l42 : K.lookup f_all_to = some ⟨oc42, od42, .func (PySem.W.fnOf "all_to" "all_to" (defArgs st_all_to) (defBody st_all_to) (defScope st_all_to) .none kV42 dc42 pm42 an42 cd42 ct42), sl42⟩) (c42 : PySem.W.codeIn K cd42 "all_to" = true) (k42 : PySem.W.keepIn K (.ref f_all_to) = true)
    {od43 an43 : Option Addr} {sl43 : Array (Option Value)} {oc43 kV43 dc43 pm43 cd43 ct43 : Value}
    (a43 : PySem.W.nsIn K mainGlobals "search" = some (some (.ref f_search))) (l43 : K.lookup f_search = some ⟨oc43, od43, .func (PySem.W.fnOf "search" "search" (defArgs st_search) (defBody st_search) (defScope st_search) .none kV43 dc43 pm43 an43 cd43 ct43), sl43⟩) (c43 : PySem.W.codeIn K cd43 "search" = true) (k43 : PySem.W.keepIn K (.ref f_search) = true)
    {od44 an44 : Option Addr} {sl44 : Array (Option Value)} {oc44 kV44 dc44 pm44 cd44 ct44 : Value}
    (a44 : PySem.W.nsIn K mainGlobals "_law_mixed" = some (some (.ref f_Lmixed))) (l44 : K.lookup f_Lmixed = some ⟨oc44, od44, .func (PySem.W.fnOf "_law_mixed" "_law_mixed" (defArgs st_Lmixed) (defBody st_Lmixed) (defScope st_Lmixed) .none kV44 dc44 pm44 an44 cd44 ct44), sl44⟩) (c44 : PySem.W.codeIn K cd44 "_law_mixed" = true) (k44 : PySem.W.keepIn K (.ref f_Lmixed) = true)
    {od45 an45 : Option Addr} {sl45 : Array (Option Value)} {oc45 kV45 dc45 pm45 cd45 ct45 : Value}
    (a45 : PySem.W.nsIn K mainGlobals "_law_draw" = some (some (.ref f_Ldraw))) (l45 : K.lookup f_Ldraw = some ⟨oc45, od45, .func (PySem.W.fnOf "_law_draw" "_law_draw" (defArgs st_Ldraw) (defBody st_Ldraw) (defScope st_Ldraw) .none kV45 dc45 pm45 an45 cd45 ct45), sl45⟩) (c45 : PySem.W.codeIn K cd45 "_law_draw" = true) (k45 : PySem.W.keepIn K (.ref f_Ldraw) = true)
    {od46 an46 : Option Addr} {sl46 : Array (Option Value)} {oc46 kV46 dc46 pm46 cd46 ct46 : Value}
    (a46 : PySem.W.nsIn K mainGlobals "_law_next" = some (some (.ref f_Lnext))) (l46 : K.lookup f_Lnext = some ⟨oc46, od46, .func (PySem.W.fnOf "_law_next" "_law_next" (defArgs st_Lnext) (defBody st_Lnext) (defScope st_Lnext) .none kV46 dc46 pm46 an46 cd46 ct46), sl46⟩) (c46 : PySem.W.codeIn K cd46 "_law_next" = true) (k46 : PySem.W.keepIn K (.ref f_Lnext) = true)
    {od47 an47 : Option Addr} {sl47 : Array (Option Value)} {oc47 kV47 dc47 pm47 cd47 ct47 : Value}
    (a47 : PySem.W.nsIn K mainGlobals "_law_d" = some (some (.ref f_Ld))) (l47 : K.lookup f_Ld = some ⟨oc47, od47, .func (PySem.W.fnOf "_law_d" "_law_d" (defArgs st_Ld) (defBody st_Ld) (defScope st_Ld) .none kV47 dc47 pm47 an47 cd47 ct47), sl47⟩) (c47 : PySem.W.codeIn K cd47 "_law_d" = true) (k47 : PySem.W.keepIn K (.ref f_Ld) = true)
    {od48 an48 : Option Addr} {sl48 : Array (Option Value)} {oc48 kV48 dc48 pm48 cd48 ct48 : Value}
    (a48 : PySem.W.nsIn K mainGlobals "_law_low" = some (some (.ref f_Llow))) (l48 : K.lookup f_Llow = some ⟨oc48, od48, .func (PySem.W.fnOf "_law_low" "_law_low" (defArgs st_Llow) (defBody st_Llow) (defScope st_Llow) .none kV48 dc48 pm48 an48 cd48 ct48), sl48⟩) (c48 : PySem.W.codeIn K cd48 "_law_low" = true) (k48 : PySem.W.keepIn K (.ref f_Llow) = true)
    {od49 an49 : Option Addr} {sl49 : Array (Option Value)} {oc49 kV49 dc49 pm49 cd49 ct49 : Value}
    (a49 : PySem.W.nsIn K mainGlobals "_law_through" = some (some (.ref f_Lthrough))) (l49 : K.lookup f_Lthrough = some ⟨oc49, od49, .func (PySem.W.fnOf "_law_through" "_law_through" (defArgs st_Lthrough) (defBody st_Lthrough) (defScope st_Lthrough) .none kV49 dc49 pm49 an49 cd49 ct49), sl49⟩) (c49 : PySem.W.codeIn K cd49 "_law_through" = true) (k49 : PySem.W.keepIn K (.ref f_Lthrough) = true)
    {od50 an50 : Option Addr} {sl50 : Array (Option Value)} {oc50 kV50 dc50 pm50 cd50 ct50 : Value}
    (a50 : PySem.W.nsIn K mainGlobals "_law_worth" = some (some (.ref f_Lworth))) (l50 : K.lookup f_Lworth = some ⟨oc50, od50, .func (PySem.W.fnOf "_law_worth" "_law_worth" (defArgs st_Lworth) (defBody st_Lworth) (defScope st_Lworth) .none kV50 dc50 pm50 an50 cd50 ct50), sl50⟩) (c50 : PySem.W.codeIn K cd50 "_law_worth" = true) (k50 : PySem.W.keepIn K (.ref f_Lworth) = true)
    {od51 an51 : Option Addr} {sl51 : Array (Option Value)} {oc51 kV51 dc51 pm51 cd51 ct51 : Value}
    (a51 : PySem.W.nsIn K mainGlobals "_law_height" = some (some (.ref f_Lheight))) (l51 : K.lookup f_Lheight = some ⟨oc51, od51, .func (PySem.W.fnOf "_law_height" "_law_height" (defArgs st_Lheight) (defBody st_Lheight) (defScope st_Lheight) .none kV51 dc51 pm51 an51 cd51 ct51), sl51⟩) (c51 : PySem.W.codeIn K cd51 "_law_height" = true) (k51 : PySem.W.keepIn K (.ref f_Lheight) = true)
    {od52 an52 : Option Addr} {sl52 : Array (Option Value)} {oc52 kV52 dc52 pm52 cd52 ct52 : Value}
    (a52 : PySem.W.nsIn K mainGlobals "law" = some (some (.ref f_law))) (l52 : K.lookup f_law = some ⟨oc52, od52, .func (PySem.W.fnOf "law" "law" (defArgs st_law) (defBody st_law) (defScope st_law) .none kV52 dc52 pm52 an52 cd52 ct52), sl52⟩) (c52 : PySem.W.codeIn K cd52 "law" = true) (k52 : PySem.W.keepIn K (.ref f_law) = true)
    {cc52 cP52 : Addr} {uc52 : Value} {ud52 : Option Addr} {us52 : Array (Option Value)} {uv52 : Array Value} (ma52 : cd52 = .ref cc52) (mb52 : K.lookup cc52 = some ⟨uc52, ud52, .fields uv52, us52⟩) (md52 : (uv52[11]? : Option Value) = some (.ref cP52)) (me52 : PySem.W.codeHdIn K cc52 cP52 = true) (mf52 : K.lookup cP52 = none) (mh52 : cP52 ∈ ts)
    (n0 : PySem.W.nsIn K mainGlobals "int" = some none)
    (n1 : PySem.W.nsIn K mainGlobals "isinstance" = some none)
    (n2 : PySem.W.nsIn K mainGlobals "bool" = some none)
    (n3 : PySem.W.nsIn K mainGlobals "abs" = some none)
    (n4 : PySem.W.nsIn K mainGlobals "tuple" = some none)
    (n5 : PySem.W.nsIn K mainGlobals "len" = some none)
    (n6 : PySem.W.nsIn K mainGlobals "all" = some none)
    (n7 : PySem.W.nsIn K mainGlobals "range" = some none)
    (n8 : PySem.W.nsIn K mainGlobals "zip" = some none)
    (n9 : PySem.W.nsIn K mainGlobals "sorted" = some none)
    (n10 : PySem.W.nsIn K mainGlobals "max" = some none)
    (n11 : PySem.W.nsIn K mainGlobals "min" = some none)
    (n12 : PySem.W.nsIn K mainGlobals "repr" = some none)
    {t0 : Tok} (e0 : PySem.W.nsIn K mainGlobals "FAR" = some (some (.int (200) t0)))
    {t1 : Tok} (e1 : PySem.W.nsIn K mainGlobals "SQUARES" = some (some (.int (129859329600) t1)))
    (dig : PySem.W.nsIn K cStatics "sys.int_max_str_digits" = some none) : Txt K mg :=
  { f_is_number := f_is_number, d_is_number := _, F_is_number := fun_mk (st := st_is_number) l0 c0 k0, b_is_number := (fun_mk (st := st_is_number) l0 c0 k0).binds (ps := ["thing"]) fun _ _ _ _ _ _ us hl => match us, hl with | [_], _ => rfl,
    f_common := f_common, d_common := _, F_common := fun_mk (st := st_common) l1 c1 k1, b_common := (fun_mk (st := st_common) l1 c1 k1).binds (ps := ["one", "other"]) fun _ _ _ _ _ _ us hl => match us, hl with | [_, _], _ => rfl,
    f_is_fraction := f_is_fraction, d_is_fraction := _, F_is_fraction := fun_mk (st := st_is_fraction) l2 c2 k2, b_is_fraction := (fun_mk (st := st_is_fraction) l2 c2 k2).binds (ps := ["thing"]) fun _ _ _ _ _ _ us hl => match us, hl with | [_], _ => rfl,
    f_pair_of := f_pair_of, d_pair_of := _, F_pair_of := fun_mk (st := st_pair_of) l3 c3 k3, b_pair_of := (fun_mk (st := st_pair_of) l3 c3 k3).binds (ps := ["a"]) fun _ _ _ _ _ _ us hl => match us, hl with | [_], _ => rfl,
    f_lowest := f_lowest, d_lowest := _, F_lowest := fun_mk (st := st_lowest) l4 c4 k4, b_lowest := (fun_mk (st := st_lowest) l4 c4 k4).binds (ps := ["top", "bottom"]) fun _ _ _ _ _ _ us hl => match us, hl with | [_, _], _ => rfl,
    f_fraction := f_fraction, d_fraction := _, dT_fraction := dT5, F_fraction := ⟨⟨_, _, _, _, _, _, _, _, _, rfl, l5, c5⟩, k5⟩, df_fraction := ⟨_, _, _, dl5, by rw [dq5]⟩,
    f_sum_of_two := f_sum_of_two, d_sum_of_two := _, F_sum_of_two := fun_mk (st := st_sum_of_two) l6 c6 k6, b_sum_of_two := (fun_mk (st := st_sum_of_two) l6 c6 k6).binds (ps := ["a", "b"]) fun _ _ _ _ _ _ us hl => match us, hl with | [_, _], _ => rfl,
    f_product := f_product, d_product := _, F_product := fun_mk (st := st_product) l7 c7 k7, b_product := (fun_mk (st := st_product) l7 c7 k7).binds (ps := ["a", "b"]) fun _ _ _ _ _ _ us hl => match us, hl with | [_, _], _ => rfl,
    f_turned := f_turned, d_turned := _, F_turned := fun_mk (st := st_turned) l8 c8 k8, b_turned := (fun_mk (st := st_turned) l8 c8 k8).binds (ps := ["a"]) fun _ _ _ _ _ _ us hl => match us, hl with | [_], _ => rfl,
    f_quotient := f_quotient, d_quotient := _, F_quotient := fun_mk (st := st_quotient) l9 c9 k9, b_quotient := (fun_mk (st := st_quotient) l9 c9 k9).binds (ps := ["a", "b"]) fun _ _ _ _ _ _ us hl => match us, hl with | [_, _], _ => rfl,
    f_summed := f_summed, d_summed := _, F_summed := fun_mk (st := st_summed) l10 c10 k10, b_summed := (fun_mk (st := st_summed) l10 c10 k10).binds (ps := ["rows"]) fun _ _ _ _ _ _ us hl => match us, hl with | [_], _ => rfl,
    f_halves_of := f_halves_of, d_halves_of := _, F_halves_of := fun_mk (st := st_halves_of) l11 c11 k11, b_halves_of := (fun_mk (st := st_halves_of) l11 c11 k11).binds (ps := ["five"]) fun _ _ _ _ _ _ us hl => match us, hl with | [_], _ => rfl,
    f_d_of := f_d_of, d_d_of := _, F_d_of := fun_mk (st := st_d_of) l12 c12 k12, b_d_of := (fun_mk (st := st_d_of) l12 c12 k12).binds (ps := ["five"]) fun _ _ _ _ _ _ us hl => match us, hl with | [_], _ => rfl,
    f_is_curve := f_is_curve, d_is_curve := _, F_is_curve := fun_mk (st := st_is_curve) l13 c13 k13, b_is_curve := (fun_mk (st := st_is_curve) l13 c13 k13).binds (ps := ["thing"]) fun _ _ _ _ _ _ us hl => match us, hl with | [_], _ => rfl,
    f_need_curve := f_need_curve, d_need_curve := _, F_need_curve := fun_mk (st := st_need_curve) l14 c14 k14, b_need_curve := (fun_mk (st := st_need_curve) l14 c14 k14).binds (ps := ["curve"]) fun _ _ _ _ _ _ us hl => match us, hl with | [_], _ => rfl,
    f_own_invariants := f_own_invariants, d_own_invariants := _, F_own_invariants := fun_mk (st := st_own_invariants) l15 c15 k15, b_own_invariants := (fun_mk (st := st_own_invariants) l15 c15 k15).binds (ps := ["curve"]) fun _ _ _ _ _ _ us hl => match us, hl with | [_], _ => rfl,
    f_invariants := f_invariants, d_invariants := _, F_invariants := fun_mk (st := st_invariants) l16 c16 k16, b_invariants := (fun_mk (st := st_invariants) l16 c16 k16).binds (ps := ["curve"]) fun _ _ _ _ _ _ us hl => match us, hl with | [_], _ => rfl,
    f_off_by := f_off_by, d_off_by := _, F_off_by := fun_mk (st := st_off_by) l17 c17 k17, b_off_by := (fun_mk (st := st_off_by) l17 c17 k17).binds (ps := ["five", "x", "y"]) fun _ _ _ _ _ _ us hl => match us, hl with | [_, _, _], _ => rfl,
    f_is_pair := f_is_pair, d_is_pair := _, F_is_pair := fun_mk (st := st_is_pair) l18 c18 k18, b_is_pair := (fun_mk (st := st_is_pair) l18 c18 k18).binds (ps := ["thing"]) fun _ _ _ _ _ _ us hl => match us, hl with | [_], _ => rfl,
    f_lies_on := f_lies_on, d_lies_on := _, F_lies_on := fun_mk (st := st_lies_on) l19 c19 k19, b_lies_on := (fun_mk (st := st_lies_on) l19 c19 k19).binds (ps := ["curve", "thing"]) fun _ _ _ _ _ _ us hl => match us, hl with | [_, _], _ => rfl,
    f_is_change := f_is_change, d_is_change := _, F_is_change := fun_mk (st := st_is_change) l20 c20 k20, b_is_change := (fun_mk (st := st_is_change) l20 c20 k20).binds (ps := ["thing"]) fun _ _ _ _ _ _ us hl => match us, hl with | [_], _ => rfl,
    f_need_change := f_need_change, d_need_change := _, F_need_change := fun_mk (st := st_need_change) l21 c21 k21, b_need_change := (fun_mk (st := st_need_change) l21 c21 k21).binds (ps := ["change"]) fun _ _ _ _ _ _ us hl => match us, hl with | [_], _ => rfl,
    f_by_power := f_by_power, d_by_power := _, F_by_power := fun_mk (st := st_by_power) l22 c22 k22, b_by_power := (fun_mk (st := st_by_power) l22 c22 k22).binds (ps := ["a", "u", "many"]) fun _ _ _ _ _ _ us hl => match us, hl with | [_, _, _], _ => rfl,
    f_own_led := f_own_led, d_own_led := _, F_own_led := fun_mk (st := st_own_led) l23 c23 k23, b_own_led := (fun_mk (st := st_own_led) l23 c23 k23).binds (ps := ["curve", "change"]) fun _ _ _ _ _ _ us hl => match us, hl with | [_, _], _ => rfl,
    f_led := f_led, d_led := _, F_led := fun_mk (st := st_led) l24 c24 k24, b_led := (fun_mk (st := st_led) l24 c24 k24).binds (ps := ["curve", "change"]) fun _ _ _ _ _ _ us hl => match us, hl with | [_, _], _ => rfl,
    f_own_led_point := f_own_led_point, d_own_led_point := _, F_own_led_point := fun_mk (st := st_own_led_point) l25 c25 k25, b_own_led_point := (fun_mk (st := st_own_led_point) l25 c25 k25).binds (ps := ["point", "change"]) fun _ _ _ _ _ _ us hl => match us, hl with | [_, _], _ => rfl,
    f_led_point := f_led_point, d_led_point := _, F_led_point := fun_mk (st := st_led_point) l26 c26 k26, b_led_point := (fun_mk (st := st_led_point) l26 c26 k26).binds (ps := ["curve", "point", "change"]) fun _ _ _ _ _ _ us hl => match us, hl with | [_, _, _], _ => rfl,
    f_root_below := f_root_below, d_root_below := _, F_root_below := fun_mk (st := st_root_below) l27 c27 k27, b_root_below := (fun_mk (st := st_root_below) l27 c27 k27).binds (ps := ["number"]) fun _ _ _ _ _ _ us hl => match us, hl with | [_], _ => rfl,
    f_own_root := f_own_root, d_own_root := _, F_own_root := fun_mk (st := st_own_root) l28 c28 k28, b_own_root := (fun_mk (st := st_own_root) l28 c28 k28).binds (ps := ["number"]) fun _ _ _ _ _ _ us hl => match us, hl with | [_], _ => rfl,
    f_together_of := f_together_of, d_together_of := _, F_together_of := fun_mk (st := st_together_of) l29 c29 k29, b_together_of := (fun_mk (st := st_together_of) l29 c29 k29).binds (ps := ["things"]) fun _ _ _ _ _ _ us hl => match us, hl with | [_], _ => rfl,
    f_is_on := f_is_on, d_is_on := _, F_is_on := fun_mk (st := st_is_on) l30 c30 k30, b_is_on := (fun_mk (st := st_is_on) l30 c30 k30).binds (ps := ["curve", "thing"]) fun _ _ _ _ _ _ us hl => match us, hl with | [_, _], _ => rfl,
    f_need_point := f_need_point, d_need_point := _, F_need_point := fun_mk (st := st_need_point) l31 c31 k31, b_need_point := (fun_mk (st := st_need_point) l31 c31 k31).binds (ps := ["curve", "thing"]) fun _ _ _ _ _ _ us hl => match us, hl with | [_, _], _ => rfl,
    f_opposite_of := f_opposite_of, d_opposite_of := _, F_opposite_of := fun_mk (st := st_opposite_of) l32 c32 k32, b_opposite_of := (fun_mk (st := st_opposite_of) l32 c32 k32).binds (ps := ["curve", "point"]) fun _ _ _ _ _ _ us hl => match us, hl with | [_, _], _ => rfl,
    f_slope_of := f_slope_of, d_slope_of := _, F_slope_of := fun_mk (st := st_slope_of) l33 c33 k33, b_slope_of := (fun_mk (st := st_slope_of) l33 c33 k33).binds (ps := ["curve", "one", "other"]) fun _ _ _ _ _ _ us hl => match us, hl with | [_, _, _], _ => rfl,
    f_sum_on := f_sum_on, d_sum_on := _, F_sum_on := fun_mk (st := st_sum_on) l34 c34 k34, b_sum_on := (fun_mk (st := st_sum_on) l34 c34 k34).binds (ps := ["curve", "one", "other"]) fun _ _ _ _ _ _ us hl => match us, hl with | [_, _, _], _ => rfl,
    f_opposite := f_opposite, d_opposite := _, F_opposite := fun_mk (st := st_opposite) l35 c35 k35, b_opposite := (fun_mk (st := st_opposite) l35 c35 k35).binds (ps := ["curve", "point"]) fun _ _ _ _ _ _ us hl => match us, hl with | [_, _], _ => rfl,
    f_added := f_added, d_added := _, F_added := fun_mk (st := st_added) l36 c36 k36, b_added := (fun_mk (st := st_added) l36 c36 k36).binds (ps := ["curve", "one", "other"]) fun _ _ _ _ _ _ us hl => match us, hl with | [_, _, _], _ => rfl,
    f_need_whole := f_need_whole, d_need_whole := _, F_need_whole := fun_mk (st := st_need_whole) l37 c37 k37, b_need_whole := (fun_mk (st := st_need_whole) l37 c37 k37).binds (ps := ["curve"]) fun _ _ _ _ _ _ us hl => match us, hl with | [_], _ => rfl,
    f_need_bound := f_need_bound, d_need_bound := _, F_need_bound := fun_mk (st := st_need_bound) l38 c38 k38, b_need_bound := (fun_mk (st := st_need_bound) l38 c38 k38).binds (ps := ["bound"]) fun _ _ _ _ _ _ us hl => match us, hl with | [_], _ => rfl,
    f_divisor := f_divisor, d_divisor := _, F_divisor := fun_mk (st := st_divisor) l39 c39 k39, b_divisor := (fun_mk (st := st_divisor) l39 c39 k39).binds (ps := ["a", "b"]) fun _ _ _ _ _ _ us hl => match us, hl with | [_, _], _ => rfl,
    f_points_at := f_points_at, d_points_at := _, F_points_at := fun_mk (st := st_points_at) l40 c40 k40, b_points_at := (fun_mk (st := st_points_at) l40 c40 k40).binds (ps := ["curve", "halves", "a", "d"]) fun _ _ _ _ _ _ us hl => match us, hl with | [_, _, _, _], _ => rfl,
    f_sides := f_sides, d_sides := _, F_sides := fun_mk (st := st_sides) l41 c41 k41, b_sides := (fun_mk (st := st_sides) l41 c41 k41).binds (ps := ["bound"]) fun _ _ _ _ _ _ us hl => match us, hl with | [_], _ => rfl,
    f_all_to := f_all_to, d_all_to := _, F_all_to := fun_mk (st := st_all_to) l42 c42 k42, b_all_to := (fun_mk (st := st_all_to) l42 c42 k42).binds (ps := ["curve", "bound"]) fun _ _ _ _ _ _ us hl => match us, hl with | [_, _], _ => rfl,
    f_search := f_search, d_search := _, F_search := fun_mk (st := st_search) l43 c43 k43, b_search := (fun_mk (st := st_search) l43 c43 k43).binds (ps := ["curve", "bound"]) fun _ _ _ _ _ _ us hl => match us, hl with | [_, _], _ => rfl,
    f_Lmixed := f_Lmixed, d_Lmixed := _, F_Lmixed := fun_mk (st := st_Lmixed) l44 c44 k44, b_Lmixed := (fun_mk (st := st_Lmixed) l44 c44 k44).binds (ps := ["_law_cell", "_law_k"]) fun _ _ _ _ _ _ us hl => match us, hl with | [_, _], _ => rfl,
    f_Ldraw := f_Ldraw, d_Ldraw := _, F_Ldraw := fun_mk (st := st_Ldraw) l45 c45 k45, b_Ldraw := (fun_mk (st := st_Ldraw) l45 c45 k45).binds (ps := ["_law_script", "_law_k"]) fun _ _ _ _ _ _ us hl => match us, hl with | [_, _], _ => rfl,
    f_Lnext := f_Lnext, d_Lnext := _, F_Lnext := fun_mk (st := st_Lnext) l46 c46 k46, b_Lnext := (fun_mk (st := st_Lnext) l46 c46 k46).binds (ps := ["_law_draw_here", "_law_many"]) fun _ _ _ _ _ _ us hl => match us, hl with | [_, _], _ => rfl,
    f_Ld := f_Ld, d_Ld := _, F_Ld := fun_mk (st := st_Ld) l47 c47 k47, b_Ld := (fun_mk (st := st_Ld) l47 c47 k47).binds (ps := ["_law_five"]) fun _ _ _ _ _ _ us hl => match us, hl with | [_], _ => rfl,
    f_Llow := f_Llow, d_Llow := _, F_Llow := fun_mk (st := st_Llow) l48 c48 k48, b_Llow := (fun_mk (st := st_Llow) l48 c48 k48).binds (ps := ["_law_three", "_law_x", "_law_y"]) fun _ _ _ _ _ _ us hl => match us, hl with | [_, _, _], _ => rfl,
    f_Lthrough := f_Lthrough, d_Lthrough := _, F_Lthrough := fun_mk (st := st_Lthrough) l49 c49 k49, b_Lthrough := (fun_mk (st := st_Lthrough) l49 c49 k49).binds (ps := ["_law_draw_here", "_law_size"]) fun _ _ _ _ _ _ us hl => match us, hl with | [_, _], _ => rfl,
    f_Lworth := f_Lworth, d_Lworth := _, F_Lworth := fun_mk (st := st_Lworth) l50 c50 k50, b_Lworth := (fun_mk (st := st_Lworth) l50 c50 k50).binds (ps := ["_law_a"]) fun _ _ _ _ _ _ us hl => match us, hl with | [_], _ => rfl,
    f_Lheight := f_Lheight, d_Lheight := _, F_Lheight := fun_mk (st := st_Lheight) l51 c51 k51, b_Lheight := (fun_mk (st := st_Lheight) l51 c51 k51).binds (ps := ["_law_point"]) fun _ _ _ _ _ _ us hl => match us, hl with | [_], _ => rfl,
    f_law := f_law, d_law := _, F_law := fun_mk (st := st_law) l52 c52 k52, b_law := (fun_mk (st := st_law) l52 c52 k52).binds (ps := ["_law_script"]) fun _ _ _ _ _ _ us hl => match us, hl with | [_], _ => rfl,
    cc_law := cc52, cP_law := cP52, cE_law := ma52,
    g_is_number := PySem.W.mg_of X G a0,
    g_common := PySem.W.mg_of X G a1,
    g_lowest := PySem.W.mg_of X G a4,
    g_pair_of := PySem.W.mg_of X G a3,
    g_product := PySem.W.mg_of X G a7,
    g_sum_of_two := PySem.W.mg_of X G a6,
    g_summed := PySem.W.mg_of X G a10,
    g_halves_of := PySem.W.mg_of X G a11,
    g_is_fraction := PySem.W.mg_of X G a2,
    g_d_of := PySem.W.mg_of X G a12,
    g_is_curve := PySem.W.mg_of X G a13,
    g_quotient := PySem.W.mg_of X G a9,
    g_need_curve := PySem.W.mg_of X G a14,
    g_own_invariants := PySem.W.mg_of X G a15,
    g_is_pair := PySem.W.mg_of X G a18,
    g_off_by := PySem.W.mg_of X G a17,
    g_is_change := PySem.W.mg_of X G a20,
    g_by_power := PySem.W.mg_of X G a22,
    g_need_change := PySem.W.mg_of X G a21,
    g_own_led := PySem.W.mg_of X G a23,
    g_lies_on := PySem.W.mg_of X G a19,
    g_own_led_point := PySem.W.mg_of X G a25,
    g_root_below := PySem.W.mg_of X G a27,
    g_together_of := PySem.W.mg_of X G a29,
    g_is_on := PySem.W.mg_of X G a30,
    g_turned := PySem.W.mg_of X G a8,
    g_opposite_of := PySem.W.mg_of X G a32,
    g_slope_of := PySem.W.mg_of X G a33,
    g_need_point := PySem.W.mg_of X G a31,
    g_sum_on := PySem.W.mg_of X G a34,
    g_own_root := PySem.W.mg_of X G a28,
    g_fraction := PySem.W.mg_of X G a5,
    g_divisor := PySem.W.mg_of X G a39,
    g_invariants := PySem.W.mg_of X G a16,
    g_sides := PySem.W.mg_of X G a41,
    g_points_at := PySem.W.mg_of X G a40,
    g_need_bound := PySem.W.mg_of X G a38,
    g_need_whole := PySem.W.mg_of X G a37,
    g_all_to := PySem.W.mg_of X G a42,
    g_Lmixed := PySem.W.mg_of X G a44,
    g_Lnext := PySem.W.mg_of X G a46,
    g_Llow := PySem.W.mg_of X G a48,
    g_Ld := PySem.W.mg_of X G a47,
    g_Ldraw := PySem.W.mg_of X G a45,
    g_Lthrough := PySem.W.mg_of X G a49,
    g_led := PySem.W.mg_of X G a24,
    g_search := PySem.W.mg_of X G a43,
    g_led_point := PySem.W.mg_of X G a26,
    g_Lworth := PySem.W.mg_of X G a50,
    g_added := PySem.W.mg_of X G a36,
    g_opposite := PySem.W.mg_of X G a35,
    g_Lheight := PySem.W.mg_of X G a51,
    g_law := PySem.W.mg_of X G a52,
    n_int := PySem.W.mg_none_of X G n0,
    n_isinstance := PySem.W.mg_none_of X G n1,
    n_bool := PySem.W.mg_none_of X G n2,
    n_abs := PySem.W.mg_none_of X G n3,
    n_tuple := PySem.W.mg_none_of X G n4,
    n_len := PySem.W.mg_none_of X G n5,
    n_all := PySem.W.mg_none_of X G n6,
    n_range := PySem.W.mg_none_of X G n7,
    n_zip := PySem.W.mg_none_of X G n8,
    n_sorted := PySem.W.mg_none_of X G n9,
    n_max := PySem.W.mg_none_of X G n10,
    n_min := PySem.W.mg_none_of X G n11,
    n_repr := PySem.W.mg_none_of X G n12,
    e_FAR := ⟨_, PySem.W.mg_of X G e0⟩,
    e_SQUARES := ⟨_, PySem.W.mg_of X G e1⟩,
    dig := dig }
theorem all_mk {l : PySem.W.OpenLaw} {w : World} {K : PySem.W.Frag} {h : Heap} {mg : Str → Option Value} {fa : Addr} {ts : List Addr} (X : K.In h) (G : h.Ns mainGlobals mg) (hfa : mg "law" = some (.ref fa))
    {f_is_number f_common f_is_fraction f_pair_of f_lowest f_fraction f_sum_of_two f_product f_turned f_quotient f_summed f_halves_of f_d_of f_is_curve f_need_curve f_own_invariants f_invariants f_off_by f_is_pair f_lies_on f_is_change f_need_change f_by_power f_own_led f_led f_own_led_point f_led_point f_root_below f_own_root f_together_of f_is_on f_need_point f_opposite_of f_slope_of f_sum_on f_opposite f_added f_need_whole f_need_bound f_divisor f_points_at f_sides f_all_to f_search f_Lmixed f_Ldraw f_Lnext f_Ld f_Llow f_Lthrough f_Lworth f_Lheight f_law : Addr}
    {od0 an0 : Option Addr} {sl0 : Array (Option Value)} {oc0 kV0 dc0 pm0 cd0 ct0 : Value}
    (a0 : PySem.W.nsIn K mainGlobals "is_number" = some (some (.ref f_is_number))) (l0 : K.lookup f_is_number = some ⟨oc0, od0, .func (PySem.W.fnOf "is_number" "is_number" (defArgs st_is_number) (defBody st_is_number) (defScope st_is_number) .none kV0 dc0 pm0 an0 cd0 ct0), sl0⟩) (c0 : PySem.W.codeIn K cd0 "is_number" = true) (k0 : PySem.W.keepIn K (.ref f_is_number) = true)
    {od1 an1 : Option Addr} {sl1 : Array (Option Value)} {oc1 kV1 dc1 pm1 cd1 ct1 : Value}
    (a1 : PySem.W.nsIn K mainGlobals "common" = some (some (.ref f_common))) (l1 : K.lookup f_common = some ⟨oc1, od1, .func (PySem.W.fnOf "common" "common" (defArgs st_common) (defBody st_common) (defScope st_common) .none kV1 dc1 pm1 an1 cd1 ct1), sl1⟩) (c1 : PySem.W.codeIn K cd1 "common" = true) (k1 : PySem.W.keepIn K (.ref f_common) = true)
    {od2 an2 : Option Addr} {sl2 : Array (Option Value)} {oc2 kV2 dc2 pm2 cd2 ct2 : Value}
    (a2 : PySem.W.nsIn K mainGlobals "is_fraction" = some (some (.ref f_is_fraction))) (l2 : K.lookup f_is_fraction = some ⟨oc2, od2, .func (PySem.W.fnOf "is_fraction" "is_fraction" (defArgs st_is_fraction) (defBody st_is_fraction) (defScope st_is_fraction) .none kV2 dc2 pm2 an2 cd2 ct2), sl2⟩) (c2 : PySem.W.codeIn K cd2 "is_fraction" = true) (k2 : PySem.W.keepIn K (.ref f_is_fraction) = true)
    {od3 an3 : Option Addr} {sl3 : Array (Option Value)} {oc3 kV3 dc3 pm3 cd3 ct3 : Value}
    (a3 : PySem.W.nsIn K mainGlobals "pair_of" = some (some (.ref f_pair_of))) (l3 : K.lookup f_pair_of = some ⟨oc3, od3, .func (PySem.W.fnOf "pair_of" "pair_of" (defArgs st_pair_of) (defBody st_pair_of) (defScope st_pair_of) .none kV3 dc3 pm3 an3 cd3 ct3), sl3⟩) (c3 : PySem.W.codeIn K cd3 "pair_of" = true) (k3 : PySem.W.keepIn K (.ref f_pair_of) = true)
    {od4 an4 : Option Addr} {sl4 : Array (Option Value)} {oc4 kV4 dc4 pm4 cd4 ct4 : Value}
    (a4 : PySem.W.nsIn K mainGlobals "lowest" = some (some (.ref f_lowest))) (l4 : K.lookup f_lowest = some ⟨oc4, od4, .func (PySem.W.fnOf "lowest" "lowest" (defArgs st_lowest) (defBody st_lowest) (defScope st_lowest) .none kV4 dc4 pm4 an4 cd4 ct4), sl4⟩) (c4 : PySem.W.codeIn K cd4 "lowest" = true) (k4 : PySem.W.keepIn K (.ref f_lowest) = true)
    {od5 an5 : Option Addr} {sl5 : Array (Option Value)} {oc5 kV5 dc5 pm5 cd5 ct5 : Value}
    {dT5 : Addr}
    (a5 : PySem.W.nsIn K mainGlobals "fraction" = some (some (.ref f_fraction))) (l5 : K.lookup f_fraction = some ⟨oc5, od5, .func (PySem.W.fnOf "fraction" "fraction" (defArgs st_fraction) (defBody st_fraction) (defScope st_fraction) (.ref dT5) kV5 dc5 pm5 an5 cd5 ct5), sl5⟩) (c5 : PySem.W.codeIn K cd5 "fraction" = true) (k5 : PySem.W.keepIn K (.ref f_fraction) = true)
    {dfc5 : Value} {dd5 : Option Addr} {dv5 : Array Value} {dn5 : Nat} {ds5 : Array (Option Value)} {dt5 : Tok} (dl5 : K.lookup dT5 = some ⟨dfc5, dd5, .seq dv5 dn5, ds5⟩) (dq5 : dv5 = #[.int (1) dt5])
    {od6 an6 : Option Addr} {sl6 : Array (Option Value)} {oc6 kV6 dc6 pm6 cd6 ct6 : Value}
    (a6 : PySem.W.nsIn K mainGlobals "sum_of_two" = some (some (.ref f_sum_of_two))) (l6 : K.lookup f_sum_of_two = some ⟨oc6, od6, .func (PySem.W.fnOf "sum_of_two" "sum_of_two" (defArgs st_sum_of_two) (defBody st_sum_of_two) (defScope st_sum_of_two) .none kV6 dc6 pm6 an6 cd6 ct6), sl6⟩) (c6 : PySem.W.codeIn K cd6 "sum_of_two" = true) (k6 : PySem.W.keepIn K (.ref f_sum_of_two) = true)
    {od7 an7 : Option Addr} {sl7 : Array (Option Value)} {oc7 kV7 dc7 pm7 cd7 ct7 : Value}
    (a7 : PySem.W.nsIn K mainGlobals "product" = some (some (.ref f_product))) (l7 : K.lookup f_product = some ⟨oc7, od7, .func (PySem.W.fnOf "product" "product" (defArgs st_product) (defBody st_product) (defScope st_product) .none kV7 dc7 pm7 an7 cd7 ct7), sl7⟩) (c7 : PySem.W.codeIn K cd7 "product" = true) (k7 : PySem.W.keepIn K (.ref f_product) = true)
    {od8 an8 : Option Addr} {sl8 : Array (Option Value)} {oc8 kV8 dc8 pm8 cd8 ct8 : Value}
    (a8 : PySem.W.nsIn K mainGlobals "turned" = some (some (.ref f_turned))) (l8 : K.lookup f_turned = some ⟨oc8, od8, .func (PySem.W.fnOf "turned" "turned" (defArgs st_turned) (defBody st_turned) (defScope st_turned) .none kV8 dc8 pm8 an8 cd8 ct8), sl8⟩) (c8 : PySem.W.codeIn K cd8 "turned" = true) (k8 : PySem.W.keepIn K (.ref f_turned) = true)
    {od9 an9 : Option Addr} {sl9 : Array (Option Value)} {oc9 kV9 dc9 pm9 cd9 ct9 : Value}
    (a9 : PySem.W.nsIn K mainGlobals "quotient" = some (some (.ref f_quotient))) (l9 : K.lookup f_quotient = some ⟨oc9, od9, .func (PySem.W.fnOf "quotient" "quotient" (defArgs st_quotient) (defBody st_quotient) (defScope st_quotient) .none kV9 dc9 pm9 an9 cd9 ct9), sl9⟩) (c9 : PySem.W.codeIn K cd9 "quotient" = true) (k9 : PySem.W.keepIn K (.ref f_quotient) = true)
    {od10 an10 : Option Addr} {sl10 : Array (Option Value)} {oc10 kV10 dc10 pm10 cd10 ct10 : Value}
    (a10 : PySem.W.nsIn K mainGlobals "summed" = some (some (.ref f_summed))) (l10 : K.lookup f_summed = some ⟨oc10, od10, .func (PySem.W.fnOf "summed" "summed" (defArgs st_summed) (defBody st_summed) (defScope st_summed) .none kV10 dc10 pm10 an10 cd10 ct10), sl10⟩) (c10 : PySem.W.codeIn K cd10 "summed" = true) (k10 : PySem.W.keepIn K (.ref f_summed) = true)
    {od11 an11 : Option Addr} {sl11 : Array (Option Value)} {oc11 kV11 dc11 pm11 cd11 ct11 : Value}
    (a11 : PySem.W.nsIn K mainGlobals "halves_of" = some (some (.ref f_halves_of))) (l11 : K.lookup f_halves_of = some ⟨oc11, od11, .func (PySem.W.fnOf "halves_of" "halves_of" (defArgs st_halves_of) (defBody st_halves_of) (defScope st_halves_of) .none kV11 dc11 pm11 an11 cd11 ct11), sl11⟩) (c11 : PySem.W.codeIn K cd11 "halves_of" = true) (k11 : PySem.W.keepIn K (.ref f_halves_of) = true)
    {od12 an12 : Option Addr} {sl12 : Array (Option Value)} {oc12 kV12 dc12 pm12 cd12 ct12 : Value}
    (a12 : PySem.W.nsIn K mainGlobals "d_of" = some (some (.ref f_d_of))) (l12 : K.lookup f_d_of = some ⟨oc12, od12, .func (PySem.W.fnOf "d_of" "d_of" (defArgs st_d_of) (defBody st_d_of) (defScope st_d_of) .none kV12 dc12 pm12 an12 cd12 ct12), sl12⟩) (c12 : PySem.W.codeIn K cd12 "d_of" = true) (k12 : PySem.W.keepIn K (.ref f_d_of) = true)
    {od13 an13 : Option Addr} {sl13 : Array (Option Value)} {oc13 kV13 dc13 pm13 cd13 ct13 : Value}
    (a13 : PySem.W.nsIn K mainGlobals "is_curve" = some (some (.ref f_is_curve))) (l13 : K.lookup f_is_curve = some ⟨oc13, od13, .func (PySem.W.fnOf "is_curve" "is_curve" (defArgs st_is_curve) (defBody st_is_curve) (defScope st_is_curve) .none kV13 dc13 pm13 an13 cd13 ct13), sl13⟩) (c13 : PySem.W.codeIn K cd13 "is_curve" = true) (k13 : PySem.W.keepIn K (.ref f_is_curve) = true)
    {od14 an14 : Option Addr} {sl14 : Array (Option Value)} {oc14 kV14 dc14 pm14 cd14 ct14 : Value}
    (a14 : PySem.W.nsIn K mainGlobals "need_curve" = some (some (.ref f_need_curve))) (l14 : K.lookup f_need_curve = some ⟨oc14, od14, .func (PySem.W.fnOf "need_curve" "need_curve" (defArgs st_need_curve) (defBody st_need_curve) (defScope st_need_curve) .none kV14 dc14 pm14 an14 cd14 ct14), sl14⟩) (c14 : PySem.W.codeIn K cd14 "need_curve" = true) (k14 : PySem.W.keepIn K (.ref f_need_curve) = true)
    {od15 an15 : Option Addr} {sl15 : Array (Option Value)} {oc15 kV15 dc15 pm15 cd15 ct15 : Value}
    (a15 : PySem.W.nsIn K mainGlobals "own_invariants" = some (some (.ref f_own_invariants))) (l15 : K.lookup f_own_invariants = some ⟨oc15, od15, .func (PySem.W.fnOf "own_invariants" "own_invariants" (defArgs st_own_invariants) (defBody st_own_invariants) (defScope st_own_invariants) .none kV15 dc15 pm15 an15 cd15 ct15), sl15⟩) (c15 : PySem.W.codeIn K cd15 "own_invariants" = true) (k15 : PySem.W.keepIn K (.ref f_own_invariants) = true)
    {od16 an16 : Option Addr} {sl16 : Array (Option Value)} {oc16 kV16 dc16 pm16 cd16 ct16 : Value}
    (a16 : PySem.W.nsIn K mainGlobals "invariants" = some (some (.ref f_invariants))) (l16 : K.lookup f_invariants = some ⟨oc16, od16, .func (PySem.W.fnOf "invariants" "invariants" (defArgs st_invariants) (defBody st_invariants) (defScope st_invariants) .none kV16 dc16 pm16 an16 cd16 ct16), sl16⟩) (c16 : PySem.W.codeIn K cd16 "invariants" = true) (k16 : PySem.W.keepIn K (.ref f_invariants) = true)
    {od17 an17 : Option Addr} {sl17 : Array (Option Value)} {oc17 kV17 dc17 pm17 cd17 ct17 : Value}
    (a17 : PySem.W.nsIn K mainGlobals "off_by" = some (some (.ref f_off_by))) (l17 : K.lookup f_off_by = some ⟨oc17, od17, .func (PySem.W.fnOf "off_by" "off_by" (defArgs st_off_by) (defBody st_off_by) (defScope st_off_by) .none kV17 dc17 pm17 an17 cd17 ct17), sl17⟩) (c17 : PySem.W.codeIn K cd17 "off_by" = true) (k17 : PySem.W.keepIn K (.ref f_off_by) = true)
    {od18 an18 : Option Addr} {sl18 : Array (Option Value)} {oc18 kV18 dc18 pm18 cd18 ct18 : Value}
    (a18 : PySem.W.nsIn K mainGlobals "is_pair" = some (some (.ref f_is_pair))) (l18 : K.lookup f_is_pair = some ⟨oc18, od18, .func (PySem.W.fnOf "is_pair" "is_pair" (defArgs st_is_pair) (defBody st_is_pair) (defScope st_is_pair) .none kV18 dc18 pm18 an18 cd18 ct18), sl18⟩) (c18 : PySem.W.codeIn K cd18 "is_pair" = true) (k18 : PySem.W.keepIn K (.ref f_is_pair) = true)
    {od19 an19 : Option Addr} {sl19 : Array (Option Value)} {oc19 kV19 dc19 pm19 cd19 ct19 : Value}
    (a19 : PySem.W.nsIn K mainGlobals "lies_on" = some (some (.ref f_lies_on))) (l19 : K.lookup f_lies_on = some ⟨oc19, od19, .func (PySem.W.fnOf "lies_on" "lies_on" (defArgs st_lies_on) (defBody st_lies_on) (defScope st_lies_on) .none kV19 dc19 pm19 an19 cd19 ct19), sl19⟩) (c19 : PySem.W.codeIn K cd19 "lies_on" = true) (k19 : PySem.W.keepIn K (.ref f_lies_on) = true)
    {od20 an20 : Option Addr} {sl20 : Array (Option Value)} {oc20 kV20 dc20 pm20 cd20 ct20 : Value}
    (a20 : PySem.W.nsIn K mainGlobals "is_change" = some (some (.ref f_is_change))) (l20 : K.lookup f_is_change = some ⟨oc20, od20, .func (PySem.W.fnOf "is_change" "is_change" (defArgs st_is_change) (defBody st_is_change) (defScope st_is_change) .none kV20 dc20 pm20 an20 cd20 ct20), sl20⟩) (c20 : PySem.W.codeIn K cd20 "is_change" = true) (k20 : PySem.W.keepIn K (.ref f_is_change) = true)
    {od21 an21 : Option Addr} {sl21 : Array (Option Value)} {oc21 kV21 dc21 pm21 cd21 ct21 : Value}
    (a21 : PySem.W.nsIn K mainGlobals "need_change" = some (some (.ref f_need_change))) (l21 : K.lookup f_need_change = some ⟨oc21, od21, .func (PySem.W.fnOf "need_change" "need_change" (defArgs st_need_change) (defBody st_need_change) (defScope st_need_change) .none kV21 dc21 pm21 an21 cd21 ct21), sl21⟩) (c21 : PySem.W.codeIn K cd21 "need_change" = true) (k21 : PySem.W.keepIn K (.ref f_need_change) = true)
    {od22 an22 : Option Addr} {sl22 : Array (Option Value)} {oc22 kV22 dc22 pm22 cd22 ct22 : Value}
    (a22 : PySem.W.nsIn K mainGlobals "by_power" = some (some (.ref f_by_power))) (l22 : K.lookup f_by_power = some ⟨oc22, od22, .func (PySem.W.fnOf "by_power" "by_power" (defArgs st_by_power) (defBody st_by_power) (defScope st_by_power) .none kV22 dc22 pm22 an22 cd22 ct22), sl22⟩) (c22 : PySem.W.codeIn K cd22 "by_power" = true) (k22 : PySem.W.keepIn K (.ref f_by_power) = true)
    {od23 an23 : Option Addr} {sl23 : Array (Option Value)} {oc23 kV23 dc23 pm23 cd23 ct23 : Value}
    (a23 : PySem.W.nsIn K mainGlobals "own_led" = some (some (.ref f_own_led))) (l23 : K.lookup f_own_led = some ⟨oc23, od23, .func (PySem.W.fnOf "own_led" "own_led" (defArgs st_own_led) (defBody st_own_led) (defScope st_own_led) .none kV23 dc23 pm23 an23 cd23 ct23), sl23⟩) (c23 : PySem.W.codeIn K cd23 "own_led" = true) (k23 : PySem.W.keepIn K (.ref f_own_led) = true)
    {od24 an24 : Option Addr} {sl24 : Array (Option Value)} {oc24 kV24 dc24 pm24 cd24 ct24 : Value}
    (a24 : PySem.W.nsIn K mainGlobals "led" = some (some (.ref f_led))) (l24 : K.lookup f_led = some ⟨oc24, od24, .func (PySem.W.fnOf "led" "led" (defArgs st_led) (defBody st_led) (defScope st_led) .none kV24 dc24 pm24 an24 cd24 ct24), sl24⟩) (c24 : PySem.W.codeIn K cd24 "led" = true) (k24 : PySem.W.keepIn K (.ref f_led) = true)
    {od25 an25 : Option Addr} {sl25 : Array (Option Value)} {oc25 kV25 dc25 pm25 cd25 ct25 : Value}
    (a25 : PySem.W.nsIn K mainGlobals "own_led_point" = some (some (.ref f_own_led_point))) (l25 : K.lookup f_own_led_point = some ⟨oc25, od25, .func (PySem.W.fnOf "own_led_point" "own_led_point" (defArgs st_own_led_point) (defBody st_own_led_point) (defScope st_own_led_point) .none kV25 dc25 pm25 an25 cd25 ct25), sl25⟩) (c25 : PySem.W.codeIn K cd25 "own_led_point" = true) (k25 : PySem.W.keepIn K (.ref f_own_led_point) = true)
    {od26 an26 : Option Addr} {sl26 : Array (Option Value)} {oc26 kV26 dc26 pm26 cd26 ct26 : Value}
    (a26 : PySem.W.nsIn K mainGlobals "led_point" = some (some (.ref f_led_point))) (l26 : K.lookup f_led_point = some ⟨oc26, od26, .func (PySem.W.fnOf "led_point" "led_point" (defArgs st_led_point) (defBody st_led_point) (defScope st_led_point) .none kV26 dc26 pm26 an26 cd26 ct26), sl26⟩) (c26 : PySem.W.codeIn K cd26 "led_point" = true) (k26 : PySem.W.keepIn K (.ref f_led_point) = true)
    {od27 an27 : Option Addr} {sl27 : Array (Option Value)} {oc27 kV27 dc27 pm27 cd27 ct27 : Value}
    (a27 : PySem.W.nsIn K mainGlobals "root_below" = some (some (.ref f_root_below))) (l27 : K.lookup f_root_below = some ⟨oc27, od27, .func (PySem.W.fnOf "root_below" "root_below" (defArgs st_root_below) (defBody st_root_below) (defScope st_root_below) .none kV27 dc27 pm27 an27 cd27 ct27), sl27⟩) (c27 : PySem.W.codeIn K cd27 "root_below" = true) (k27 : PySem.W.keepIn K (.ref f_root_below) = true)
    {od28 an28 : Option Addr} {sl28 : Array (Option Value)} {oc28 kV28 dc28 pm28 cd28 ct28 : Value}
    (a28 : PySem.W.nsIn K mainGlobals "own_root" = some (some (.ref f_own_root))) (l28 : K.lookup f_own_root = some ⟨oc28, od28, .func (PySem.W.fnOf "own_root" "own_root" (defArgs st_own_root) (defBody st_own_root) (defScope st_own_root) .none kV28 dc28 pm28 an28 cd28 ct28), sl28⟩) (c28 : PySem.W.codeIn K cd28 "own_root" = true) (k28 : PySem.W.keepIn K (.ref f_own_root) = true)
    {od29 an29 : Option Addr} {sl29 : Array (Option Value)} {oc29 kV29 dc29 pm29 cd29 ct29 : Value}
    (a29 : PySem.W.nsIn K mainGlobals "together_of" = some (some (.ref f_together_of))) (l29 : K.lookup f_together_of = some ⟨oc29, od29, .func (PySem.W.fnOf "together_of" "together_of" (defArgs st_together_of) (defBody st_together_of) (defScope st_together_of) .none kV29 dc29 pm29 an29 cd29 ct29), sl29⟩) (c29 : PySem.W.codeIn K cd29 "together_of" = true) (k29 : PySem.W.keepIn K (.ref f_together_of) = true)
    {od30 an30 : Option Addr} {sl30 : Array (Option Value)} {oc30 kV30 dc30 pm30 cd30 ct30 : Value}
    (a30 : PySem.W.nsIn K mainGlobals "is_on" = some (some (.ref f_is_on))) (l30 : K.lookup f_is_on = some ⟨oc30, od30, .func (PySem.W.fnOf "is_on" "is_on" (defArgs st_is_on) (defBody st_is_on) (defScope st_is_on) .none kV30 dc30 pm30 an30 cd30 ct30), sl30⟩) (c30 : PySem.W.codeIn K cd30 "is_on" = true) (k30 : PySem.W.keepIn K (.ref f_is_on) = true)
    {od31 an31 : Option Addr} {sl31 : Array (Option Value)} {oc31 kV31 dc31 pm31 cd31 ct31 : Value}
    (a31 : PySem.W.nsIn K mainGlobals "need_point" = some (some (.ref f_need_point))) (l31 : K.lookup f_need_point = some ⟨oc31, od31, .func (PySem.W.fnOf "need_point" "need_point" (defArgs st_need_point) (defBody st_need_point) (defScope st_need_point) .none kV31 dc31 pm31 an31 cd31 ct31), sl31⟩) (c31 : PySem.W.codeIn K cd31 "need_point" = true) (k31 : PySem.W.keepIn K (.ref f_need_point) = true)
    {od32 an32 : Option Addr} {sl32 : Array (Option Value)} {oc32 kV32 dc32 pm32 cd32 ct32 : Value}
    (a32 : PySem.W.nsIn K mainGlobals "opposite_of" = some (some (.ref f_opposite_of))) (l32 : K.lookup f_opposite_of = some ⟨oc32, od32, .func (PySem.W.fnOf "opposite_of" "opposite_of" (defArgs st_opposite_of) (defBody st_opposite_of) (defScope st_opposite_of) .none kV32 dc32 pm32 an32 cd32 ct32), sl32⟩) (c32 : PySem.W.codeIn K cd32 "opposite_of" = true) (k32 : PySem.W.keepIn K (.ref f_opposite_of) = true)
    {od33 an33 : Option Addr} {sl33 : Array (Option Value)} {oc33 kV33 dc33 pm33 cd33 ct33 : Value}
    (a33 : PySem.W.nsIn K mainGlobals "slope_of" = some (some (.ref f_slope_of))) (l33 : K.lookup f_slope_of = some ⟨oc33, od33, .func (PySem.W.fnOf "slope_of" "slope_of" (defArgs st_slope_of) (defBody st_slope_of) (defScope st_slope_of) .none kV33 dc33 pm33 an33 cd33 ct33), sl33⟩) (c33 : PySem.W.codeIn K cd33 "slope_of" = true) (k33 : PySem.W.keepIn K (.ref f_slope_of) = true)
    {od34 an34 : Option Addr} {sl34 : Array (Option Value)} {oc34 kV34 dc34 pm34 cd34 ct34 : Value}
    (a34 : PySem.W.nsIn K mainGlobals "sum_on" = some (some (.ref f_sum_on))) (l34 : K.lookup f_sum_on = some ⟨oc34, od34, .func (PySem.W.fnOf "sum_on" "sum_on" (defArgs st_sum_on) (defBody st_sum_on) (defScope st_sum_on) .none kV34 dc34 pm34 an34 cd34 ct34), sl34⟩) (c34 : PySem.W.codeIn K cd34 "sum_on" = true) (k34 : PySem.W.keepIn K (.ref f_sum_on) = true)
    {od35 an35 : Option Addr} {sl35 : Array (Option Value)} {oc35 kV35 dc35 pm35 cd35 ct35 : Value}
    (a35 : PySem.W.nsIn K mainGlobals "opposite" = some (some (.ref f_opposite))) (l35 : K.lookup f_opposite = some ⟨oc35, od35, .func (PySem.W.fnOf "opposite" "opposite" (defArgs st_opposite) (defBody st_opposite) (defScope st_opposite) .none kV35 dc35 pm35 an35 cd35 ct35), sl35⟩) (c35 : PySem.W.codeIn K cd35 "opposite" = true) (k35 : PySem.W.keepIn K (.ref f_opposite) = true)
    {od36 an36 : Option Addr} {sl36 : Array (Option Value)} {oc36 kV36 dc36 pm36 cd36 ct36 : Value}
    (a36 : PySem.W.nsIn K mainGlobals "added" = some (some (.ref f_added))) (l36 : K.lookup f_added = some ⟨oc36, od36, .func (PySem.W.fnOf "added" "added" (defArgs st_added) (defBody st_added) (defScope st_added) .none kV36 dc36 pm36 an36 cd36 ct36), sl36⟩) (c36 : PySem.W.codeIn K cd36 "added" = true) (k36 : PySem.W.keepIn K (.ref f_added) = true)
    {od37 an37 : Option Addr} {sl37 : Array (Option Value)} {oc37 kV37 dc37 pm37 cd37 ct37 : Value}
    (a37 : PySem.W.nsIn K mainGlobals "need_whole" = some (some (.ref f_need_whole))) (l37 : K.lookup f_need_whole = some ⟨oc37, od37, .func (PySem.W.fnOf "need_whole" "need_whole" (defArgs st_need_whole) (defBody st_need_whole) (defScope st_need_whole) .none kV37 dc37 pm37 an37 cd37 ct37), sl37⟩) (c37 : PySem.W.codeIn K cd37 "need_whole" = true) (k37 : PySem.W.keepIn K (.ref f_need_whole) = true)
    {od38 an38 : Option Addr} {sl38 : Array (Option Value)} {oc38 kV38 dc38 pm38 cd38 ct38 : Value}
    (a38 : PySem.W.nsIn K mainGlobals "need_bound" = some (some (.ref f_need_bound))) (l38 : K.lookup f_need_bound = some ⟨oc38, od38, .func (PySem.W.fnOf "need_bound" "need_bound" (defArgs st_need_bound) (defBody st_need_bound) (defScope st_need_bound) .none kV38 dc38 pm38 an38 cd38 ct38), sl38⟩) (c38 : PySem.W.codeIn K cd38 "need_bound" = true) (k38 : PySem.W.keepIn K (.ref f_need_bound) = true)
    {od39 an39 : Option Addr} {sl39 : Array (Option Value)} {oc39 kV39 dc39 pm39 cd39 ct39 : Value}
    (a39 : PySem.W.nsIn K mainGlobals "divisor" = some (some (.ref f_divisor))) (l39 : K.lookup f_divisor = some ⟨oc39, od39, .func (PySem.W.fnOf "divisor" "divisor" (defArgs st_divisor) (defBody st_divisor) (defScope st_divisor) .none kV39 dc39 pm39 an39 cd39 ct39), sl39⟩) (c39 : PySem.W.codeIn K cd39 "divisor" = true) (k39 : PySem.W.keepIn K (.ref f_divisor) = true)
    {od40 an40 : Option Addr} {sl40 : Array (Option Value)} {oc40 kV40 dc40 pm40 cd40 ct40 : Value}
    (a40 : PySem.W.nsIn K mainGlobals "points_at" = some (some (.ref f_points_at))) (l40 : K.lookup f_points_at = some ⟨oc40, od40, .func (PySem.W.fnOf "points_at" "points_at" (defArgs st_points_at) (defBody st_points_at) (defScope st_points_at) .none kV40 dc40 pm40 an40 cd40 ct40), sl40⟩) (c40 : PySem.W.codeIn K cd40 "points_at" = true) (k40 : PySem.W.keepIn K (.ref f_points_at) = true)
    {od41 an41 : Option Addr} {sl41 : Array (Option Value)} {oc41 kV41 dc41 pm41 cd41 ct41 : Value}
    (a41 : PySem.W.nsIn K mainGlobals "sides" = some (some (.ref f_sides))) (l41 : K.lookup f_sides = some ⟨oc41, od41, .func (PySem.W.fnOf "sides" "sides" (defArgs st_sides) (defBody st_sides) (defScope st_sides) .none kV41 dc41 pm41 an41 cd41 ct41), sl41⟩) (c41 : PySem.W.codeIn K cd41 "sides" = true) (k41 : PySem.W.keepIn K (.ref f_sides) = true)
    {od42 an42 : Option Addr} {sl42 : Array (Option Value)} {oc42 kV42 dc42 pm42 cd42 ct42 : Value}
    (a42 : PySem.W.nsIn K mainGlobals "all_to" = some (some (.ref f_all_to))) (l42 : K.lookup f_all_to = some ⟨oc42, od42, .func (PySem.W.fnOf "all_to" "all_to" (defArgs st_all_to) (defBody st_all_to) (defScope st_all_to) .none kV42 dc42 pm42 an42 cd42 ct42), sl42⟩) (c42 : PySem.W.codeIn K cd42 "all_to" = true) (k42 : PySem.W.keepIn K (.ref f_all_to) = true)
    {od43 an43 : Option Addr} {sl43 : Array (Option Value)} {oc43 kV43 dc43 pm43 cd43 ct43 : Value}
    (a43 : PySem.W.nsIn K mainGlobals "search" = some (some (.ref f_search))) (l43 : K.lookup f_search = some ⟨oc43, od43, .func (PySem.W.fnOf "search" "search" (defArgs st_search) (defBody st_search) (defScope st_search) .none kV43 dc43 pm43 an43 cd43 ct43), sl43⟩) (c43 : PySem.W.codeIn K cd43 "search" = true) (k43 : PySem.W.keepIn K (.ref f_search) = true)
    {od44 an44 : Option Addr} {sl44 : Array (Option Value)} {oc44 kV44 dc44 pm44 cd44 ct44 : Value}
    (a44 : PySem.W.nsIn K mainGlobals "_law_mixed" = some (some (.ref f_Lmixed))) (l44 : K.lookup f_Lmixed = some ⟨oc44, od44, .func (PySem.W.fnOf "_law_mixed" "_law_mixed" (defArgs st_Lmixed) (defBody st_Lmixed) (defScope st_Lmixed) .none kV44 dc44 pm44 an44 cd44 ct44), sl44⟩) (c44 : PySem.W.codeIn K cd44 "_law_mixed" = true) (k44 : PySem.W.keepIn K (.ref f_Lmixed) = true)
    {od45 an45 : Option Addr} {sl45 : Array (Option Value)} {oc45 kV45 dc45 pm45 cd45 ct45 : Value}
    (a45 : PySem.W.nsIn K mainGlobals "_law_draw" = some (some (.ref f_Ldraw))) (l45 : K.lookup f_Ldraw = some ⟨oc45, od45, .func (PySem.W.fnOf "_law_draw" "_law_draw" (defArgs st_Ldraw) (defBody st_Ldraw) (defScope st_Ldraw) .none kV45 dc45 pm45 an45 cd45 ct45), sl45⟩) (c45 : PySem.W.codeIn K cd45 "_law_draw" = true) (k45 : PySem.W.keepIn K (.ref f_Ldraw) = true)
    {od46 an46 : Option Addr} {sl46 : Array (Option Value)} {oc46 kV46 dc46 pm46 cd46 ct46 : Value}
    (a46 : PySem.W.nsIn K mainGlobals "_law_next" = some (some (.ref f_Lnext))) (l46 : K.lookup f_Lnext = some ⟨oc46, od46, .func (PySem.W.fnOf "_law_next" "_law_next" (defArgs st_Lnext) (defBody st_Lnext) (defScope st_Lnext) .none kV46 dc46 pm46 an46 cd46 ct46), sl46⟩) (c46 : PySem.W.codeIn K cd46 "_law_next" = true) (k46 : PySem.W.keepIn K (.ref f_Lnext) = true)
    {od47 an47 : Option Addr} {sl47 : Array (Option Value)} {oc47 kV47 dc47 pm47 cd47 ct47 : Value}
    (a47 : PySem.W.nsIn K mainGlobals "_law_d" = some (some (.ref f_Ld))) (l47 : K.lookup f_Ld = some ⟨oc47, od47, .func (PySem.W.fnOf "_law_d" "_law_d" (defArgs st_Ld) (defBody st_Ld) (defScope st_Ld) .none kV47 dc47 pm47 an47 cd47 ct47), sl47⟩) (c47 : PySem.W.codeIn K cd47 "_law_d" = true) (k47 : PySem.W.keepIn K (.ref f_Ld) = true)
    {od48 an48 : Option Addr} {sl48 : Array (Option Value)} {oc48 kV48 dc48 pm48 cd48 ct48 : Value}
    (a48 : PySem.W.nsIn K mainGlobals "_law_low" = some (some (.ref f_Llow))) (l48 : K.lookup f_Llow = some ⟨oc48, od48, .func (PySem.W.fnOf "_law_low" "_law_low" (defArgs st_Llow) (defBody st_Llow) (defScope st_Llow) .none kV48 dc48 pm48 an48 cd48 ct48), sl48⟩) (c48 : PySem.W.codeIn K cd48 "_law_low" = true) (k48 : PySem.W.keepIn K (.ref f_Llow) = true)
    {od49 an49 : Option Addr} {sl49 : Array (Option Value)} {oc49 kV49 dc49 pm49 cd49 ct49 : Value}
    (a49 : PySem.W.nsIn K mainGlobals "_law_through" = some (some (.ref f_Lthrough))) (l49 : K.lookup f_Lthrough = some ⟨oc49, od49, .func (PySem.W.fnOf "_law_through" "_law_through" (defArgs st_Lthrough) (defBody st_Lthrough) (defScope st_Lthrough) .none kV49 dc49 pm49 an49 cd49 ct49), sl49⟩) (c49 : PySem.W.codeIn K cd49 "_law_through" = true) (k49 : PySem.W.keepIn K (.ref f_Lthrough) = true)
    {od50 an50 : Option Addr} {sl50 : Array (Option Value)} {oc50 kV50 dc50 pm50 cd50 ct50 : Value}
    (a50 : PySem.W.nsIn K mainGlobals "_law_worth" = some (some (.ref f_Lworth))) (l50 : K.lookup f_Lworth = some ⟨oc50, od50, .func (PySem.W.fnOf "_law_worth" "_law_worth" (defArgs st_Lworth) (defBody st_Lworth) (defScope st_Lworth) .none kV50 dc50 pm50 an50 cd50 ct50), sl50⟩) (c50 : PySem.W.codeIn K cd50 "_law_worth" = true) (k50 : PySem.W.keepIn K (.ref f_Lworth) = true)
    {od51 an51 : Option Addr} {sl51 : Array (Option Value)} {oc51 kV51 dc51 pm51 cd51 ct51 : Value}
    (a51 : PySem.W.nsIn K mainGlobals "_law_height" = some (some (.ref f_Lheight))) (l51 : K.lookup f_Lheight = some ⟨oc51, od51, .func (PySem.W.fnOf "_law_height" "_law_height" (defArgs st_Lheight) (defBody st_Lheight) (defScope st_Lheight) .none kV51 dc51 pm51 an51 cd51 ct51), sl51⟩) (c51 : PySem.W.codeIn K cd51 "_law_height" = true) (k51 : PySem.W.keepIn K (.ref f_Lheight) = true)
    {od52 an52 : Option Addr} {sl52 : Array (Option Value)} {oc52 kV52 dc52 pm52 cd52 ct52 : Value}
    (a52 : PySem.W.nsIn K mainGlobals "law" = some (some (.ref f_law))) (l52 : K.lookup f_law = some ⟨oc52, od52, .func (PySem.W.fnOf "law" "law" (defArgs st_law) (defBody st_law) (defScope st_law) .none kV52 dc52 pm52 an52 cd52 ct52), sl52⟩) (c52 : PySem.W.codeIn K cd52 "law" = true) (k52 : PySem.W.keepIn K (.ref f_law) = true)
    {cc52 cP52 : Addr} {uc52 : Value} {ud52 : Option Addr} {us52 : Array (Option Value)} {uv52 : Array Value} (ma52 : cd52 = .ref cc52) (mb52 : K.lookup cc52 = some ⟨uc52, ud52, .fields uv52, us52⟩) (md52 : (uv52[11]? : Option Value) = some (.ref cP52)) (me52 : PySem.W.codeHdIn K cc52 cP52 = true) (mf52 : K.lookup cP52 = none) (mh52 : cP52 ∈ ts)
    (n0 : PySem.W.nsIn K mainGlobals "int" = some none)
    (n1 : PySem.W.nsIn K mainGlobals "isinstance" = some none)
    (n2 : PySem.W.nsIn K mainGlobals "bool" = some none)
    (n3 : PySem.W.nsIn K mainGlobals "abs" = some none)
    (n4 : PySem.W.nsIn K mainGlobals "tuple" = some none)
    (n5 : PySem.W.nsIn K mainGlobals "len" = some none)
    (n6 : PySem.W.nsIn K mainGlobals "all" = some none)
    (n7 : PySem.W.nsIn K mainGlobals "range" = some none)
    (n8 : PySem.W.nsIn K mainGlobals "zip" = some none)
    (n9 : PySem.W.nsIn K mainGlobals "sorted" = some none)
    (n10 : PySem.W.nsIn K mainGlobals "max" = some none)
    (n11 : PySem.W.nsIn K mainGlobals "min" = some none)
    (n12 : PySem.W.nsIn K mainGlobals "repr" = some none)
    {t0 : Tok} (e0 : PySem.W.nsIn K mainGlobals "FAR" = some (some (.int (200) t0)))
    {t1 : Tok} (e1 : PySem.W.nsIn K mainGlobals "SQUARES" = some (some (.int (129859329600) t1)))
    (dig : PySem.W.nsIn K cStatics "sys.int_max_str_digits" = some none)
    (tu : ∀ p ∈ Mks.tb [(cc52, cP52, ((("law" : Str) ++ ".<locals>.") ++ "<lambda>"))], ∀ r ∈ Mks.tb [(cc52, cP52, ((("law" : Str) ++ ".<locals>.") ++ "<lambda>"))], p.1 = r.1 → p.2 = r.2) :
    ∃ (fd : FuncData) (ms : Mks), (∀ p ∈ ms, p.2.1 ∈ ts) ∧ MkK K ms ∧ (∀ (s : Shared) (u : Value), BindsTo s fd ⟨[u], []⟩ [("_law_script", u)]) ∧ ∀ base : Heap, TabF ms mg base → Fn (cfL l.prog w K mg base ms.tb) 12 fa fd ["_law_script"] (spM (cfL l.prog w K mg base ms.tb) 1 m_law) := by
  have e := hfa.symm.trans (PySem.W.mg_of X G a52)
  cases e
  refine ⟨_, [(cc52, cP52, ((("law" : Str) ++ ".<locals>.") ++ "<lambda>"))], ?_, ⟨?_, ?_⟩, fun s v => .of_eq rfl, fun base tf => ok_law (C := cfL l.prog w K mg base (Mks.tb [(cc52, cP52, ((("law" : Str) ++ ".<locals>.") ++ "<lambda>"))])) ⟨mkT (ts := ts) X G a0 l0 c0 k0 a1 l1 c1 k1 a2 l2 c2 k2 a3 l3 c3 k3 a4 l4 c4 k4 a5 l5 c5 k5 dl5 dq5 a6 l6 c6 k6 a7 l7 c7 k7 a8 l8 c8 k8 a9 l9 c9 k9 a10 l10 c10 k10 a11 l11 c11 k11 a12 l12 c12 k12 a13 l13 c13 k13 a14 l14 c14 k14 a15 l15 c15 k15 a16 l16 c16 k16 a17 l17 c17 k17 a18 l18 c18 k18 a19 l19 c19 k19 a20 l20 c20 k20 a21 l21 c21 k21 a22 l22 c22 k22 a23 l23 c23 k23 a24 l24 c24 k24 a25 l25 c25 k25 a26 l26 c26 k26 a27 l27 c27 k27 a28 l28 c28 k28 a29 l29 c29 k29 a30 l30 c30 k30 a31 l31 c31 k31 a32 l32 c32 k32 a33 l33 c33 k33 a34 l34 c34 k34 a35 l35 c35 k35 a36 l36 c36 k36 a37 l37 c37 k37 a38 l38 c38 k38 a39 l39 c39 k39 a40 l40 c40 k40 a41 l41 c41 k41 a42 l42 c42 k42 a43 l43 c43 k43 a44 l44 c44 k44 a45 l45 c45 k45 a46 l46 c46 k46 a47 l47 c47 k47 a48 l48 c48 k48 a49 l49 c49 k49 a50 l50 c50 k50 a51 l51 c51 k51 a52 l52 c52 k52 ma52 mb52 md52 me52 mf52 mh52 n0 n1 n2 n3 n4 n5 n6 n7 n8 n9 n10 n11 n12 e0 e1 dig, rfl, tf (cc52, cP52, ((("law" : Str) ++ ".<locals>.") ++ "<lambda>")) (by simp), (show (cP52, ((("law" : Str) ++ ".<locals>.") ++ "<lambda>")) ∈ Mks.tb [(cc52, cP52, ((("law" : Str) ++ ".<locals>.") ++ "<lambda>"))] from by simp [Mks.tb]), fun p hp e => tu p hp (cP52, ((("law" : Str) ++ ".<locals>.") ++ "<lambda>")) (by simp [Mks.tb]) e⟩ rfl⟩
  · exact fun p hp => by
      simp only [List.mem_cons, List.not_mem_nil, or_false] at hp
      rcases hp with rfl
      · exact mh52
  · exact fun p hp => by
      simp only [List.mem_cons, List.not_mem_nil, or_false] at hp
      rcases hp with rfl
      · exact me52
  · exact fun p hp => by
      simp only [List.mem_cons, List.not_mem_nil, or_false] at hp
      rcases hp with rfl
      · exact mf52
def htf : List He.Defn := [("law", none)]
noncomputable abbrev hd0 : He.FnD := ⟨("is_number", none), "is_number", "is_number", defArgs st_is_number, defBody st_is_number, defScope st_is_number⟩
noncomputable abbrev hd1 : He.FnD := ⟨("common", none), "common", "common", defArgs st_common, defBody st_common, defScope st_common⟩
noncomputable abbrev hd2 : He.FnD := ⟨("is_fraction", none), "is_fraction", "is_fraction", defArgs st_is_fraction, defBody st_is_fraction, defScope st_is_fraction⟩
noncomputable abbrev hd3 : He.FnD := ⟨("pair_of", none), "pair_of", "pair_of", defArgs st_pair_of, defBody st_pair_of, defScope st_pair_of⟩
noncomputable abbrev hd4 : He.FnD := ⟨("lowest", none), "lowest", "lowest", defArgs st_lowest, defBody st_lowest, defScope st_lowest⟩
noncomputable abbrev hd5 : He.FnD := ⟨("sum_of_two", none), "sum_of_two", "sum_of_two", defArgs st_sum_of_two, defBody st_sum_of_two, defScope st_sum_of_two⟩
noncomputable abbrev hd6 : He.FnD := ⟨("product", none), "product", "product", defArgs st_product, defBody st_product, defScope st_product⟩
noncomputable abbrev hd7 : He.FnD := ⟨("turned", none), "turned", "turned", defArgs st_turned, defBody st_turned, defScope st_turned⟩
noncomputable abbrev hd8 : He.FnD := ⟨("quotient", none), "quotient", "quotient", defArgs st_quotient, defBody st_quotient, defScope st_quotient⟩
noncomputable abbrev hd9 : He.FnD := ⟨("summed", none), "summed", "summed", defArgs st_summed, defBody st_summed, defScope st_summed⟩
noncomputable abbrev hd10 : He.FnD := ⟨("halves_of", none), "halves_of", "halves_of", defArgs st_halves_of, defBody st_halves_of, defScope st_halves_of⟩
noncomputable abbrev hd11 : He.FnD := ⟨("d_of", none), "d_of", "d_of", defArgs st_d_of, defBody st_d_of, defScope st_d_of⟩
noncomputable abbrev hd12 : He.FnD := ⟨("is_curve", none), "is_curve", "is_curve", defArgs st_is_curve, defBody st_is_curve, defScope st_is_curve⟩
noncomputable abbrev hd13 : He.FnD := ⟨("need_curve", none), "need_curve", "need_curve", defArgs st_need_curve, defBody st_need_curve, defScope st_need_curve⟩
noncomputable abbrev hd14 : He.FnD := ⟨("own_invariants", none), "own_invariants", "own_invariants", defArgs st_own_invariants, defBody st_own_invariants, defScope st_own_invariants⟩
noncomputable abbrev hd15 : He.FnD := ⟨("invariants", none), "invariants", "invariants", defArgs st_invariants, defBody st_invariants, defScope st_invariants⟩
noncomputable abbrev hd16 : He.FnD := ⟨("off_by", none), "off_by", "off_by", defArgs st_off_by, defBody st_off_by, defScope st_off_by⟩
noncomputable abbrev hd17 : He.FnD := ⟨("is_pair", none), "is_pair", "is_pair", defArgs st_is_pair, defBody st_is_pair, defScope st_is_pair⟩
noncomputable abbrev hd18 : He.FnD := ⟨("lies_on", none), "lies_on", "lies_on", defArgs st_lies_on, defBody st_lies_on, defScope st_lies_on⟩
noncomputable abbrev hd19 : He.FnD := ⟨("is_change", none), "is_change", "is_change", defArgs st_is_change, defBody st_is_change, defScope st_is_change⟩
noncomputable abbrev hd20 : He.FnD := ⟨("need_change", none), "need_change", "need_change", defArgs st_need_change, defBody st_need_change, defScope st_need_change⟩
noncomputable abbrev hd21 : He.FnD := ⟨("by_power", none), "by_power", "by_power", defArgs st_by_power, defBody st_by_power, defScope st_by_power⟩
noncomputable abbrev hd22 : He.FnD := ⟨("own_led", none), "own_led", "own_led", defArgs st_own_led, defBody st_own_led, defScope st_own_led⟩
noncomputable abbrev hd23 : He.FnD := ⟨("led", none), "led", "led", defArgs st_led, defBody st_led, defScope st_led⟩
noncomputable abbrev hd24 : He.FnD := ⟨("own_led_point", none), "own_led_point", "own_led_point", defArgs st_own_led_point, defBody st_own_led_point, defScope st_own_led_point⟩
noncomputable abbrev hd25 : He.FnD := ⟨("led_point", none), "led_point", "led_point", defArgs st_led_point, defBody st_led_point, defScope st_led_point⟩
noncomputable abbrev hd26 : He.FnD := ⟨("root_below", none), "root_below", "root_below", defArgs st_root_below, defBody st_root_below, defScope st_root_below⟩
noncomputable abbrev hd27 : He.FnD := ⟨("own_root", none), "own_root", "own_root", defArgs st_own_root, defBody st_own_root, defScope st_own_root⟩
noncomputable abbrev hd28 : He.FnD := ⟨("together_of", none), "together_of", "together_of", defArgs st_together_of, defBody st_together_of, defScope st_together_of⟩
noncomputable abbrev hd29 : He.FnD := ⟨("is_on", none), "is_on", "is_on", defArgs st_is_on, defBody st_is_on, defScope st_is_on⟩
noncomputable abbrev hd30 : He.FnD := ⟨("need_point", none), "need_point", "need_point", defArgs st_need_point, defBody st_need_point, defScope st_need_point⟩
noncomputable abbrev hd31 : He.FnD := ⟨("opposite_of", none), "opposite_of", "opposite_of", defArgs st_opposite_of, defBody st_opposite_of, defScope st_opposite_of⟩
noncomputable abbrev hd32 : He.FnD := ⟨("slope_of", none), "slope_of", "slope_of", defArgs st_slope_of, defBody st_slope_of, defScope st_slope_of⟩
noncomputable abbrev hd33 : He.FnD := ⟨("sum_on", none), "sum_on", "sum_on", defArgs st_sum_on, defBody st_sum_on, defScope st_sum_on⟩
noncomputable abbrev hd34 : He.FnD := ⟨("opposite", none), "opposite", "opposite", defArgs st_opposite, defBody st_opposite, defScope st_opposite⟩
noncomputable abbrev hd35 : He.FnD := ⟨("added", none), "added", "added", defArgs st_added, defBody st_added, defScope st_added⟩
noncomputable abbrev hd36 : He.FnD := ⟨("need_whole", none), "need_whole", "need_whole", defArgs st_need_whole, defBody st_need_whole, defScope st_need_whole⟩
noncomputable abbrev hd37 : He.FnD := ⟨("need_bound", none), "need_bound", "need_bound", defArgs st_need_bound, defBody st_need_bound, defScope st_need_bound⟩
noncomputable abbrev hd38 : He.FnD := ⟨("divisor", none), "divisor", "divisor", defArgs st_divisor, defBody st_divisor, defScope st_divisor⟩
noncomputable abbrev hd39 : He.FnD := ⟨("points_at", none), "points_at", "points_at", defArgs st_points_at, defBody st_points_at, defScope st_points_at⟩
noncomputable abbrev hd40 : He.FnD := ⟨("sides", none), "sides", "sides", defArgs st_sides, defBody st_sides, defScope st_sides⟩
noncomputable abbrev hd41 : He.FnD := ⟨("all_to", none), "all_to", "all_to", defArgs st_all_to, defBody st_all_to, defScope st_all_to⟩
noncomputable abbrev hd42 : He.FnD := ⟨("search", none), "search", "search", defArgs st_search, defBody st_search, defScope st_search⟩
noncomputable abbrev hd43 : He.FnD := ⟨("_law_mixed", none), "_law_mixed", "_law_mixed", defArgs st_Lmixed, defBody st_Lmixed, defScope st_Lmixed⟩
noncomputable abbrev hd44 : He.FnD := ⟨("_law_draw", none), "_law_draw", "_law_draw", defArgs st_Ldraw, defBody st_Ldraw, defScope st_Ldraw⟩
noncomputable abbrev hd45 : He.FnD := ⟨("_law_next", none), "_law_next", "_law_next", defArgs st_Lnext, defBody st_Lnext, defScope st_Lnext⟩
noncomputable abbrev hd46 : He.FnD := ⟨("_law_d", none), "_law_d", "_law_d", defArgs st_Ld, defBody st_Ld, defScope st_Ld⟩
noncomputable abbrev hd47 : He.FnD := ⟨("_law_low", none), "_law_low", "_law_low", defArgs st_Llow, defBody st_Llow, defScope st_Llow⟩
noncomputable abbrev hd48 : He.FnD := ⟨("_law_through", none), "_law_through", "_law_through", defArgs st_Lthrough, defBody st_Lthrough, defScope st_Lthrough⟩
noncomputable abbrev hd49 : He.FnD := ⟨("_law_worth", none), "_law_worth", "_law_worth", defArgs st_Lworth, defBody st_Lworth, defScope st_Lworth⟩
noncomputable abbrev hd50 : He.FnD := ⟨("_law_height", none), "_law_height", "_law_height", defArgs st_Lheight, defBody st_Lheight, defScope st_Lheight⟩
noncomputable abbrev hd51 : He.FnD := ⟨("law", none), "law", "law", defArgs st_law, defBody st_law, defScope st_law⟩
def hfa0_0 : List He.Fa := [.glo "is_number", .keep "is_number", .glo "common", .keep "common", .glo "is_fraction", .keep "is_fraction", .glo "pair_of", .keep "pair_of", .glo "lowest", .keep "lowest", .glo "fraction", .keep "fraction", .glo "sum_of_two", .keep "sum_of_two", .glo "product", .keep "product", .glo "turned", .keep "turned", .glo "quotient", .keep "quotient"]
def hfa0_1 : List He.Fa := [.glo "summed", .keep "summed", .glo "halves_of", .keep "halves_of", .glo "d_of", .keep "d_of", .glo "is_curve", .keep "is_curve", .glo "need_curve", .keep "need_curve", .glo "own_invariants"]
noncomputable def hfn0_0 : List He.FnD := [hd0, hd1, hd2, hd3, hd4, hd5, hd6, hd7, hd8, hd9]
noncomputable def hfn0_1 : List He.FnD := [hd10, hd11, hd12]
noncomputable def hp0 : HdE.Pt4 := ⟨hfa0_0 ++ (hfa0_1), hfn0_0 ++ (hfn0_1)⟩
def hfa1_0 : List He.Fa := [.keep "own_invariants", .glo "invariants", .keep "invariants", .glo "off_by", .keep "off_by", .glo "is_pair", .keep "is_pair", .glo "lies_on", .keep "lies_on", .glo "is_change", .keep "is_change", .glo "need_change", .keep "need_change", .glo "by_power", .keep "by_power", .glo "own_led", .keep "own_led", .glo "led", .keep "led", .glo "own_led_point"]
def hfa1_1 : List He.Fa := [.keep "own_led_point", .glo "led_point", .keep "led_point", .glo "root_below", .keep "root_below", .glo "own_root", .keep "own_root", .glo "together_of", .keep "together_of", .glo "is_on", .keep "is_on"]
noncomputable def hfn1_0 : List He.FnD := [hd13, hd14, hd15, hd16, hd17, hd18, hd19, hd20, hd21, hd22]
noncomputable def hfn1_1 : List He.FnD := [hd23, hd24, hd25]
noncomputable def hp1 : HdE.Pt4 := ⟨hfa1_0 ++ (hfa1_1), hfn1_0 ++ (hfn1_1)⟩
def hfa2_0 : List He.Fa := [.glo "need_point", .keep "need_point", .glo "opposite_of", .keep "opposite_of", .glo "slope_of", .keep "slope_of", .glo "sum_on", .keep "sum_on", .glo "opposite", .keep "opposite", .glo "added", .keep "added", .glo "need_whole", .keep "need_whole", .glo "need_bound", .keep "need_bound", .glo "divisor", .keep "divisor", .glo "points_at", .keep "points_at"]
def hfa2_1 : List He.Fa := [.glo "sides", .keep "sides", .glo "all_to", .keep "all_to", .glo "search", .keep "search", .glo "_law_mixed", .keep "_law_mixed", .glo "_law_draw", .keep "_law_draw", .glo "_law_next"]
noncomputable def hfn2_0 : List He.FnD := [hd26, hd27, hd28, hd29, hd30, hd31, hd32, hd33, hd34, hd35]
noncomputable def hfn2_1 : List He.FnD := [hd36, hd37, hd38]
noncomputable def hp2 : HdE.Pt4 := ⟨hfa2_0 ++ (hfa2_1), hfn2_0 ++ (hfn2_1)⟩
def hfa3_0 : List He.Fa := [.keep "_law_next", .glo "_law_d", .keep "_law_d", .glo "_law_low", .keep "_law_low", .glo "_law_through", .keep "_law_through", .glo "_law_worth", .keep "_law_worth", .glo "_law_height", .keep "_law_height", .glo "law", .keep "law", .free "int", .free "isinstance", .free "bool", .free "abs", .free "tuple", .free "len", .free "all"]
def hfa3_1 : List He.Fa := [.free "range", .free "zip", .free "sorted", .free "max", .free "min", .free "repr", .int "FAR" (200), .int "SQUARES" (129859329600)]
noncomputable def hfn3_0 : List He.FnD := [hd39, hd40, hd41, hd42, hd43, hd44, hd45, hd46, hd47, hd48]
noncomputable def hfn3_1 : List He.FnD := [hd49, hd50, hd51]
noncomputable def hp3 : HdE.Pt4 := ⟨hfa3_0 ++ (hfa3_1), hfn3_0 ++ (hfn3_1)⟩
noncomputable def hexs (K : PySem.W.Frag) : List Bool := [HdE.dfB K ("fraction", none) "fraction" [1], He.eqO (PySem.W.nsIn K cStatics "sys.int_max_str_digits") (some none), decide ((htf.map fun p => (He.cT K p).2).Nodup)]
noncomputable def hex (K : PySem.W.Frag) : Bool := (hexs K).all id
noncomputable def hhs (K : PySem.W.Frag) : List Int := []
noncomputable def hhv (w : World) : List Int := []
theorem hex_at {K : PySem.W.Frag} (h : hex K = true) (i : Nat) {b : Bool} (e : (hexs K)[i]? = some b) : b = true := List.all_eq_true.mp h b (List.mem_of_getElem? e)
noncomputable abbrev hdd0 : He.FnD := ⟨("fraction", none), "fraction", "fraction", defArgs st_fraction, defBody st_fraction, defScope st_fraction⟩
noncomputable def hdf : List He.FnD := [hdd0]
section
variable {w : World} {K : PySem.W.Frag} (S : HdE.SaysK hp0 hp1 hp2 hp3 hex hhs hhv w K)
include S
theorem hgl0 (i : Nat) (x : Str) (h : hp0.fa[i]? = some (.glo x)) : PySem.W.nsIn K mainGlobals x = some (some (.ref (He.ga K x))) := He.eqO_ok (S.1.1.fact i h)
theorem hkp0 (i : Nat) (x : Str) (h : hp0.fa[i]? = some (.keep x)) : PySem.W.keepIn K (.ref (He.ga K x)) = true := He.keep_ok (S.1.1.fact i h)
theorem hgl1 (i : Nat) (x : Str) (h : hp1.fa[i]? = some (.glo x)) : PySem.W.nsIn K mainGlobals x = some (some (.ref (He.ga K x))) := He.eqO_ok (S.2.1.fact i h)
theorem hkp1 (i : Nat) (x : Str) (h : hp1.fa[i]? = some (.keep x)) : PySem.W.keepIn K (.ref (He.ga K x)) = true := He.keep_ok (S.2.1.fact i h)
theorem hgl2 (i : Nat) (x : Str) (h : hp2.fa[i]? = some (.glo x)) : PySem.W.nsIn K mainGlobals x = some (some (.ref (He.ga K x))) := He.eqO_ok (S.2.2.1.fact i h)
theorem hkp2 (i : Nat) (x : Str) (h : hp2.fa[i]? = some (.keep x)) : PySem.W.keepIn K (.ref (He.ga K x)) = true := He.keep_ok (S.2.2.1.fact i h)
theorem hgl3 (i : Nat) (x : Str) (h : hp3.fa[i]? = some (.glo x)) : PySem.W.nsIn K mainGlobals x = some (some (.ref (He.ga K x))) := He.eqO_ok (S.2.2.2.fact i h)
theorem hkp3 (i : Nat) (x : Str) (h : hp3.fa[i]? = some (.keep x)) : PySem.W.keepIn K (.ref (He.ga K x)) = true := He.keep_ok (S.2.2.2.fact i h)
theorem hy_n0 : PySem.W.nsIn K mainGlobals "int" = some none := He.eqO_ok (S.2.2.2.fact 13 (f := .free "int") rfl)
theorem hy_n1 : PySem.W.nsIn K mainGlobals "isinstance" = some none := He.eqO_ok (S.2.2.2.fact 14 (f := .free "isinstance") rfl)
theorem hy_n2 : PySem.W.nsIn K mainGlobals "bool" = some none := He.eqO_ok (S.2.2.2.fact 15 (f := .free "bool") rfl)
theorem hy_n3 : PySem.W.nsIn K mainGlobals "abs" = some none := He.eqO_ok (S.2.2.2.fact 16 (f := .free "abs") rfl)
theorem hy_n4 : PySem.W.nsIn K mainGlobals "tuple" = some none := He.eqO_ok (S.2.2.2.fact 17 (f := .free "tuple") rfl)
theorem hy_n5 : PySem.W.nsIn K mainGlobals "len" = some none := He.eqO_ok (S.2.2.2.fact 18 (f := .free "len") rfl)
theorem hy_n6 : PySem.W.nsIn K mainGlobals "all" = some none := He.eqO_ok (S.2.2.2.fact 19 (f := .free "all") rfl)
theorem hy_n7 : PySem.W.nsIn K mainGlobals "range" = some none := He.eqO_ok (S.2.2.2.fact 20 (f := .free "range") rfl)
theorem hy_n8 : PySem.W.nsIn K mainGlobals "zip" = some none := He.eqO_ok (S.2.2.2.fact 21 (f := .free "zip") rfl)
theorem hy_n9 : PySem.W.nsIn K mainGlobals "sorted" = some none := He.eqO_ok (S.2.2.2.fact 22 (f := .free "sorted") rfl)
theorem hy_n10 : PySem.W.nsIn K mainGlobals "max" = some none := He.eqO_ok (S.2.2.2.fact 23 (f := .free "max") rfl)
theorem hy_n11 : PySem.W.nsIn K mainGlobals "min" = some none := He.eqO_ok (S.2.2.2.fact 24 (f := .free "min") rfl)
theorem hy_n12 : PySem.W.nsIn K mainGlobals "repr" = some none := He.eqO_ok (S.2.2.2.fact 25 (f := .free "repr") rfl)
theorem hy_dig : PySem.W.nsIn K cStatics "sys.int_max_str_digits" = some none := He.eqO_ok (hex_at S.1.2.1 1 (by rfl))
end
theorem all_E {l : PySem.W.OpenLaw} {w : World} {K : PySem.W.Frag} {h : Heap} {mg : Str → Option Value} {fa : Addr} (X : K.In h) (U : HdE.SaysTD hp0 hp1 hp2 hp3 hex hhs hhv htf hdf w h K) (G : h.Ns mainGlobals mg) (hfa_ : mg "law" = some (.ref fa)) :
    ∃ (fd : FuncData) (ms : Mks), (∀ p ∈ ms, h.get? p.2.1 = some (PySem.W.tabObj #[])) ∧ MkK K ms ∧ (∀ (s : Shared) (u : Value), BindsTo s fd ⟨[u], []⟩ [("_law_script", u)]) ∧ ∀ base : Heap, TabF ms mg base → Fn (cfL l.prog w K mg base ms.tb) 12 fa fd ["_law_script"] (spM (cfL l.prog w K mg base ms.tb) 1 m_law) := by
  have T := U.1
  have S := T.1
  have E := fun (i : Nat) {b : Bool} (e : (hexs K)[i]? = some b) => hex_at S.1.2.1 i e
  have a0 := hgl0 S 0 "is_number" rfl
  obtain ⟨oc0, od0, sl0, kV0, dc0, pm0, an0, cd0, ct0, l0, c0⟩ := S.1.1.def_ 0 (d := hd0) rfl
  have k0 := hkp0 S 1 "is_number" rfl
  have a1 := hgl0 S 2 "common" rfl
  obtain ⟨oc1, od1, sl1, kV1, dc1, pm1, an1, cd1, ct1, l1, c1⟩ := S.1.1.def_ 1 (d := hd1) rfl
  have k1 := hkp0 S 3 "common" rfl
  have a2 := hgl0 S 4 "is_fraction" rfl
  obtain ⟨oc2, od2, sl2, kV2, dc2, pm2, an2, cd2, ct2, l2, c2⟩ := S.1.1.def_ 2 (d := hd2) rfl
  have k2 := hkp0 S 5 "is_fraction" rfl
  have a3 := hgl0 S 6 "pair_of" rfl
  obtain ⟨oc3, od3, sl3, kV3, dc3, pm3, an3, cd3, ct3, l3, c3⟩ := S.1.1.def_ 3 (d := hd3) rfl
  have k3 := hkp0 S 7 "pair_of" rfl
  have a4 := hgl0 S 8 "lowest" rfl
  obtain ⟨oc4, od4, sl4, kV4, dc4, pm4, an4, cd4, ct4, l4, c4⟩ := S.1.1.def_ 4 (d := hd4) rfl
  have k4 := hkp0 S 9 "lowest" rfl
  have a5 := hgl0 S 10 "fraction" rfl
  obtain ⟨oc5, od5, sl5, dT5, kV5, dc5, pm5, an5, cd5, ct5, dfc5, dd5, dv5, dn5, ds5, ts5, tl5, l5, c5, dl5, dq5⟩ := HdE.df_in (d := hdd0) (is := [1]) (U.at_ 0 rfl) (E 0 (by rfl))
  obtain _ | ⟨dt5, ts5⟩ := ts5
  · cases tl5
  obtain _ | ⟨zz, ts5⟩ := ts5
  rotate_left
  · simp at tl5
  have k5 := hkp0 S 11 "fraction" rfl
  have a6 := hgl0 S 12 "sum_of_two" rfl
  obtain ⟨oc6, od6, sl6, kV6, dc6, pm6, an6, cd6, ct6, l6, c6⟩ := S.1.1.def_ 5 (d := hd5) rfl
  have k6 := hkp0 S 13 "sum_of_two" rfl
  have a7 := hgl0 S 14 "product" rfl
  obtain ⟨oc7, od7, sl7, kV7, dc7, pm7, an7, cd7, ct7, l7, c7⟩ := S.1.1.def_ 6 (d := hd6) rfl
  have k7 := hkp0 S 15 "product" rfl
  have a8 := hgl0 S 16 "turned" rfl
  obtain ⟨oc8, od8, sl8, kV8, dc8, pm8, an8, cd8, ct8, l8, c8⟩ := S.1.1.def_ 7 (d := hd7) rfl
  have k8 := hkp0 S 17 "turned" rfl
  have a9 := hgl0 S 18 "quotient" rfl
  obtain ⟨oc9, od9, sl9, kV9, dc9, pm9, an9, cd9, ct9, l9, c9⟩ := S.1.1.def_ 8 (d := hd8) rfl
  have k9 := hkp0 S 19 "quotient" rfl
  have a10 := hgl0 S 20 "summed" rfl
  obtain ⟨oc10, od10, sl10, kV10, dc10, pm10, an10, cd10, ct10, l10, c10⟩ := S.1.1.def_ 9 (d := hd9) rfl
  have k10 := hkp0 S 21 "summed" rfl
  have a11 := hgl0 S 22 "halves_of" rfl
  obtain ⟨oc11, od11, sl11, kV11, dc11, pm11, an11, cd11, ct11, l11, c11⟩ := S.1.1.def_ 10 (d := hd10) rfl
  have k11 := hkp0 S 23 "halves_of" rfl
  have a12 := hgl0 S 24 "d_of" rfl
  obtain ⟨oc12, od12, sl12, kV12, dc12, pm12, an12, cd12, ct12, l12, c12⟩ := S.1.1.def_ 11 (d := hd11) rfl
  have k12 := hkp0 S 25 "d_of" rfl
  have a13 := hgl0 S 26 "is_curve" rfl
  obtain ⟨oc13, od13, sl13, kV13, dc13, pm13, an13, cd13, ct13, l13, c13⟩ := S.1.1.def_ 12 (d := hd12) rfl
  have k13 := hkp0 S 27 "is_curve" rfl
  have a14 := hgl0 S 28 "need_curve" rfl
  obtain ⟨oc14, od14, sl14, kV14, dc14, pm14, an14, cd14, ct14, l14, c14⟩ := S.2.1.def_ 0 (d := hd13) rfl
  have k14 := hkp0 S 29 "need_curve" rfl
  have a15 := hgl0 S 30 "own_invariants" rfl
  obtain ⟨oc15, od15, sl15, kV15, dc15, pm15, an15, cd15, ct15, l15, c15⟩ := S.2.1.def_ 1 (d := hd14) rfl
  have k15 := hkp1 S 0 "own_invariants" rfl
  have a16 := hgl1 S 1 "invariants" rfl
  obtain ⟨oc16, od16, sl16, kV16, dc16, pm16, an16, cd16, ct16, l16, c16⟩ := S.2.1.def_ 2 (d := hd15) rfl
  have k16 := hkp1 S 2 "invariants" rfl
  have a17 := hgl1 S 3 "off_by" rfl
  obtain ⟨oc17, od17, sl17, kV17, dc17, pm17, an17, cd17, ct17, l17, c17⟩ := S.2.1.def_ 3 (d := hd16) rfl
  have k17 := hkp1 S 4 "off_by" rfl
  have a18 := hgl1 S 5 "is_pair" rfl
  obtain ⟨oc18, od18, sl18, kV18, dc18, pm18, an18, cd18, ct18, l18, c18⟩ := S.2.1.def_ 4 (d := hd17) rfl
  have k18 := hkp1 S 6 "is_pair" rfl
  have a19 := hgl1 S 7 "lies_on" rfl
  obtain ⟨oc19, od19, sl19, kV19, dc19, pm19, an19, cd19, ct19, l19, c19⟩ := S.2.1.def_ 5 (d := hd18) rfl
  have k19 := hkp1 S 8 "lies_on" rfl
  have a20 := hgl1 S 9 "is_change" rfl
  obtain ⟨oc20, od20, sl20, kV20, dc20, pm20, an20, cd20, ct20, l20, c20⟩ := S.2.1.def_ 6 (d := hd19) rfl
  have k20 := hkp1 S 10 "is_change" rfl
  have a21 := hgl1 S 11 "need_change" rfl
  obtain ⟨oc21, od21, sl21, kV21, dc21, pm21, an21, cd21, ct21, l21, c21⟩ := S.2.1.def_ 7 (d := hd20) rfl
  have k21 := hkp1 S 12 "need_change" rfl
  have a22 := hgl1 S 13 "by_power" rfl
  obtain ⟨oc22, od22, sl22, kV22, dc22, pm22, an22, cd22, ct22, l22, c22⟩ := S.2.1.def_ 8 (d := hd21) rfl
  have k22 := hkp1 S 14 "by_power" rfl
  have a23 := hgl1 S 15 "own_led" rfl
  obtain ⟨oc23, od23, sl23, kV23, dc23, pm23, an23, cd23, ct23, l23, c23⟩ := S.2.1.def_ 9 (d := hd22) rfl
  have k23 := hkp1 S 16 "own_led" rfl
  have a24 := hgl1 S 17 "led" rfl
  obtain ⟨oc24, od24, sl24, kV24, dc24, pm24, an24, cd24, ct24, l24, c24⟩ := S.2.1.def_ 10 (d := hd23) rfl
  have k24 := hkp1 S 18 "led" rfl
  have a25 := hgl1 S 19 "own_led_point" rfl
  obtain ⟨oc25, od25, sl25, kV25, dc25, pm25, an25, cd25, ct25, l25, c25⟩ := S.2.1.def_ 11 (d := hd24) rfl
  have k25 := hkp1 S 20 "own_led_point" rfl
  have a26 := hgl1 S 21 "led_point" rfl
  obtain ⟨oc26, od26, sl26, kV26, dc26, pm26, an26, cd26, ct26, l26, c26⟩ := S.2.1.def_ 12 (d := hd25) rfl
  have k26 := hkp1 S 22 "led_point" rfl
  have a27 := hgl1 S 23 "root_below" rfl
  obtain ⟨oc27, od27, sl27, kV27, dc27, pm27, an27, cd27, ct27, l27, c27⟩ := S.2.2.1.def_ 0 (d := hd26) rfl
  have k27 := hkp1 S 24 "root_below" rfl
  have a28 := hgl1 S 25 "own_root" rfl
  obtain ⟨oc28, od28, sl28, kV28, dc28, pm28, an28, cd28, ct28, l28, c28⟩ := S.2.2.1.def_ 1 (d := hd27) rfl
  have k28 := hkp1 S 26 "own_root" rfl
  have a29 := hgl1 S 27 "together_of" rfl
  obtain ⟨oc29, od29, sl29, kV29, dc29, pm29, an29, cd29, ct29, l29, c29⟩ := S.2.2.1.def_ 2 (d := hd28) rfl
  have k29 := hkp1 S 28 "together_of" rfl
  have a30 := hgl1 S 29 "is_on" rfl
  obtain ⟨oc30, od30, sl30, kV30, dc30, pm30, an30, cd30, ct30, l30, c30⟩ := S.2.2.1.def_ 3 (d := hd29) rfl
  have k30 := hkp1 S 30 "is_on" rfl
  have a31 := hgl2 S 0 "need_point" rfl
  obtain ⟨oc31, od31, sl31, kV31, dc31, pm31, an31, cd31, ct31, l31, c31⟩ := S.2.2.1.def_ 4 (d := hd30) rfl
  have k31 := hkp2 S 1 "need_point" rfl
  have a32 := hgl2 S 2 "opposite_of" rfl
  obtain ⟨oc32, od32, sl32, kV32, dc32, pm32, an32, cd32, ct32, l32, c32⟩ := S.2.2.1.def_ 5 (d := hd31) rfl
  have k32 := hkp2 S 3 "opposite_of" rfl
  have a33 := hgl2 S 4 "slope_of" rfl
  obtain ⟨oc33, od33, sl33, kV33, dc33, pm33, an33, cd33, ct33, l33, c33⟩ := S.2.2.1.def_ 6 (d := hd32) rfl
  have k33 := hkp2 S 5 "slope_of" rfl
  have a34 := hgl2 S 6 "sum_on" rfl
  obtain ⟨oc34, od34, sl34, kV34, dc34, pm34, an34, cd34, ct34, l34, c34⟩ := S.2.2.1.def_ 7 (d := hd33) rfl
  have k34 := hkp2 S 7 "sum_on" rfl
  have a35 := hgl2 S 8 "opposite" rfl
  obtain ⟨oc35, od35, sl35, kV35, dc35, pm35, an35, cd35, ct35, l35, c35⟩ := S.2.2.1.def_ 8 (d := hd34) rfl
  have k35 := hkp2 S 9 "opposite" rfl
  have a36 := hgl2 S 10 "added" rfl
  obtain ⟨oc36, od36, sl36, kV36, dc36, pm36, an36, cd36, ct36, l36, c36⟩ := S.2.2.1.def_ 9 (d := hd35) rfl
  have k36 := hkp2 S 11 "added" rfl
  have a37 := hgl2 S 12 "need_whole" rfl
  obtain ⟨oc37, od37, sl37, kV37, dc37, pm37, an37, cd37, ct37, l37, c37⟩ := S.2.2.1.def_ 10 (d := hd36) rfl
  have k37 := hkp2 S 13 "need_whole" rfl
  have a38 := hgl2 S 14 "need_bound" rfl
  obtain ⟨oc38, od38, sl38, kV38, dc38, pm38, an38, cd38, ct38, l38, c38⟩ := S.2.2.1.def_ 11 (d := hd37) rfl
  have k38 := hkp2 S 15 "need_bound" rfl
  have a39 := hgl2 S 16 "divisor" rfl
  obtain ⟨oc39, od39, sl39, kV39, dc39, pm39, an39, cd39, ct39, l39, c39⟩ := S.2.2.1.def_ 12 (d := hd38) rfl
  have k39 := hkp2 S 17 "divisor" rfl
  have a40 := hgl2 S 18 "points_at" rfl
  obtain ⟨oc40, od40, sl40, kV40, dc40, pm40, an40, cd40, ct40, l40, c40⟩ := S.2.2.2.def_ 0 (d := hd39) rfl
  have k40 := hkp2 S 19 "points_at" rfl
  have a41 := hgl2 S 20 "sides" rfl
  obtain ⟨oc41, od41, sl41, kV41, dc41, pm41, an41, cd41, ct41, l41, c41⟩ := S.2.2.2.def_ 1 (d := hd40) rfl
  have k41 := hkp2 S 21 "sides" rfl
  have a42 := hgl2 S 22 "all_to" rfl
  obtain ⟨oc42, od42, sl42, kV42, dc42, pm42, an42, cd42, ct42, l42, c42⟩ := S.2.2.2.def_ 2 (d := hd41) rfl
  have k42 := hkp2 S 23 "all_to" rfl
  have a43 := hgl2 S 24 "search" rfl
  obtain ⟨oc43, od43, sl43, kV43, dc43, pm43, an43, cd43, ct43, l43, c43⟩ := S.2.2.2.def_ 3 (d := hd42) rfl
  have k43 := hkp2 S 25 "search" rfl
  have a44 := hgl2 S 26 "_law_mixed" rfl
  obtain ⟨oc44, od44, sl44, kV44, dc44, pm44, an44, cd44, ct44, l44, c44⟩ := S.2.2.2.def_ 4 (d := hd43) rfl
  have k44 := hkp2 S 27 "_law_mixed" rfl
  have a45 := hgl2 S 28 "_law_draw" rfl
  obtain ⟨oc45, od45, sl45, kV45, dc45, pm45, an45, cd45, ct45, l45, c45⟩ := S.2.2.2.def_ 5 (d := hd44) rfl
  have k45 := hkp2 S 29 "_law_draw" rfl
  have a46 := hgl2 S 30 "_law_next" rfl
  obtain ⟨oc46, od46, sl46, kV46, dc46, pm46, an46, cd46, ct46, l46, c46⟩ := S.2.2.2.def_ 6 (d := hd45) rfl
  have k46 := hkp3 S 0 "_law_next" rfl
  have a47 := hgl3 S 1 "_law_d" rfl
  obtain ⟨oc47, od47, sl47, kV47, dc47, pm47, an47, cd47, ct47, l47, c47⟩ := S.2.2.2.def_ 7 (d := hd46) rfl
  have k47 := hkp3 S 2 "_law_d" rfl
  have a48 := hgl3 S 3 "_law_low" rfl
  obtain ⟨oc48, od48, sl48, kV48, dc48, pm48, an48, cd48, ct48, l48, c48⟩ := S.2.2.2.def_ 8 (d := hd47) rfl
  have k48 := hkp3 S 4 "_law_low" rfl
  have a49 := hgl3 S 5 "_law_through" rfl
  obtain ⟨oc49, od49, sl49, kV49, dc49, pm49, an49, cd49, ct49, l49, c49⟩ := S.2.2.2.def_ 9 (d := hd48) rfl
  have k49 := hkp3 S 6 "_law_through" rfl
  have a50 := hgl3 S 7 "_law_worth" rfl
  obtain ⟨oc50, od50, sl50, kV50, dc50, pm50, an50, cd50, ct50, l50, c50⟩ := S.2.2.2.def_ 10 (d := hd49) rfl
  have k50 := hkp3 S 8 "_law_worth" rfl
  have a51 := hgl3 S 9 "_law_height" rfl
  obtain ⟨oc51, od51, sl51, kV51, dc51, pm51, an51, cd51, ct51, l51, c51⟩ := S.2.2.2.def_ 11 (d := hd50) rfl
  have k51 := hkp3 S 10 "_law_height" rfl
  have a52 := hgl3 S 11 "law" rfl
  obtain ⟨oc52, od52, sl52, kV52, dc52, pm52, an52, cd52, ct52, l52, c52⟩ := S.2.2.2.def_ 12 (d := hd51) rfl
  have k52 := hkp3 S 12 "law" rfl
  obtain ⟨cc52, uc52, ud52, us52, uv52, ma52, mb52, md52, me52⟩ := HdE.mk_in (p := ("law", none)) l52 c52 (T.2.1 ("law", none) (by decide +kernel))
  have mf52 := T.2.2.1 ("law", none) (by decide +kernel)
  have mh52 := HdE.mem_tf (K := K) (show (("law", none) : He.Defn) ∈ htf by decide +kernel)
  have n0 := hy_n0 S
  have n1 := hy_n1 S
  have n2 := hy_n2 S
  have n3 := hy_n3 S
  have n4 := hy_n4 S
  have n5 := hy_n5 S
  have n6 := hy_n6 S
  have n7 := hy_n7 S
  have n8 := hy_n8 S
  have n9 := hy_n9 S
  have n10 := hy_n10 S
  have n11 := hy_n11 S
  have n12 := hy_n12 S
  obtain ⟨t0, e0⟩ := HdE.int_in (S.2.2.2.fact 26 (f := .int "FAR" (200)) rfl)
  obtain ⟨t1, e1⟩ := HdE.int_in (S.2.2.2.fact 27 (f := .int "SQUARES" (129859329600)) rfl)
  have dig := hy_dig S
  have tu := fun p hp r hr e => HdE.nodup_tb (L := Mks.tb [(cc52, (He.cT K ("law", none)).2, ((("law" : Str) ++ ".<locals>.") ++ "<lambda>"))]) (of_decide_eq_true (E 2 (by rfl))) p hp r hr e
  obtain ⟨fd, ms, hts, rest⟩ := all_mk (l := l) (w := w) (ts := htf.map fun p => (He.cT K p).2) X G hfa_ a0 l0 c0 k0 a1 l1 c1 k1 a2 l2 c2 k2 a3 l3 c3 k3 a4 l4 c4 k4 a5 l5 c5 k5 dl5 dq5 a6 l6 c6 k6 a7 l7 c7 k7 a8 l8 c8 k8 a9 l9 c9 k9 a10 l10 c10 k10 a11 l11 c11 k11 a12 l12 c12 k12 a13 l13 c13 k13 a14 l14 c14 k14 a15 l15 c15 k15 a16 l16 c16 k16 a17 l17 c17 k17 a18 l18 c18 k18 a19 l19 c19 k19 a20 l20 c20 k20 a21 l21 c21 k21 a22 l22 c22 k22 a23 l23 c23 k23 a24 l24 c24 k24 a25 l25 c25 k25 a26 l26 c26 k26 a27 l27 c27 k27 a28 l28 c28 k28 a29 l29 c29 k29 a30 l30 c30 k30 a31 l31 c31 k31 a32 l32 c32 k32 a33 l33 c33 k33 a34 l34 c34 k34 a35 l35 c35 k35 a36 l36 c36 k36 a37 l37 c37 k37 a38 l38 c38 k38 a39 l39 c39 k39 a40 l40 c40 k40 a41 l41 c41 k41 a42 l42 c42 k42 a43 l43 c43 k43 a44 l44 c44 k44 a45 l45 c45 k45 a46 l46 c46 k46 a47 l47 c47 k47 a48 l48 c48 k48 a49 l49 c49 k49 a50 l50 c50 k50 a51 l51 c51 k51 a52 l52 c52 k52 ma52 mb52 md52 me52 mf52 mh52 n0 n1 n2 n3 n4 n5 n6 n7 n8 n9 n10 n11 n12 e0 e1 dig tu
  exact ⟨fd, ms, fun p hp => by
    obtain ⟨z, hz, e⟩ := List.mem_map.mp (hts p hp)
    rw [← e]
    exact T.2.2.2 z hz, rest⟩
end CWL
end
namespace CWL.Hd
open PySem PySem.W PySem.Calls PyProof.Rows
abbrev R : OpenRow := OpenLaw.row PySem.Challenge.rw_cubicway_k65_whole_searches_told_otherwi
abbrev qv : Program := view R.prog [70]
def names0 : List PySem.Str := [PySem.Str.ofString "Refused", PySem.Str.ofString "Barred", PySem.Str.ofString "BadNumber", PySem.Str.ofString "BadCurve", PySem.Str.ofString "BadChange", PySem.Str.ofString "BadPoint", PySem.Str.ofString "NoParts", PySem.Str.ofString "NotWhole", PySem.Str.ofString "is_number", PySem.Str.ofString "common", PySem.Str.ofString "is_fraction", PySem.Str.ofString "pair_of", PySem.Str.ofString "lowest", PySem.Str.ofString "fraction", PySem.Str.ofString "sum_of_two", PySem.Str.ofString "product", PySem.Str.ofString "turned", PySem.Str.ofString "quotient", PySem.Str.ofString "summed", PySem.Str.ofString "halves_of", PySem.Str.ofString "d_of", PySem.Str.ofString "is_curve", PySem.Str.ofString "need_curve", PySem.Str.ofString "own_invariants", PySem.Str.ofString "invariants", PySem.Str.ofString "off_by", PySem.Str.ofString "is_pair", PySem.Str.ofString "lies_on", PySem.Str.ofString "is_change", PySem.Str.ofString "need_change"]
def names1 : List PySem.Str := [PySem.Str.ofString "by_power", PySem.Str.ofString "own_led", PySem.Str.ofString "led", PySem.Str.ofString "own_led_point", PySem.Str.ofString "led_point", PySem.Str.ofString "FAR", PySem.Str.ofString "root_below", PySem.Str.ofString "own_root", PySem.Str.ofString "together_of", PySem.Str.ofString "is_on", PySem.Str.ofString "need_point", PySem.Str.ofString "opposite_of", PySem.Str.ofString "slope_of", PySem.Str.ofString "sum_on", PySem.Str.ofString "opposite", PySem.Str.ofString "added", PySem.Str.ofString "SQUARES", PySem.Str.ofString "need_whole", PySem.Str.ofString "need_bound", PySem.Str.ofString "divisor", PySem.Str.ofString "points_at", PySem.Str.ofString "sides", PySem.Str.ofString "all_to", PySem.Str.ofString "search", PySem.Str.ofString "_law_mixed", PySem.Str.ofString "_law_draw", PySem.Str.ofString "_law_next", PySem.Str.ofString "_law_d", PySem.Str.ofString "_law_low", PySem.Str.ofString "_law_through"]
def names2 : List PySem.Str := [PySem.Str.ofString "_law_worth", PySem.Str.ofString "_law_height"]
def names : List PySem.Str := names0 ++ names1 ++ names2
noncomputable abbrev hk : Hook := CW.HdE.hookTD 900 hp0 hp1 hp2 hp3 hex hhs hhv htf hdf
noncomputable def fr (s : SharedT) : Frag := He.frT (HandSHeadRun.getT s) (List.range 900)
noncomputable def ob (s : SharedT) : CW.HdE.AlTD := (((CW.HdE.ob0 hp0 hex hhs (fr s), He.tabsB (HandSHeadRun.getT s) htf (fr s)), He.obsE hp1.fa hp1.fn (fr s), He.obsE hp2.fa hp2.fn (fr s), He.obsE hp3.fa hp3.fn (fr s)), CW.HdE.obsD hdf (fr s))
theorem ob_eq (s : SharedT) : ob s = hk.obs s.abs := by
  have e : HandSHeadRun.getT s = s.abs.heap.get? := funext fun a => HandSHeadRun.getT_eq s a
  unfold ob fr
  rw [e]
  rfl
set_option maxRecDepth 100000 in
set_option maxHeartbeats 0 in
theorem runL_0 (w : World) : HandSHeadRun.RunEq R qv Hook.none (fun _ => ()) 6000 names (w.withFollow "special-get-raises" false) := by
  intro os
  kernel_rfl
set_option maxRecDepth 100000 in
set_option maxHeartbeats 0 in
theorem runL_1 (w : World) : HandSHeadRun.RunEq R qv Hook.none (fun _ => ()) 6000 names (w.withFollow "special-get-raises" true) := by
  intro os
  kernel_rfl
theorem runL (w : World) : HandSHeadRun.RunEq R qv Hook.none (fun _ => ()) 6000 names w := byRow2 "special-get-raises" (P := fun w => HandSHeadRun.RunEq R qv Hook.none (fun _ => ()) 6000 names w) runL_0 runL_1 w
set_option maxRecDepth 100000 in
set_option maxHeartbeats 0 in
theorem run0_0 (w : World) : CW.HdE.RunO R (fun s => (CW.HdE.ob0 hp0 hex hhs (fr s), He.tabsB (HandSHeadRun.getT s) htf (fr s))) (fun w => ((He.valE hp0.fn, true, hhv w), true)) 6000 (w.withFollow "special-get-raises" false) := by
  intro os
  kernel_rfl
set_option maxRecDepth 100000 in
set_option maxHeartbeats 0 in
theorem run0_1 (w : World) : CW.HdE.RunO R (fun s => (CW.HdE.ob0 hp0 hex hhs (fr s), He.tabsB (HandSHeadRun.getT s) htf (fr s))) (fun w => ((He.valE hp0.fn, true, hhv w), true)) 6000 (w.withFollow "special-get-raises" true) := by
  intro os
  kernel_rfl
theorem run0 (w : World) : CW.HdE.RunO R (fun s => (CW.HdE.ob0 hp0 hex hhs (fr s), He.tabsB (HandSHeadRun.getT s) htf (fr s))) (fun w => ((He.valE hp0.fn, true, hhv w), true)) 6000 w := byRow2 "special-get-raises" (P := fun w => CW.HdE.RunO R (fun s => (CW.HdE.ob0 hp0 hex hhs (fr s), He.tabsB (HandSHeadRun.getT s) htf (fr s))) (fun w => ((He.valE hp0.fn, true, hhv w), true)) 6000 w) run0_0 run0_1 w
set_option maxRecDepth 100000 in
set_option maxHeartbeats 0 in
theorem run1_0 (w : World) : CW.HdE.RunO R (fun s => He.obsE hp1.fa hp1.fn (fr s)) (fun _ => He.valE hp1.fn) 6000 (w.withFollow "special-get-raises" false) := by
  intro os
  kernel_rfl
set_option maxRecDepth 100000 in
set_option maxHeartbeats 0 in
theorem run1_1 (w : World) : CW.HdE.RunO R (fun s => He.obsE hp1.fa hp1.fn (fr s)) (fun _ => He.valE hp1.fn) 6000 (w.withFollow "special-get-raises" true) := by
  intro os
  kernel_rfl
theorem run1 (w : World) : CW.HdE.RunO R (fun s => He.obsE hp1.fa hp1.fn (fr s)) (fun _ => He.valE hp1.fn) 6000 w := byRow2 "special-get-raises" (P := fun w => CW.HdE.RunO R (fun s => He.obsE hp1.fa hp1.fn (fr s)) (fun _ => He.valE hp1.fn) 6000 w) run1_0 run1_1 w
set_option maxRecDepth 100000 in
set_option maxHeartbeats 0 in
theorem run2_0 (w : World) : CW.HdE.RunO R (fun s => He.obsE hp2.fa hp2.fn (fr s)) (fun _ => He.valE hp2.fn) 6000 (w.withFollow "special-get-raises" false) := by
  intro os
  kernel_rfl
set_option maxRecDepth 100000 in
set_option maxHeartbeats 0 in
theorem run2_1 (w : World) : CW.HdE.RunO R (fun s => He.obsE hp2.fa hp2.fn (fr s)) (fun _ => He.valE hp2.fn) 6000 (w.withFollow "special-get-raises" true) := by
  intro os
  kernel_rfl
theorem run2 (w : World) : CW.HdE.RunO R (fun s => He.obsE hp2.fa hp2.fn (fr s)) (fun _ => He.valE hp2.fn) 6000 w := byRow2 "special-get-raises" (P := fun w => CW.HdE.RunO R (fun s => He.obsE hp2.fa hp2.fn (fr s)) (fun _ => He.valE hp2.fn) 6000 w) run2_0 run2_1 w
set_option maxRecDepth 100000 in
set_option maxHeartbeats 0 in
theorem run3_0 (w : World) : CW.HdE.RunO R (fun s => He.obsE hp3.fa hp3.fn (fr s)) (fun _ => He.valE hp3.fn) 6000 (w.withFollow "special-get-raises" false) := by
  intro os
  kernel_rfl
set_option maxRecDepth 100000 in
set_option maxHeartbeats 0 in
theorem run3_1 (w : World) : CW.HdE.RunO R (fun s => He.obsE hp3.fa hp3.fn (fr s)) (fun _ => He.valE hp3.fn) 6000 (w.withFollow "special-get-raises" true) := by
  intro os
  kernel_rfl
theorem run3 (w : World) : CW.HdE.RunO R (fun s => He.obsE hp3.fa hp3.fn (fr s)) (fun _ => He.valE hp3.fn) 6000 w := byRow2 "special-get-raises" (P := fun w => CW.HdE.RunO R (fun s => He.obsE hp3.fa hp3.fn (fr s)) (fun _ => He.valE hp3.fn) 6000 w) run3_0 run3_1 w
set_option maxRecDepth 100000 in
set_option maxHeartbeats 0 in
theorem runD_0 (w : World) : CW.HdE.RunO R (fun s => CW.HdE.obsD hdf (fr s)) (fun _ => CW.HdE.valD hdf) 6000 (w.withFollow "special-get-raises" false) := by
  intro os
  kernel_rfl
set_option maxRecDepth 100000 in
set_option maxHeartbeats 0 in
theorem runD_1 (w : World) : CW.HdE.RunO R (fun s => CW.HdE.obsD hdf (fr s)) (fun _ => CW.HdE.valD hdf) 6000 (w.withFollow "special-get-raises" true) := by
  intro os
  kernel_rfl
theorem runD (w : World) : CW.HdE.RunO R (fun s => CW.HdE.obsD hdf (fr s)) (fun _ => CW.HdE.valD hdf) 6000 w := byRow2 "special-get-raises" (P := fun w => CW.HdE.RunO R (fun s => CW.HdE.obsD hdf (fr s)) (fun _ => CW.HdE.valD hdf) 6000 w) runD_0 runD_1 w
theorem run (w : World) : HandSHeadRun.RunEq R qv hk ob 6000 names w := CW.HdE.run_eq (runL w) (((run0 w).pair ((run1 w).pair ((run2 w).pair (run3 w)))).pair (runD w))
end CWL.Hd
section
set_option maxRecDepth 100000
set_option maxHeartbeats 2000000
open PySem PySem.Spec PyProof.Rows L2 CW
namespace CWL
theorem is_number_int (i : Int) (s : S) : m_is_number [.p (.int i)] s = .ok (.p (.bl true)) s := by
  simp [m_is_number, defM_if, B_is_number]
theorem common_wh (s : S) : ∀ (n : Nat) (a b : Int), b.natAbs < n →
   ∃ c, whF (tB (op2 (eqD true) (vE 1) (cE (.int 0)))) (parF 0 1 [vE 1, (op2 (modD) (vE 0) (vE 1))]) [some (.p (.int a)), some (.p (.int b))] s = .ok (.nx [some (.p (.int c)), some (.p (.int 0))]) s ∧ c.natAbs = Int.gcd a b := by
  intro n
  induction n with
  | zero => intro a b h; omega
  | succ n ih =>
    intro a b h
    rw [whF_eq]
    by_cases hb : b = 0
    · subst hb
      exact ⟨a, by simp [bnd_ev], by simp⟩
    · obtain ⟨c, h1, h2⟩ := ih b (a.fmod b) (Nat.lt_of_lt_of_le (fmod_less a hb) (Nat.le_of_lt_succ h))
      refine ⟨c, ?_, by rw [h2, gcd_mod a b hb]⟩
      simp [bnd_ev, hb]
      exact h1
theorem common_ok (a b : Int) (s : S) : m_common [.p (.int a), .p (.int b)] s = .ok (.p (.int (Int.gcd a b))) s := by
  obtain ⟨c, h1, h2⟩ := common_wh s _ a b (Nat.lt_succ_self _)
  simp [m_common, defM_if, B_common, h1, h2]
theorem is_fraction_ok (q : Rat) (s : S) : m_is_fraction [.p (fq q)] s = .ok (.p (.bl true)) s := by
  unfold fq
  split
  · simp [m_is_fraction, defM_if, B_is_fraction, is_number_int]
  · rename_i h
    have h1 : (1 : Int) < q.den := by have := q.den_nz; omega
    have h2 : Int.gcd q.num q.den = 1 := q.reduced
    simp [m_is_fraction, defM_if, B_is_fraction, is_number_int, common_ok, h1, h2]
theorem pair_of_ok (q : Rat) (s : S) : m_pair_of [.p (fq q)] s = .ok (.p (.tup [.int q.num, .int q.den])) s := by
  unfold fq
  split
  · rename_i h
    simp [m_pair_of, defM_if, B_pair_of, h]
  · simp [m_pair_of, defM_if, B_pair_of]
theorem lowest_ok (t b : Int) (s : S) (h0 : b ≠ 0) (hb : szi b 8900) : m_lowest [.p (.int t), .p (.int b)] s = .ok (.p (fq (Rat.divInt t b))) s := by
  obtain ⟨hg, e1, e2⟩ := low_eq (t := t) (b := b) h0 rfl
  have hgb : szi (b.sign * (Int.gcd t b : Nat)) 8900 := by
    refine Nat.lt_of_le_of_lt ?_ hb
    conv => rhs; rw [e2, Int.natAbs_mul]
    exact Nat.le_mul_of_pos_left _ (by have := (Rat.divInt t b).den_nz; omega)
  generalize hq : Rat.divInt t b = q at *
  generalize hgg : b.sign * (Int.gcd t b : Nat) = g at *
  have hgs : (if 0 < b then ((Int.gcd t b : Nat) : Int) else -((Int.gcd t b : Nat) : Int)) = g := by
    rw [← hgg]
    split
    · rename_i h; rw [Int.sign_eq_one_of_pos h, Int.one_mul]
    · rename_i h; rw [Int.sign_eq_neg_one_of_neg (by omega), Int.neg_one_mul]
  have d1 : divOk t g := hgb.divOk (by decide) (by decide) hg
  have d2 : divOk b g := hgb.divOk (by decide) (by decide) hg
  have q1 : t.fdiv g = q.num := by rw [e1]; exact fdiv_exact hg
  have q2 : b.fdiv g = q.den := by rw [e2]; exact fdiv_exact hg
  have hd : ((q.den : Int) = 1) = (q.den = 1) := propext (by omega)
  unfold fq
  by_cases hp : 0 < b
  · rw [if_pos hp] at hgs
    by_cases h1 : q.den = 1
    · simp [m_lowest, defM_if, B_lowest, common_ok, hp, hgs, d1, d2, q1, q2, h1]
    · simp [m_lowest, defM_if, B_lowest, common_ok, hp, hgs, d1, d2, q1, q2, h1, hd]
  · rw [if_neg hp] at hgs
    by_cases h1 : q.den = 1
    · simp [m_lowest, defM_if, B_lowest, common_ok, hp, hgs, d1, d2, q1, q2, h1]
    · simp [m_lowest, defM_if, B_lowest, common_ok, hp, hgs, d1, d2, q1, q2, h1, hd]
theorem sum_of_two_ok (a b : Rat) (s : S) (h : hz a + hz b ≤ 8800) : m_sum_of_two [.p (fq a), .p (fq b)] s = .ok (.p (fq (a + b))) s := by
  have o1 : mulOk a.num b.den := mulOk_szi (hz_num a) (hz_den b) (by omega) (hz_pos a) (hz_pos b)
  have o2 : mulOk b.num a.den := mulOk_szi (hz_num b) (hz_den a) (by omega) (hz_pos b) (hz_pos a)
  have o3 : mulOk a.den b.den := mulOk_szi (hz_den a) (hz_den b) (by omega) (hz_pos a) (hz_pos b)
  have hd : (a.den : Int) * b.den ≠ 0 := Int.mul_ne_zero (by have := a.den_nz; omega) (by have := b.den_nz; omega)
  have e : a + b = Rat.divInt (a.num * b.den + b.num * a.den) ((a.den : Int) * b.den) := by
    rw [Rat.add_def', ← Rat.divInt_ofNat, Int.natCast_mul]
  rw [e]
  have hl := lowest_ok (a.num * b.den + b.num * a.den) ((a.den : Int) * b.den) s hd (((hz_den a).mul (hz_den b)).mono (by omega))
  simp [m_sum_of_two, defM_if, B_sum_of_two, pair_of_ok, o1, o2, o3, hl]
theorem product_ok (a b : Rat) (s : S) (h : hz a + hz b ≤ 8800) : m_product [.p (fq a), .p (fq b)] s = .ok (.p (fq (a * b))) s := by
  have o1 : mulOk a.num b.num := mulOk_szi (hz_num a) (hz_num b) (by omega) (hz_pos a) (hz_pos b)
  have o3 : mulOk a.den b.den := mulOk_szi (hz_den a) (hz_den b) (by omega) (hz_pos a) (hz_pos b)
  have hd : (a.den : Int) * b.den ≠ 0 := Int.mul_ne_zero (by have := a.den_nz; omega) (by have := b.den_nz; omega)
  have e : a * b = Rat.divInt (a.num * b.num) ((a.den : Int) * b.den) := by
    rw [Rat.mul_def', ← Rat.divInt_ofNat, Int.natCast_mul]
  rw [e]
  have hl := lowest_ok (a.num * b.num) ((a.den : Int) * b.den) s hd (((hz_den a).mul (hz_den b)).mono (by omega))
  simp [m_product, defM_if, B_product, pair_of_ok, o1, o3, hl]
theorem turned_ok (a : Rat) (s : S) (h : hz a ≤ 8000) : m_turned [.p (fq a)] s = .ok (.p (fq (-a))) s := by
  have hl := product_ok (-1) a s (by
    have : hz (-1) = 1 := by decide
    omega)
  have e : (fq (-1)) = .int (-1) := rfl
  rw [e, Rat.neg_mul, Rat.one_mul] at hl
  simp [m_turned, defM_if, B_turned, hl]
theorem quotient_ok (a b : Rat) (s : S) (hb : b ≠ 0) (h : hz a + hz b ≤ 8800) : m_quotient [.p (fq a), .p (fq b)] s = .ok (.p (fq (a / b))) s := by
  have h0 : b.num ≠ 0 := fun h => hb (Rat.num_eq_zero.mp h)
  have h1 := lowest_ok b.den b.num s h0 ((hz_num b).mono (by omega))
  rw [← Rat.inv_def] at h1
  have h2 := product_ok a b⁻¹ s (by have := hz_inv b; omega)
  rw [← Rat.div_def] at h2
  simp [m_quotient, defM_if, B_quotient, pair_of_ok, h1, h2]
theorem summed_ok (rows : List (List Rat)) (v : Rat) (s : S) (hv : sumR 0 rows = v) (h : totZ rows ≤ 8700) : m_summed [.p (.lst (rows.map fun r => .tup (r.map fq)))] s = .ok (.p (fq v)) s :=
  sumB_ok (pr := m_product) (su := m_sum_of_two) product_ok sum_of_two_ok s .tup (hm_tup s) rows v hv h
theorem z1 : hz 1 = 1 := by decide
theorem zm1 : hz (-1) = 1 := by decide
theorem z2 : hz 2 = 2 := by decide
theorem z4 : hz 4 = 3 := by decide
theorem z9 : hz 9 = 4 := by decide
theorem z8 : hz (-8) = 4 := by decide
theorem z27 : hz (-27) = 5 := by decide
theorem z24 : hz (-24) = 5 := by decide
theorem z36 : hz 36 = 6 := by decide
theorem z216 : hz (-216) = 8 := by decide
section
variable {W : Int} {n : Nat} {a1 a2 a3 a4 a6 : Rat}
theorem halves_of_ok (c : Cv W n a1 a2 a3 a4 a6) (hn : n ≤ 370) (s : S) : m_halves_of [.p (.tup [fq a1, fq a2, fq a3, fq a4, fq a6])] s =
    .ok (.p (.tup [fq (b2 a1 a2 a3 a4 a6), fq (b4 a1 a2 a3 a4 a6), fq (b6 a1 a2 a3 a4 a6), fq (b8 a1 a2 a3 a4 a6)])) s := by
  have e1 := c.h1.hz c.W0 c.hw
  have e2 := c.h2.hz c.W0 c.hw
  have e3 := c.h3.hz c.W0 c.hw
  have e4 := c.h4.hz c.W0 c.hw
  have e6 := c.h6.hz c.W0 c.hw
  have s1 : m_summed [.p (.lst [.tup [fq a1, fq a1], .tup [.int 4, fq a2]])] s = .ok (.p (fq (b2 a1 a2 a3 a4 a6))) s :=
    summed_ok [[a1, a1], [4, a2]] _ s (by simp [sumR, prodR, b2]; try grind) (by simp [totZ, totR, z4]; omega)
  have s2 : m_summed [.p (.lst [.tup [.int 2, fq a4], .tup [fq a1, fq a3]])] s = .ok (.p (fq (b4 a1 a2 a3 a4 a6))) s :=
    summed_ok [[2, a4], [a1, a3]] _ s (by simp [sumR, prodR, b4]; try grind) (by simp [totZ, totR, z2]; omega)
  have s3 : m_summed [.p (.lst [.tup [fq a3, fq a3], .tup [.int 4, fq a6]])] s = .ok (.p (fq (b6 a1 a2 a3 a4 a6))) s :=
    summed_ok [[a3, a3], [4, a6]] _ s (by simp [sumR, prodR, b6]; try grind) (by simp [totZ, totR, z4]; omega)
  have s4 : m_summed [.p (.lst [.tup [fq a1, fq a1, fq a6], .tup [.int 4, fq a2, fq a6], .tup [.int (-1), fq a1, fq a3, fq a4], .tup [fq a2, fq a3, fq a3], .tup [.int (-1), fq a4, fq a4]])] s = .ok (.p (fq (b8 a1 a2 a3 a4 a6))) s :=
    summed_ok [[a1, a1, a6], [4, a2, a6], [-1, a1, a3, a4], [a2, a3, a3], [-1, a4, a4]] _ s (by simp [sumR, prodR, b8]; try grind) (by simp [totZ, totR, z4, zm1]; omega)
  simp [m_halves_of, defM_if, B_halves_of, s1, s2, s3, s4]
theorem d_of_ok (c : Cv W n a1 a2 a3 a4 a6) (hn : n ≤ 370) (s : S) : m_d_of [.p (.tup [fq a1, fq a2, fq a3, fq a4, fq a6])] s = .ok (.p (fq (dd a1 a2 a3 a4 a6))) s := by
  have e2 := c.b2.hz c.W0 c.hw
  have e4 := c.b4.hz c.W0 c.hw
  have e6 := c.b6.hz c.W0 c.hw
  have e8 := c.b8.hz c.W0 c.hw
  have h := halves_of_ok c hn s
  have s1 : m_summed [.p (.lst [.tup [.int 9, fq (b2 a1 a2 a3 a4 a6), fq (b4 a1 a2 a3 a4 a6), fq (b6 a1 a2 a3 a4 a6)], .tup [.int (-1), fq (b2 a1 a2 a3 a4 a6), fq (b2 a1 a2 a3 a4 a6), fq (b8 a1 a2 a3 a4 a6)],
      .tup [.int (-8), fq (b4 a1 a2 a3 a4 a6), fq (b4 a1 a2 a3 a4 a6), fq (b4 a1 a2 a3 a4 a6)], .tup [.int (-27), fq (b6 a1 a2 a3 a4 a6), fq (b6 a1 a2 a3 a4 a6)]])] s = .ok (.p (fq (dd a1 a2 a3 a4 a6))) s :=
    summed_ok [[9, b2 a1 a2 a3 a4 a6, b4 a1 a2 a3 a4 a6, b6 a1 a2 a3 a4 a6], [-1, b2 a1 a2 a3 a4 a6, b2 a1 a2 a3 a4 a6, b8 a1 a2 a3 a4 a6], [-8, b4 a1 a2 a3 a4 a6, b4 a1 a2 a3 a4 a6, b4 a1 a2 a3 a4 a6], [-27, b6 a1 a2 a3 a4 a6, b6 a1 a2 a3 a4 a6]] _ s
      (by simp [sumR, prodR, dd, dD]; try grind) (by simp [totZ, totR, z9, z8, z27, zm1]; omega)
  simp [m_d_of, defM_if, B_d_of, h, s1]
theorem all_fr (qs : List Rat) (hl : qs.length ≤ 100) (s : S) : lcE true (rowI (vE 0)) [1] (setG 1) yesT (calE m_is_fraction [vE 1]) [some (.p (.tup (qs.map fq))), none] s = .ok (.p (.lst (qs.map fun _ => .bl true))) s := by
  rw [lcE_all (F := fun x => [some (.p (.tup (qs.map fq))), some (.p x)]) (f := fun _ => .bl true) (xs := qs.map fq) (s1 := s) (rowI_ev (by simp)) (by rw [List.length_map, sizeLine_eq]; omega)
    (fun x hx => by
      obtain ⟨q, _, rfl⟩ := List.mem_map.mp hx
      simp [is_fraction_ok])]
  simp [Function.comp_def]
theorem is_curve_ok (c : Cv W n a1 a2 a3 a4 a6) (hn : n ≤ 370) (s : S) : m_is_curve [.p (.tup [fq a1, fq a2, fq a3, fq a4, fq a6])] s = .ok (.p (.bl (!decide (dd a1 a2 a3 a4 a6 = 0)))) s := by
  have h1 := all_fr [a1, a2, a3, a4, a6] (by simp) s
  have h2 := all_trues (s := s) [a1, a2, a3, a4, a6]
  simp only [List.map_cons, List.map_nil] at h1 h2
  simp [m_is_curve, defM_if, B_is_curve, h1, h2, d_of_ok c hn s, ne_fq0]
theorem need_curve_ok (c : Cv W n a1 a2 a3 a4 a6) (hn : n ≤ 370) (hd : dd a1 a2 a3 a4 a6 ≠ 0) (s : S) : m_need_curve [.p (.tup [fq a1, fq a2, fq a3, fq a4, fq a6])] s = .ok (.p .non) s := by
  simp [m_need_curve, defM_if, B_need_curve, is_curve_ok c hn s, hd]
end
section
variable {W : Int} {n : Nat} {a1 a2 a3 a4 a6 : Rat}
def invP (a1 a2 a3 a4 a6 : Rat) : List Rat := [b2 a1 a2 a3 a4 a6, b4 a1 a2 a3 a4 a6, b6 a1 a2 a3 a4 a6, b8 a1 a2 a3 a4 a6, c4 a1 a2 a3 a4 a6, c6 a1 a2 a3 a4 a6, dd a1 a2 a3 a4 a6,
  c4 a1 a2 a3 a4 a6 * c4 a1 a2 a3 a4 a6 * c4 a1 a2 a3 a4 a6 / dd a1 a2 a3 a4 a6]
theorem own_invariants_ok (c : Cv W n a1 a2 a3 a4 a6) (hn : n ≤ 370) (hd : dd a1 a2 a3 a4 a6 ≠ 0) (s : S) : m_own_invariants [.p (.tup [fq a1, fq a2, fq a3, fq a4, fq a6])] s = .ok (.p (.tup ((invP a1 a2 a3 a4 a6).map fq))) s := by
  have e2 := c.b2.hz c.W0 c.hw
  have e4 := c.b4.hz c.W0 c.hw
  have e6 := c.b6.hz c.W0 c.hw
  have ed := c.dd.hz c.W0 c.hw
  have ec := c.c4.hz c.W0 c.hw
  have h := halves_of_ok c hn s
  have s1 : m_summed [.p (.lst [.tup [fq (b2 a1 a2 a3 a4 a6), fq (b2 a1 a2 a3 a4 a6)], .tup [.int (-24), fq (b4 a1 a2 a3 a4 a6)]])] s = .ok (.p (fq (c4 a1 a2 a3 a4 a6))) s :=
    summed_ok [[b2 a1 a2 a3 a4 a6, b2 a1 a2 a3 a4 a6], [-24, b4 a1 a2 a3 a4 a6]] _ s (by simp [sumR, prodR, c4]; try grind) (by simp [totZ, totR, z24]; omega)
  have s2 : m_summed [.p (.lst [.tup [.int 36, fq (b2 a1 a2 a3 a4 a6), fq (b4 a1 a2 a3 a4 a6)], .tup [.int (-1), fq (b2 a1 a2 a3 a4 a6), fq (b2 a1 a2 a3 a4 a6), fq (b2 a1 a2 a3 a4 a6)], .tup [.int (-216), fq (b6 a1 a2 a3 a4 a6)]])] s = .ok (.p (fq (c6 a1 a2 a3 a4 a6))) s :=
    summed_ok [[36, b2 a1 a2 a3 a4 a6, b4 a1 a2 a3 a4 a6], [-1, b2 a1 a2 a3 a4 a6, b2 a1 a2 a3 a4 a6, b2 a1 a2 a3 a4 a6], [-216, b6 a1 a2 a3 a4 a6]] _ s (by simp [sumR, prodR, c6]; try grind) (by simp [totZ, totR, z36, zm1, z216]; omega)
  have s3 : m_summed [.p (.lst [.tup [fq (c4 a1 a2 a3 a4 a6), fq (c4 a1 a2 a3 a4 a6), fq (c4 a1 a2 a3 a4 a6)]])] s = .ok (.p (fq (c4 a1 a2 a3 a4 a6 * c4 a1 a2 a3 a4 a6 * c4 a1 a2 a3 a4 a6))) s :=
    summed_ok [[c4 a1 a2 a3 a4 a6, c4 a1 a2 a3 a4 a6, c4 a1 a2 a3 a4 a6]] _ s (by simp [sumR, prodR]; try grind) (by simp [totZ, totR]; omega)
  have m1 := hz_mul (c4 a1 a2 a3 a4 a6) (c4 a1 a2 a3 a4 a6)
  have m2 := hz_mul (c4 a1 a2 a3 a4 a6 * c4 a1 a2 a3 a4 a6) (c4 a1 a2 a3 a4 a6)
  have q1 := quotient_ok (c4 a1 a2 a3 a4 a6 * c4 a1 a2 a3 a4 a6 * c4 a1 a2 a3 a4 a6) (dd a1 a2 a3 a4 a6) s hd (by omega)
  simp [m_own_invariants, defM_if, B_own_invariants, h, s1, s2, s3, d_of_ok c hn s, q1, invP]
theorem invariants_ok (c : Cv W n a1 a2 a3 a4 a6) (hn : n ≤ 370) (hd : dd a1 a2 a3 a4 a6 ≠ 0) (s : S) : m_invariants [.p (.tup [fq a1, fq a2, fq a3, fq a4, fq a6])] s = .ok (.p (.tup ((invP a1 a2 a3 a4 a6).map fq))) s := by
  simp [m_invariants, defM_if, B_invariants, need_curve_ok c hn hd, own_invariants_ok c hn hd]
end
theorem seqF_ok {f g : SF} {ρ ρ' : En} {s s' : S} (h : f ρ s = .ok (.nx ρ') s') : seqF f g ρ s = g ρ' s' := by
  rw [seqF_ev, h]
  rfl
theorem forL_consg {tg : GF} {f : SF} {g : Gd} {ρ ρ1 ρ2 : En} {s s2 : S} {x : P} {xs : List P} (hg : gok g s) (h1 : tg (.p x) ρ s = .ok ρ1 s) (h2 : f ρ1 s = .ok (.nx ρ2) s2) : forL g tg f (x :: xs) ρ s = forL g tg f xs ρ2 s2 := by
  conv => lhs; unfold forL
  rw [if_pos hg, bnd_ev, h1, R.bind_ok, bnd_ev, h2, R.bind_ok]
abbrev rS (pre : S) (cells : List P) (t d : Int) (dg : List P) (post : S) : S := pre ++ some (O.lst dg) :: some (O.row [.p (.lst cells), .p (.int t), .p (.int d), .obj pre.length]) :: post
section
variable (pre post : S) (a b : Option O)
theorem r5_0 : (pre ++ a :: b :: post)[pre.length]? = some a := by
  rw [List.getElem?_append_right (Nat.le_refl _), Nat.sub_self]
  rfl
theorem r5_1 : (pre ++ a :: b :: post)[pre.length + 1]? = some b := by
  rw [List.getElem?_append_right (by omega), show pre.length + 1 - pre.length = 1 by omega]
  rfl
theorem r5_s0 (x : Option O) : (pre ++ a :: b :: post).set pre.length x = pre ++ x :: b :: post := by
  rw [List.set_append_right _ _ (Nat.le_refl _), Nat.sub_self]
  rfl
theorem r5_s1 (x : Option O) : (pre ++ a :: b :: post).set (pre.length + 1) x = pre ++ a :: x :: post := by
  rw [List.set_append_right _ _ (by omega), show pre.length + 1 - pre.length = 1 by omega]
  rfl
end
theorem fin5 (pre post r : S) (cells : List P) (t d t' d' : Int) (dg dg' : List P) (x : P) : fin (rS pre cells t d dg post) (.p x) (rS pre cells t' d' dg' post ++ r) = .ok (.p x) (rS pre cells t' d' dg' post) := by
  have hl : (rS pre cells t d dg post).length = (rS pre cells t' d' dg' post).length := by simp
  have at_ : ∀ (i : Nat) (o : Option O), i < pre.length + (post.length + 2) → (rS pre cells t' d' dg' post ++ r)[i]? = some o → (rS pre cells t d dg post)[i]? = (rS pre cells t' d' dg' post ++ r)[i]? ∨ o = some (O.lst dg') ∨ o = some (O.row [.p (.lst cells), .p (.int t'), .p (.int d'), .obj pre.length]) := fun i o hi h => by
    have ap : (rS pre cells t' d' dg' post ++ r)[i]? = (rS pre cells t' d' dg' post)[i]? := List.getElem?_append_left (by
      show i < (pre ++ some (O.lst dg') :: some (O.row [.p (.lst cells), .p (.int t'), .p (.int d'), .obj pre.length]) :: post).length
      rw [List.length_append, List.length_cons, List.length_cons]
      omega)
    rw [ap] at h ⊢
    by_cases e : i < pre.length
    · left
      rw [List.getElem?_append_left e, List.getElem?_append_left e]
    · by_cases e1 : i = pre.length
      · subst e1
        rw [r5_0] at h
        right; left
        exact (Option.some.inj h).symm
      · by_cases e2 : i = pre.length + 1
        · subst e2
          rw [r5_1] at h
          right; right
          exact (Option.some.inj h).symm
        · left
          obtain ⟨j, rfl⟩ : ∃ j, i = pre.length + (j + 2) := ⟨i - pre.length - 2, by omega⟩
          rw [List.getElem?_append_right (by omega), List.getElem?_append_right (by omega), show pre.length + (j + 2) - pre.length = j + 2 by omega]
          rfl
  unfold fin
  dsimp only
  rw [if_pos]
  · rw [hl, List.take_left]
  · refine ⟨by simp, fun i kvs hi hd => ?_, fun i ds hi hd => ?_, fun i ds hi hd => ?_⟩
    · rcases at_ i _ (by simpa using hi) hd with z | z | z
      · exact .inl z
      · cases z
      · cases z
    · rcases at_ i _ (by simpa using hi) hd with z | z | z
      · exact .inl z
      · cases z
      · right
        have z := Option.some.inj z
        injection z with z
        subst z
        intro d hd m hm
        subst hm
        simp at hd
        simp
        omega
    · rcases at_ i _ (by simpa using hi) hd with z | z | z
      · exact .inl z
      · cases z
      · cases z
theorem fin50 (pre post : S) (cells : List P) (t d t' d' : Int) (dg dg' : List P) (x : P) : fin (rS pre cells t d dg post) (.p x) (rS pre cells t' d' dg' post) = .ok (.p x) (rS pre cells t' d' dg' post) := by
  have h := fin5 pre post [] cells t d t' d' dg dg' x
  rw [List.append_nil] at h
  exact h
theorem draw5_prime (k : Int) : ∃ p : Int, L2.atI [P.int 2147483629, .int 2147483587, .int 2147483579, .int 2147483563, .int 2147483549] (k.fmod 5) = some (.int p) ∧ 0 < p ∧ p < 2147483648 := by
  have h0 := Int.fmod_nonneg_of_pos k (b := 5) (by decide)
  have h1 := Int.fmod_lt_of_pos k (b := 5) (by decide)
  generalize k.fmod 5 = j at *
  have : j = 0 ∨ j = 1 ∨ j = 2 ∨ j = 3 ∨ j = 4 := by omega
  rcases this with rfl | rfl | rfl | rfl | rfl <;> exact ⟨_, rfl, by decide, by decide⟩
theorem pow5 {x : Int} (h0 : 0 ≤ x) (h : x < 4294967296) : powOk x 5 := ⟨by decide, by decide, by omega⟩
theorem Lmixed_all (c k : Int) : ∃ r : Int, ∀ s, m_Lmixed [.p (.int c), .p (.int k)] s = .ok (.p (.int r)) s := by
  obtain ⟨p, hp, hp0, hp1⟩ := draw5_prime k
  have hp' : p ≠ 0 := by omega
  have q0 := Int.fmod_nonneg_of_pos (c + 7919 * k + 104729) hp0
  have q1 := Int.fmod_lt_of_pos (c + 7919 * k + 104729) hp0
  have k1 : ∀ z, mulOk 7919 z := fun z => Or.inr (Or.inl (by decide))
  have k2 : ∀ z, mulOk 2 z := fun z => Or.inr (Or.inl (by decide))
  have p5 : powOk ((c + 7919 * k + 104729).fmod p) 5 := pow5 q0 (by omega)
  have w0 := Int.fmod_nonneg_of_pos ((c + 7919 * k + 104729).fmod p ^ 5) hp0
  have w1 := Int.fmod_lt_of_pos ((c + 7919 * k + 104729).fmod p ^ 5) hp0
  have k3 : mulOk (((c + 7919 * k + 104729).fmod p ^ 5).fmod p) (48271 + 2 * k) := Or.inr (Or.inl (by omega))
  refine ⟨(((c + 7919 * k + 104729).fmod p ^ 5).fmod p * (48271 + 2 * k)).fmod p, fun s => ?_⟩
  have e5 : Int.toNat 5 = 5 := rfl
  simp [m_Lmixed, defM_if, B_Lmixed, hp, hp', k1, k2, p5, k3, e5]
def rputk (ρ : En) (v d : D) : D → M Fl := fun i s => match d, rowAt d s, i with
  | .obj n, some ds, .p (.int z) => match ixN ds.length z with
    | some j => .ok (.nx ρ) (s.set n (some (.row (ds.set j v))))
    | none => .bad
  | _, _, _ => .bad
theorem rputF_bnd {ma mb mc : EF} {ρ : En} {s : S} : rputF ma mb mc ρ s = R.bind (mc ρ s) fun v s1 => R.bind (ma ρ s1) fun d s2 => R.bind (mb ρ s2) (rputk ρ v d) := by
  unfold rputF
  rw [bnd_ev]
  congr 1
section
variable (pre post : S) (cells : List P) (t d : Int) (dg : List P)
theorem rk0 : rixD (.obj (pre.length + 1)) (.p (.int 0)) (rS pre cells t d dg post) = .ok (.p (.lst cells)) (rS pre cells t d dg post) := rixD_ev (r5_1 pre post _ _) rfl
theorem rk1 : rixD (.obj (pre.length + 1)) (.p (.int 1)) (rS pre cells t d dg post) = .ok (.p (.int t)) (rS pre cells t d dg post) := rixD_ev (r5_1 pre post _ _) rfl
theorem rk2 : rixD (.obj (pre.length + 1)) (.p (.int 2)) (rS pre cells t d dg post) = .ok (.p (.int d)) (rS pre cells t d dg post) := rixD_ev (r5_1 pre post _ _) rfl
theorem rk3 : rixD (.obj (pre.length + 1)) (.p (.int 3)) (rS pre cells t d dg post) = .ok (.obj pre.length) (rS pre cells t d dg post) := rixD_ev (r5_1 pre post _ _) rfl
theorem rp1 (ρ : En) (v : Int) : rputk ρ (.p (.int v)) (.obj (pre.length + 1)) (.p (.int 1)) (rS pre cells t d dg post) = .ok (.nx ρ) (rS pre cells v d dg post) := by
  have hr : rowAt (.obj (pre.length + 1)) (rS pre cells t d dg post) = some [.p (.lst cells), .p (.int t), .p (.int d), .obj pre.length] := by
    unfold rowAt
    dsimp only
    rw [r5_1]
  unfold rputk
  rw [hr]
  show R.ok _ ((rS pre cells t d dg post).set (pre.length + 1) _) = _
  rw [r5_s1]
  rfl
theorem rp2 (ρ : En) (v : Int) : rputk ρ (.p (.int v)) (.obj (pre.length + 1)) (.p (.int 2)) (rS pre cells t d dg post) = .ok (.nx ρ) (rS pre cells t v dg post) := by
  have hr : rowAt (.obj (pre.length + 1)) (rS pre cells t d dg post) = some [.p (.lst cells), .p (.int t), .p (.int d), .obj pre.length] := by
    unfold rowAt
    dsimp only
    rw [r5_1]
  unfold rputk
  rw [hr]
  show R.ok _ ((rS pre cells t d dg post).set (pre.length + 1) _) = _
  rw [r5_s1]
  rfl
theorem its5 : its (.obj pre.length) (rS pre cells t d dg post) = some dg := by
  show (match (rS pre cells t d dg post)[pre.length]? with
    | some (some (O.lst xs)) => some xs
    | _ => none) = _
  rw [r5_0]
theorem pop5 (x : P) : popD0 (.obj pre.length) [.p (.int 0)] (rS pre cells t d (x :: dg) post) = .ok (.p x) (rS pre cells t d dg post) := by
  rw [popD0_ev (r5_0 pre post _ _), r5_s0]
theorem nil5 (gs : List Int) : eqD true (.obj pre.length) (.p (.lst [])) (rS pre cells t d (gs.map P.int) post) = .ok (.p (.bl (!gs.isEmpty))) (rS pre cells t d (gs.map P.int) post) := by
  have h : ∀ gs : List Int, toPys (gs.map P.int) = some (gs.map PyData.int) := fun gs => by
    induction gs with
    | nil => rfl
    | cons b gs ih => exact toPys_cons (d := .int b) rfl ih
  have c : Cp (.list (gs.map PyData.int)) 1 := Cp.lst fun d hd => by
    obtain ⟨b, hb, rfl⟩ := List.mem_map.mp hd
    exact ⟨rfl, rfl, Nat.le_refl _⟩
  have c0 : Cp (.list []) 1 := Cp.lst fun d hd => absurd hd List.not_mem_nil
  have t1 : toPyD (.obj pre.length) (rS pre cells t d (gs.map P.int) post) = some (.list (gs.map PyData.int)) := by
    show (match (rS pre cells t d (gs.map P.int) post)[pre.length]? with
      | some (some (O.lst xs)) => (toPys xs).map PyData.list
      | _ => none) = _
    rw [r5_0]
    show (toPys (gs.map P.int)).map PyData.list = _
    rw [h]
    rfl
  rw [eq_dat true t1 (d := .list (gs.map PyData.int)) (e := .list []) rfl ⟨c.shaped (by decide), c0.shaped (by decide)⟩]
  cases gs with
  | nil => rfl
  | cons g gs => simp [PyData.eqv, PyData.eqvAll]
end
theorem Lnext_ok (pre post : S) (cs : List Int) (hc : cs ≠ []) (t d many : Int) (gs : List Int) (hm : 0 < many) (hs : szi many 8000) :
    ∃ (v t' d' : Int) (gs' : List Int), 0 ≤ v ∧ v < many ∧ m_Lnext [.obj (pre.length + 1), .p (.int many)] (rS pre (cs.map .int) t d (gs.map .int) post) = .ok (.p (.int v)) (rS pre (cs.map .int) t' d' (gs'.map .int) post) := by
  have hm' : many ≠ 0 := by omega
  have km : ∀ z, divOk z many := fun z => hs.divOk (by decide) (by decide) hm'
  have tail : ∀ z : Int, 0 ≤ z.fmod many ∧ z.fmod many < many := fun z => ⟨Int.fmod_nonneg_of_pos z hm, Int.fmod_lt_of_pos z hm⟩
  obtain ⟨d1, g1, A1⟩ : ∃ (d1 : Int) (g1 : List Int), (iffF (andT (tB (op2 (eqD false) (op2 rixD (vE 0) (cE (.int 2))) (cE (.int 0)))) (tB (op2 (eqD true) (op2 rixD (vE 0) (cE (.int 3))) (lstE [])))) (rputF (vE 0) (cE (.int 2)) (metE popD0 (op2 rixD (vE 0) (cE (.int 3))) [cE (.int 0)])) nopF) [some (.obj (pre.length + 1)), some (.p (.int many)), none, none] (rS pre (cs.map .int) t d (gs.map .int) post) =
      .ok (.nx [some (.obj (pre.length + 1)), some (.p (.int many)), none, none]) (rS pre (cs.map .int) t d1 (g1.map .int) post) := by
    have k2 := rk2 pre post (cs.map P.int) t d (gs.map P.int)
    have k3 := rk3 pre post (cs.map P.int) t d (gs.map P.int)
    have n5 := nil5 pre post (cs.map P.int) t d gs
    by_cases h0 : d = 0
    · match gs with
      | [] =>
        refine ⟨d, [], ?_⟩
        simp only [List.map_nil] at k2 k3 n5 ⊢
        generalize rS pre (cs.map P.int) t d [] post = Q at *
        simp [k2, k3, n5, h0]
      | g :: gs =>
        refine ⟨g, gs, ?_⟩
        have i5 := its5 pre post (cs.map P.int) t d ((g :: gs).map P.int)
        have p5 := pop5 pre post (cs.map P.int) t d (gs.map P.int) (.int g)
        have u2 := rp2 pre post (cs.map P.int) t d (gs.map P.int) [some (.obj (pre.length + 1)), some (.p (.int many)), none, none] g
        simp only [List.map_cons] at k2 k3 n5 i5 ⊢
        generalize rS pre (cs.map P.int) t g (gs.map P.int) post = Q3 at *
        generalize rS pre (cs.map P.int) t d (gs.map P.int) post = Q2 at *
        generalize rS pre (cs.map P.int) t d (P.int g :: gs.map P.int) post = Q at *
        simp [k2, k3, n5, h0, i5, p5, u2, rputF_bnd]
    · refine ⟨d, gs, ?_⟩
      generalize rS pre (cs.map P.int) t d (gs.map P.int) post = Q at *
      simp [k2, h0]
  by_cases h0 : 0 < d1
  · refine ⟨d1.fmod many, t, d1.fdiv many, g1, (tail _).1, (tail _).2, ?_⟩
    have k2 := rk2 pre post (cs.map P.int) t d1 (g1.map P.int)
    have u2 := fun ρ => rp2 pre post (cs.map P.int) t d1 (g1.map P.int) ρ (d1.fdiv many)
    have f5 := fin50 pre post (cs.map P.int) t d t (d1.fdiv many) (gs.map P.int) (g1.map P.int) (.int (d1.fmod many))
    generalize rS pre (cs.map P.int) t (d1.fdiv many) (g1.map P.int) post = Q3 at *
    generalize rS pre (cs.map P.int) t d1 (g1.map P.int) post = Q2 at *
    generalize rS pre (cs.map P.int) t d (gs.map P.int) post = Q at *
    have B : B_Lnext [some (.obj (pre.length + 1)), some (.p (.int many)), none, none] Q = .ok (.rt (.p (.int (d1.fmod many)))) Q3 := by
      unfold B_Lnext
      rw [seqF_ok A1]
      simp [k2, h0, km, hm', u2, rputF_bnd]
    show defM 2 4 B_Lnext _ Q = _
    rw [defM_if, if_pos (show [D.obj (pre.length + 1), D.p (P.int many)].length = 2 from rfl)]
    show R.bind (B_Lnext [some (.obj (pre.length + 1)), some (.p (.int many)), none, none] Q) _ = _
    rw [B, R.bind_ok]
    exact f5
  · have hl : 0 < cs.length := List.length_pos_iff.mpr hc
    have j0 := Int.fmod_nonneg_of_pos (t + 1) (b := (cs.length : Int)) (by omega)
    have j1 := Int.fmod_lt_of_pos (t + 1) (b := (cs.length : Int)) (by omega)
    have hl' : (cs.length : Int) ≠ 0 := by omega
    obtain ⟨c, hcell⟩ : ∃ c : Int, L2.atI (cs.map P.int) ((t + 1).fmod cs.length) = some (.int c) := by
      refine ⟨cs[((t + 1).fmod cs.length).toNat]'(by omega), ?_⟩
      unfold L2.atI
      rw [ixN_ok j0 (by rw [List.length_map]; exact j1), Option.bind_some, List.getElem?_map, List.getElem?_eq_getElem (by omega)]
      rfl
    obtain ⟨r1, e1⟩ := Lmixed_all c (t + 1)
    obtain ⟨r2, e2⟩ := Lmixed_all c (t + 1 + 9001)
    have hln : ∀ s, lenD [.p (.lst (cs.map P.int))] s = .ok (.p (.int cs.length)) s := fun s => by
      show R.ok (D.p (.int ((cs.map P.int).length : Nat))) s = _
      rw [List.length_map]
    have k23 : ∀ z, divOk z 23 := fun z => ⟨by decide, PyProof.noPylong_of_log2 (by decide)⟩
    have kq : ∀ z, mulOk z 2147483647 := fun z => Or.inr (Or.inr (by decide))
    obtain ⟨z, hz⟩ : ∃ z : Int, z = (r1 * 2147483647 + r2).fdiv 23 := ⟨_, rfl⟩
    refine ⟨z.fmod many, t + 1, d1, g1, (tail _).1, (tail _).2, ?_⟩
    have k2 := rk2 pre post (cs.map P.int) t d1 (g1.map P.int)
    have k1 := rk1 pre post (cs.map P.int) t d1 (g1.map P.int)
    have l1 := rk1 pre post (cs.map P.int) (t + 1) d1 (g1.map P.int)
    have l0 := rk0 pre post (cs.map P.int) (t + 1) d1 (g1.map P.int)
    have u1 := fun ρ => rp1 pre post (cs.map P.int) t d1 (g1.map P.int) ρ (t + 1)
    have f5 := fin50 pre post (cs.map P.int) t d (t + 1) d1 (gs.map P.int) (g1.map P.int) (.int (z.fmod many))
    generalize rS pre (cs.map P.int) (t + 1) d1 (g1.map P.int) post = Q3 at *
    generalize rS pre (cs.map P.int) t d1 (g1.map P.int) post = Q2 at *
    generalize rS pre (cs.map P.int) t d (gs.map P.int) post = Q at *
    have B : B_Lnext [some (.obj (pre.length + 1)), some (.p (.int many)), none, none] Q = .ok (.rt (.p (.int (z.fmod many)))) Q3 := by
      unfold B_Lnext
      rw [seqF_ok A1, hz]
      simp [k2, k1, l1, l0, h0, hm', hc, u1, rputF_bnd, hln, hl', hcell, e1, e2, k23, kq]
    show defM 2 4 B_Lnext _ Q = _
    rw [defM_if, if_pos (show [D.obj (pre.length + 1), D.p (P.int many)].length = 2 from rfl)]
    show R.bind (B_Lnext [some (.obj (pre.length + 1)), some (.p (.int many)), none, none] Q) _ = _
    rw [B, R.bind_ok]
    exact f5
theorem toPys_int : ∀ gs : List Int, toPys (gs.map P.int) = some (gs.map PyData.int)
  | [] => rfl
  | b :: gs => toPys_cons (d := .int b) rfl (toPys_int gs)
theorem cp_ints (gs : List Int) : Cp (.list (gs.map PyData.int)) 1 := Cp.lst fun d hd => by
  obtain ⟨b, hb, rfl⟩ := List.mem_map.mp hd
  exact ⟨rfl, rfl, Nat.le_refl _⟩
theorem con_nil (ns : List Int) (s : S) : eqD true (.p (.con (ns.map P.int))) (.p (.lst [])) s = .ok (.p (.bl (!ns.isEmpty))) s := by
  have t1 : toPyD (.p (.con (ns.map P.int))) s = some (.list (ns.map PyData.int)) := by
    show (toPys (ns.map P.int)).map PyData.list = _
    rw [toPys_int]
    rfl
  rw [eq_dat true t1 (d := .list (ns.map PyData.int)) (e := .list []) rfl ⟨(cp_ints ns).shaped (by decide), (cp_ints []).shaped (by decide)⟩]
  cases ns with
  | nil => rfl
  | cons g gs => simp [PyData.eqv, PyData.eqvAll]
theorem cut_ne (ns : List Int) (k : Int) (k0 : 0 ≤ k) (k1 : k < ns.length) : ∃ cs : List Int, cs ≠ [] ∧ cs.length ≤ ns.length ∧ cutP (ns.map P.int) (some k) (some (k + 9)) = cs.map P.int := by
  obtain ⟨j, rfl⟩ : ∃ j : Nat, k = j := ⟨k.toNat, by omega⟩
  refine ⟨(ns.drop (min j ns.length)).take (min (j + 9) ns.length - min j ns.length), fun z => ?_, ?_, ?_⟩
  · have h := congrArg List.length z
    rw [List.length_take, List.length_drop, List.length_nil] at h
    omega
  · rw [List.length_take, List.length_drop]
    omega
  · unfold cutP
    rw [List.length_map, HT.sIx_nat, show (j : Int) + 9 = ((j + 9 : Nat) : Int) by omega, HT.sIx_nat, List.map_take, List.map_drop]
theorem Ldraw_ok (ns : List Int) (hl : ns.length ≤ 63) (k : Int) (k0 : 0 ≤ k) (hk : k = 0 ∨ k < ns.length) (s : S) : ∃ (cs : List Int) (gs : List Int), cs ≠ [] ∧ m_Ldraw [.p (.con (ns.map P.int)), .p (.int k)] s = .ok (.obj (s.length + 1)) (rS s (cs.map P.int) (64 * k) 0 (gs.map P.int) []) := by
  obtain ⟨cs, hc, hl2, A1⟩ : ∃ cs : List Int, cs ≠ [] ∧ cs.length ≤ 63 ∧ asgF (ifE (tB (op2 (eqD true) (vE 0) (lstE []))) (slcE true (vE 0) (some (vE 1)) (some (op2 (addD true) (vE 1) (cE (.int 9))))) (lstE [cE (.int 0)])) (setG 2) [some (.p (.con (ns.map P.int))), some (.p (.int k)), none, none] s =
      .ok (.nx [some (.p (.con (ns.map P.int))), some (.p (.int k)), some (.p (.lst (cs.map P.int))), none]) s := by
    have e := con_nil ns s
    by_cases hn : ns = []
    · refine ⟨[0], by simp, by simp, ?_⟩
      subst hn
      simp only [List.map_nil] at e ⊢
      simp [e, sizeLine_eq]
    · have hlen : 0 < ns.length := List.length_pos_iff.mpr hn
      obtain ⟨cs, h1, h2, h3⟩ := cut_ne ns k k0 (by omega)
      refine ⟨cs, h1, by omega, ?_⟩
      have sl : slcD true (.p (.con (ns.map P.int))) (some k) (some (k + 9)) s = .ok (.p (.lst (cs.map P.int))) s := by
        show mkL true (cutP (ns.map P.int) (some k) (some (k + 9))) s = _
        rw [h3, mkL_true]
      generalize ns.map P.int = L at *
      simp [e, hn, slcE_ev, optE_s, partE_i, sl]
  have p18 : powOk 10 18 := by decide
  have A2 : lcE false (rowI (vE 2)) [3] (setG 3) (tB (op2 geD (vE 3) (op2 powD (cE (.int 10)) (cE (.int 18))))) (vE 3) [some (.p (.con (ns.map P.int))), some (.p (.int k)), some (.p (.lst (cs.map P.int))), none] s =
      .ok (.obj s.length) (s ++ [some (O.lst ((cs.filter fun c => decide (1000000000000000000 ≤ c)).map P.int))]) := by
    rw [lcE_pure (F := fun x => [some (.p (.con (ns.map P.int))), some (.p (.int k)), some (.p (.lst (cs.map P.int))), some (.p x)]) (keep := fun x => match x with
      | .int c => decide (1000000000000000000 ≤ c)
      | _ => false) (f := fun x => x) (xs := cs.map P.int) (s1 := s) (rowI_lst rfl) (by rw [List.length_map, sizeLine_eq]; omega) (fun x hx => by
      obtain ⟨c, _, rfl⟩ := List.mem_map.mp hx
      refine ⟨rfl, ?_, fun _ => rfl⟩
      generalize cs.map P.int = L at *
      generalize ns.map P.int = L' at *
      simp [p18])]
    rw [mkL_false, List.map_id', List.filter_map]
    rfl
  have k64 : mulOk 64 k := Or.inr (Or.inl (by decide))
  refine ⟨cs, cs.filter fun c => decide (1000000000000000000 ≤ c), hc, ?_⟩
  generalize (cs.filter fun c => decide (1000000000000000000 ≤ c)) = gs at *
  have A3 : B_Ldraw [some (.p (.con (ns.map P.int))), some (.p (.int k)), none, none] s = .ok (.rt (.obj (s.length + 1))) (rS s (cs.map P.int) (64 * k) 0 (gs.map P.int) []) := by
    unfold B_Ldraw
    rw [seqF_ok A1]
    generalize cs.map P.int = L at *
    generalize ns.map P.int = L' at *
    simp [lsrE_ev, A2, k64, newR]
  show defM 2 4 B_Ldraw _ s = _
  rw [defM_if, if_pos (show [D.p (.con (ns.map P.int)), D.p (.int k)].length = 2 from rfl)]
  show R.bind (B_Ldraw [some (.p (.con (ns.map P.int))), some (.p (.int k)), none, none] s) _ = _
  rw [A3, R.bind_ok]
  show fin s (.obj (s.length + 1)) _ = _
  unfold fin
  dsimp only
  rw [if_neg (by omega)]
def IsR (n r : Int) : Prop := 0 ≤ r ∧ r * r ≤ n ∧ n < (r + 1) * (r + 1)
theorem IsR.le {n r t : Int} (h : IsR n r) (k : IsR n t) : r ≤ t := by
  rcases (show r ≤ t ∨ t + 1 ≤ r by omega) with z | z
  · exact z
  · have h1 : (t + 1) * (t + 1) ≤ (t + 1) * r := Int.mul_le_mul_of_nonneg_left z (by have := k.1; omega)
    have h2 : (t + 1) * r ≤ r * r := Int.mul_le_mul_of_nonneg_right z h.1
    have := h.2.1
    have := k.2.2
    omega
theorem IsR.uniq {n r t : Int} (h : IsR n r) (k : IsR n t) : r = t := Int.le_antisymm (h.le k) (k.le h)
theorem fdiv_b {n x : Int} (hx : 0 < x) : x * n.fdiv x ≤ n ∧ n < x * n.fdiv x + x := by
  have h1 := Int.fmod_add_mul_fdiv n x
  have h2 := Int.fmod_nonneg_of_pos n hx
  have h3 := Int.fmod_lt_of_pos n hx
  omega
theorem half_b (x : Int) : 2 * x.fdiv 2 ≤ x ∧ x < 2 * x.fdiv 2 + 2 := fdiv_b (by decide)
def nxR (n x : Int) : Int := (x + n.fdiv x).fdiv 2
theorem nxR_b {n x : Int} (h0 : 0 ≤ n) (hx : 0 < x) : 0 ≤ nxR n x ∧ n < (nxR n x + 1) * (nxR n x + 1) ∧ (x ≤ nxR n x → x * x ≤ n) := by
  obtain ⟨a1, a2⟩ := fdiv_b (n := n) hx
  obtain ⟨b1, b2⟩ := half_b (x + n.fdiv x)
  have q0 : 0 ≤ n.fdiv x := Int.fdiv_nonneg h0 (Int.le_of_lt hx)
  unfold nxR
  generalize n.fdiv x = q at *
  generalize (x + q).fdiv 2 = y at *
  have y0 : 0 ≤ y := by omega
  refine ⟨y0, ?_, fun h => ?_⟩
  · have c1 : (x + q + 1) * (x + q + 1) ≤ (2 * (y + 1)) * (x + q + 1) := Int.mul_le_mul_of_nonneg_right (by omega) (by omega)
    have c2 : (2 * (y + 1)) * (x + q + 1) ≤ (2 * (y + 1)) * (2 * (y + 1)) := Int.mul_le_mul_of_nonneg_left (by omega) (by omega)
    have c3 : 0 ≤ (x - (q + 1)) * (x - (q + 1)) := by
      rcases (show 0 ≤ x - (q + 1) ∨ 0 ≤ -(x - (q + 1)) by omega) with z | z
      · exact Int.mul_nonneg z z
      · have := Int.mul_nonneg z z
        rwa [Int.neg_mul_neg] at this
    have c4 : (x - (q + 1)) * (x - (q + 1)) = (x + q + 1) * (x + q + 1) - 4 * (x * q + x) := by grind
    have c5 : (2 * (y + 1)) * (2 * (y + 1)) = 4 * ((y + 1) * (y + 1)) := by grind
    omega
  · have : x * x ≤ x * q := Int.mul_le_mul_of_nonneg_left (by omega) (by omega)
    omega
theorem root_loop {n : Int} (h0 : 0 ≤ n) (s : S) : ∀ (f : Nat) (x : Int), 0 < x → szi x 400 → n < (x + 1) * (x + 1) → x.toNat < f →
    ∃ (r : Int) (y : D), IsR n r ∧ whF (tB (op2 (ltD) (vE 2) (vE 1))) (parF 1 2 [vE 2, (ifE ((tB (op2 (gtD) (vE 2) (cE (.int 0))))) ((op2 (divD) ((op2 (addD true) (vE 2) ((op2 (divD) (vE 0) (vE 2))))) (cE (.int 2)))) (cE (.int 0)))]) [some (.p (.int n)), some (.p (.int x)), some (.p (.int (nxR n x)))] s = .ok (.nx [some (.p (.int n)), some (.p (.int r)), some y]) s
  | 0, x, _, _, _, h => absurd h (Nat.not_lt_zero _)
  | f + 1, x, hx, hs, hn, h => by
    rw [whF_ev]
    obtain ⟨y0, y1, y2⟩ := nxR_b h0 hx
    by_cases hy : nxR n x < x
    · have d2 : ∀ z, divOk z 2 := fun z => ⟨by decide, PyProof.noPylong_of_log2 (by decide)⟩
      by_cases hp : 0 < nxR n x
      · have sy : szi (nxR n x) 400 := by unfold szi at *; omega
        have dy : divOk n (nxR n x) := sy.divOk (by decide) (by decide) (by omega)
        obtain ⟨r, y, hr, e⟩ := root_loop h0 s f (nxR n x) hp sy y1 (by omega)
        refine ⟨r, y, hr, ?_⟩
        simp [hy, hp, dy, d2]
        exact e
      · have z : nxR n x = 0 := by omega
        rw [z] at y1 hy ⊢
        refine ⟨0, .p (.int 0), ⟨Int.le_refl _, by omega, by omega⟩, ?_⟩
        simp [hx]
        rw [whF_ev]
        simp
    · exact ⟨x, .p (.int (nxR n x)), ⟨by omega, y2 (by omega), hn⟩, by simp [hy]⟩
theorem bits_b {n : Int} {k : Nat} (h0 : 0 ≤ n) (hn : szi n k) (hk : 0 < k) : Builtin.Int.intBits n ≤ k ∧ n < 2 ^ Builtin.Int.intBits n := by
  unfold Builtin.Int.intBits
  by_cases z : n = 0
  · subst z
    exact ⟨by simp, by simp⟩
  · have zb : (n == 0) = false := by simpa using z
    rw [zb, if_neg Bool.false_ne_true]
    have z0 : n.natAbs ≠ 0 := by omega
    have l1 := hn.log hk
    have l2 : n.natAbs < 2 ^ (n.natAbs.log2 + 1) := (Nat.log2_lt z0).mp (Nat.lt_succ_self _)
    refine ⟨l1, ?_⟩
    have e : ((2 ^ (n.natAbs.log2 + 1) : Nat) : Int) = 2 ^ (n.natAbs.log2 + 1) := by
      rw [Int.natCast_pow]
      rfl
    omega
theorem start_b {n : Int} {b : Nat} (hb : b ≤ 300) (hb2 : n < 2 ^ b) : ∃ x : Int, (2 : Int) ^ (b / 2 + 1) = x ∧ szi x 400 ∧ 0 < x ∧ n < (x + 1) * (x + 1) := by
  refine ⟨_, rfl, szi.mono (a := 2 * (b / 2 + 1) + 1) (szi_pow (show szi 2 2 by decide) _) (by omega), Int.pow_pos (by decide), ?_⟩
  have w1 : (2 : Int) ^ (b / 2 + 1) * 2 ^ (b / 2 + 1) = 2 ^ (b / 2 + 1 + (b / 2 + 1)) := (Int.pow_add ..).symm
  have w2 : (2 : Int) ^ b ≤ 2 ^ (b / 2 + 1 + (b / 2 + 1)) := by
    have := Nat.pow_le_pow_right (n := 2) (by decide) (show b ≤ b / 2 + 1 + (b / 2 + 1) by omega)
    have e1 : ((2 ^ b : Nat) : Int) = 2 ^ b := by rw [Int.natCast_pow]; rfl
    have e2 : ((2 ^ (b / 2 + 1 + (b / 2 + 1)) : Nat) : Int) = 2 ^ (b / 2 + 1 + (b / 2 + 1)) := by rw [Int.natCast_pow]; rfl
    omega
  have w3 : ((2 : Int) ^ (b / 2 + 1) + 1) * (2 ^ (b / 2 + 1) + 1) = 2 ^ (b / 2 + 1) * 2 ^ (b / 2 + 1) + 2 * 2 ^ (b / 2 + 1) + 1 := by grind
  have w0 : (0 : Int) < 2 ^ (b / 2 + 1) := Int.pow_pos (by decide)
  omega
theorem shl_one (c : Int) (c0 : 0 ≤ c) (c1 : c ≤ 1000) (s : S) : shlD (.p (.int 1)) (.p (.int c)) s = .ok (.p (.int (2 ^ c.toNat))) s := by
  have hlt : (1 : Int).natAbs < 2 ^ 64 := by decide
  have pk : powOk 1 c := ⟨c0, Int.le_trans c1 (by decide), hlt⟩
  have e : shlD (.p (.int 1)) (.p (.int c)) s = if decide (powOk 1 c) = true then R.ok (D.p (.int (1 * 2 ^ c.toNat))) s else .bad := rfl
  rw [e, decide_eq_true pk, if_pos rfl, Int.one_mul]
theorem root_below_ok {n : Int} (h0 : 0 ≤ n) (hn : szi n 300) (s : S) : ∃ r, IsR n r ∧ m_root_below [.p (.int n)] s = .ok (.p (.int r)) s := by
  obtain ⟨hb, hb2⟩ := bits_b h0 hn (by decide)
  have d2 : ∀ z, divOk z 2 := fun z => ⟨by decide, PyProof.noPylong_of_log2 (by decide)⟩
  have ev : ∀ s, bitsD (.p (.int n)) s = .ok (.p (.int (Builtin.Int.intBits n : Nat))) s := fun _ => rfl
  generalize Builtin.Int.intBits n = b at *
  have hc : ((b : Nat) : Int).fdiv 2 = (b / 2 : Nat) := by
    rw [Int.fdiv_eq_ediv_of_nonneg _ (by decide)]
    rfl
  obtain ⟨x, ex, hx, hp, hge⟩ := start_b hb hb2
  have hsh := fun s => shl_one ((b / 2 : Nat) + 1) (by omega) (by omega) s
  have e1 : (((b / 2 : Nat) : Int) + 1).toNat = b / 2 + 1 := by omega
  rw [e1, ex] at hsh
  generalize ((b / 2 : Nat) : Int) = c at *
  obtain ⟨r, y, hr, e⟩ := root_loop h0 s _ x hp hx hge (Nat.lt_succ_self _)
  have dx : divOk n x := hx.divOk (by decide) (by decide) (by omega)
  refine ⟨r, hr, ?_⟩
  unfold nxR at e
  generalize (b : Int) = bb at *
  clear ex e1 hb2 hn hge hx
  have a1 : asgF ((op2 (shlD) (cE (.int 1)) ((op2 (addD true) ((op2 (divD) ((op1 bitsD (vE 0))) (cE (.int 2)))) (cE (.int 1)))))) (setG 1) [some (.p (.int n)), none, none] s = .ok (.nx [some (.p (.int n)), some (.p (.int x)), none]) s := by
    have b1 : op2 divD (op1 bitsD (vE 0)) (cE (.int 2)) [some (.p (.int n)), none, none] s = .ok (.p (.int c)) s := by
      rw [op2_ev, op1_ev, show vE 0 [some (.p (.int n)), none, none] s = .ok (.p (.int n)) s from rfl, R.bind_ok, ev, R.bind_ok, cE_ev, R.bind_ok, div_int, if_pos (d2 _), hc]
    have b2 : op2 (addD true) (op2 divD (op1 bitsD (vE 0)) (cE (.int 2))) (cE (.int 1)) [some (.p (.int n)), none, none] s = .ok (.p (.int (c + 1))) s := by
      rw [op2_ev, b1]
      rfl
    have b3 : op2 shlD (cE (.int 1)) (op2 (addD true) (op2 divD (op1 bitsD (vE 0)) (cE (.int 2))) (cE (.int 1))) [some (.p (.int n)), none, none] s = .ok (.p (.int x)) s := by
      rw [op2_ev, cE_ev, R.bind_ok, b2, R.bind_ok, hsh]
    rw [asgF_ev, b3]
    rfl
  have a2 : asgF ((op2 (divD) ((op2 (addD true) (vE 1) ((op2 (divD) (vE 0) (vE 1))))) (cE (.int 2)))) (setG 2) [some (.p (.int n)), some (.p (.int x)), none] s = .ok (.nx [some (.p (.int n)), some (.p (.int x)), some (.p (.int ((x + n.fdiv x).fdiv 2)))]) s := by
    simp [d2, dx]
  simp [m_root_below, defM_if, B_root_below, a1, a2, e, -asgF_ev]
open Classical in
noncomputable def rootP (n : Int) : P := if h : ∃ r, IsR n r ∧ r * r = n then .int h.choose else .non
theorem rootP_is {n r : Int} (h : IsR n r) : rootP n = if r * r = n then .int r else .non := by
  unfold rootP
  by_cases e : r * r = n
  · have ex : ∃ r, IsR n r ∧ r * r = n := ⟨r, h, e⟩
    rw [dif_pos ex, if_pos e, ex.choose_spec.1.uniq h]
  · rw [if_neg e, dif_neg]
    rintro ⟨t, h1, h2⟩
    rw [h1.uniq h] at h2
    exact e h2
theorem rootP_neg {n : Int} (h : n < 0) : rootP n = .non := by
  unfold rootP
  rw [dif_neg]
  rintro ⟨t, h1, h2⟩
  have := Int.mul_nonneg h1.1 h1.1
  omega
theorem IsR.sz {n r : Int} {k : Nat} (h : IsR n r) (hn : szi n k) : szi r k := by
  have h1 : r ≤ n := by
    have := h.1
    rcases (show r = 0 ∨ 1 ≤ r by omega) with z | z
    · have := h.2.1
      rw [z] at this ⊢
      omega
    · have := Int.mul_le_mul_of_nonneg_left z h.1
      have := h.2.1
      omega
  have := h.1
  unfold szi at *
  omega
theorem own_root_ok {n : Int} (hn : szi n 300) (s : S) : m_own_root [.p (.int n)] s = .ok (.p (rootP n)) s := by
  by_cases h0 : n < 0
  · rw [rootP_neg h0]
    simp [m_own_root, defM_if, B_own_root, h0]
  · obtain ⟨r, hr, e⟩ := root_below_ok (by omega) hn s
    have hm : mulOk r r := (hr.sz hn).mulOk (hr.sz hn) (by decide) (by decide) (by decide)
    rw [rootP_is hr]
    by_cases w : r * r = n
    · simp [m_own_root, defM_if, B_own_root, h0, e, hm, w]
    · simp [m_own_root, defM_if, B_own_root, h0, e, hm, w]
theorem lcL_cnt {own : List Nat} {tg : GF} {m : EF} {ρ : En} (N : Nat) (I : Nat → S → Prop) (Q : P → Prop) : ∀ {xs : List P} {n : Nat} {s : S}, n + xs.length ≤ N → I n s → (∀ x ∈ xs, ∀ n s, n < N → I n s → ∃ ρ1 y s2, tg (.p x) (wipE ρ own) s = .ok ρ1 s ∧ m ρ1 s = .ok (.p y) s2 ∧ Q y ∧ I (n + 1) s2) →
    ∃ ys s', lcL own [] tg yesT m ρ xs s = .ok ys s' ∧ I (n + xs.length) s' ∧ ys.length = xs.length ∧ ∀ y ∈ ys, Q y
  | [], n, s, _, h, _ => ⟨[], s, lcL_nil, h, rfl, fun _ h => nomatch h⟩
  | x :: xs, n, s, hn, h, k => by
    have hn' : n + (xs.length + 1) ≤ N := hn
    obtain ⟨ρ1, y, s2, e1, e2, hy, i2⟩ := k x List.mem_cons_self n s (by omega) h
    obtain ⟨ys, s', e3, i3, l3, q3⟩ := lcL_cnt N I Q (xs := xs) (n := n + 1) (by omega) i2 fun z hz => k z (List.mem_cons_of_mem _ hz)
    refine ⟨y :: ys, s', ?_, ?_, congrArg (· + 1) l3, fun z hz => ?_⟩
    · rw [lcL_cons, e1, R.bind_ok, e2, R.bind_ok]
      show R.bind (lcL own [] tg yesT m ρ xs s2) _ = _
      rw [e3]
      rfl
    · rw [List.length_cons, show n + (xs.length + 1) = n + 1 + xs.length by omega]
      exact i3
    · rcases List.mem_cons.mp hz with w | w
      · rw [w]
        exact hy
      · exact q3 z w
def totS : List Rat → Nat
  | [] => 0
  | q :: qs => hz q + 1 + totS qs
theorem cv_hz {W : Int} {n : Nat} {a1 a2 a3 a4 a6 : Rat} (cv : Cv W n a1 a2 a3 a4 a6) : hz a1 ≤ n + 1 ∧ hz a2 ≤ n + 1 ∧ hz a3 ≤ n + 1 ∧ hz a4 ≤ n + 1 ∧ hz a6 ≤ n + 1 := by
  have h1 := cv.h1.hz cv.W0 cv.hw
  have h2 := cv.h2.hz cv.W0 cv.hw
  have h3 := cv.h3.hz cv.W0 cv.hw
  have h4 := cv.h4.hz cv.W0 cv.hw
  have h6 := cv.h6.hz cv.W0 cv.hw
  omega
theorem own_x (a1 a2 l x v : Rat) : l * (l + a1) + -a2 + -x + -v = fx a1 a2 l x v := by
  unfold fx
  grind
theorem law_y (a1 a3 l x y X : Rat) : -(y + l * (X + -x) + a1 * X + a3) = fy a1 a3 l x y X := by
  unfold fy
  grind
def crv (a1 a2 a3 a4 a6 : Rat) : P := .tup [fq a1, fq a2, fq a3, fq a4, fq a6]
def pt (x y : Rat) : P := .tup [fq x, fq y]
theorem isN_tup (b : Bool) (xs : List P) (s : S) : isN b (.p (.tup xs)) (.p .non) s = .ok (.p (.bl b)) s := rfl
theorem isN_non (b : Bool) (s : S) : isN b (.p .non) (.p .non) s = .ok (.p (.bl (!b))) s := rfl
theorem eq_pt (neg : Bool) (a b c d : Rat) (s : S) : eqD neg (.p (pt a b)) (.p (pt c d)) s = .ok (.p (.bl (if neg = true then !decide (a = c ∧ b = d) else decide (a = c ∧ b = d)))) s := by
  have t : ∀ a b : Rat, toPy (pt a b) = some (.tuple [fqPy a, fqPy b]) := fun a b => toPy_tup (toPys_cons (toPy_fq a) (toPys_cons (toPy_fq b) toPys_nil))
  have sh : ∀ a b : Rat, SeqAt.shaped (.tuple [fqPy a, fqPy b]) = true := fun a b => (Cp.tup (n := 1) (ds := [fqPy a, fqPy b]) fun d hd => by
    simp only [List.mem_cons, List.not_mem_nil, or_false] at hd
    rcases hd with rfl | rfl <;> exact Cp.fq1 _).shaped (by decide)
  rw [eq_dat neg (d := .tuple [fqPy a, fqPy b]) (e := .tuple [fqPy c, fqPy d]) (by exact t a b) (by exact t c d) ⟨sh a b, sh c d⟩]
  have e : PyData.eqv (.tuple [fqPy a, fqPy b]) (.tuple [fqPy c, fqPy d]) = decide (a = c ∧ b = d) := by
    show PyData.eqvAll _ _ = _
    unfold PyData.eqvAll
    rw [eqv_fq]
    unfold PyData.eqvAll
    rw [eqv_fq]
    unfold PyData.eqvAll
    simp
  rw [e]
section
variable {W : Int} {n : Nat} {a1 a2 a3 a4 a6 x y : Rat}
theorem nc_ok (cv : Cv W n a1 a2 a3 a4 a6) (hn : n ≤ 370) (hd : dd a1 a2 a3 a4 a6 ≠ 0) (s : S) : m_need_curve [.p (crv a1 a2 a3 a4 a6)] s = .ok (.p .non) s := by
  have h := is_curve_ok cv hn s
  unfold crv
  simp [m_need_curve, defM_if, B_need_curve, h, hd]
theorem tog_loop (x0 : Option D) (s : S) : ∀ (qs : List Rat) (f : Rat) (y2 : Option D), hz f + totS qs ≤ 8700 →
    ∃ z2, forL [] (setG 2) (asgF (calE m_sum_of_two [vE 1, vE 2]) (setG 1)) (qs.map fq) [x0, some (.p (fq f)), y2] s = .ok (.nx [x0, some (.p (fq (qs.foldl (· + ·) f))), z2]) s
  | [], f, y2, _ => ⟨y2, forL_nil⟩
  | q :: qs, f, y2, h => by
    have h' : hz f + (hz q + 1 + totS qs) ≤ 8700 := h
    have ha := hz_add f q
    obtain ⟨z2, e⟩ := tog_loop x0 s qs (f + q) (some (.p (fq q))) (by omega)
    have hl := sum_of_two_ok f q s (by omega)
    refine ⟨z2, ?_⟩
    rw [List.map_cons, forL_cons]
    simp [hl]
    exact e
theorem tog_ok (qs : List Rat) {v : Rat} (hv : qs.foldl (· + ·) 0 = v) (h : totS qs ≤ 8600) (s : S) : m_together_of [.p (.lst (qs.map fq))] s = .ok (.p (fq v)) s := by
  obtain ⟨z2, e⟩ := tog_loop (some (.p (.lst (qs.map fq)))) s qs 0 none (by rw [show hz 0 = 1 by decide]; omega)
  rw [hv] at e
  have e' := forF_of (i := rowI (vE 0)) (rowI_lst (xs := qs.map fq) rfl) e
  have f0 : fq 0 = P.int 0 := rfl
  rw [f0] at e'
  simp [m_together_of, defM_if, B_together_of, e']
theorem tog3 (a b c : Rat) (h : hz a + hz b + hz c ≤ 8500) (s : S) : m_together_of [.p (.lst [fq a, fq b, fq c])] s = .ok (.p (fq (a + b + c))) s := tog_ok [a, b, c] (by simp [List.foldl, Rat.zero_add]) (by simp [totS]; omega) s
theorem tog4 (a b c d : Rat) (h : hz a + hz b + hz c + hz d ≤ 8500) (s : S) : m_together_of [.p (.lst [fq a, fq b, fq c, fq d])] s = .ok (.p (fq (a + b + c + d))) s := tog_ok [a, b, c, d] (by simp [List.foldl, Rat.zero_add]) (by simp [totS]; omega) s
theorem is_on_non (k : P) (s : S) : m_is_on [.p k, .p .non] s = .ok (.p (.bl true)) s := by
  simp [m_is_on, defM_if, B_is_on, isN_non]
theorem opposite_of_non (k : P) (s : S) : m_opposite_of [.p k, .p .non] s = .ok (.p .non) s := by
  simp [m_opposite_of, defM_if, B_opposite_of, isN_non]
theorem sum_on_n1 (k z : P) (s : S) : m_sum_on [.p k, .p .non, .p z] s = .ok (.p z) s := by
  simp [m_sum_on, defM_if, B_sum_on, isN_non]
theorem sum_on_n2 (k : P) (xs : List P) (s : S) : m_sum_on [.p k, .p (.tup xs), .p .non] s = .ok (.p (.tup xs)) s := by
  simp [m_sum_on, defM_if, B_sum_on, isN_non, isN_tup]
theorem need_point_non (k : P) (s : S) : m_need_point [.p k, .p .non] s = .ok (.p .non) s := by
  simp [m_need_point, defM_if, B_need_point, is_on_non]
end
def pO : Pq → P
  | none => .non
  | some (x, y) => pt x y
section
variable {a1 a2 a3 a4 a6 x y v w l : Rat}
/-- a good curve of few bits -/
structure Cq (a1 a2 a3 a4 a6 : Rat) : Prop where
  cv : ∃ W, Cv W 128 a1 a2 a3 a4 a6
  d0 : dd a1 a2 a3 a4 a6 ≠ 0
  k1 : hz a1 ≤ 130
  k3 : hz a3 ≤ 130
theorem Cq.hzs (o : Cq a1 a2 a3 a4 a6) : hz a1 ≤ 129 ∧ hz a2 ≤ 129 ∧ hz a3 ≤ 129 ∧ hz a4 ≤ 129 ∧ hz a6 ≤ 129 := by
  obtain ⟨W, cv⟩ := o.cv
  exact cv_hz cv
theorem Cq.nc (o : Cq a1 a2 a3 a4 a6) (s : S) : m_need_curve [.p (crv a1 a2 a3 a4 a6)] s = .ok (.p .non) s := by
  obtain ⟨W, cv⟩ := o.cv
  exact nc_ok cv (by decide) o.d0 s
theorem is_on_ok2 (k1 : hz a1 ≤ 130) (k2 : hz a2 ≤ 130) (k3 : hz a3 ≤ 130) (k4 : hz a4 ≤ 130) (k6 : hz a6 ≤ 130) (kx : hz x ≤ 1220) (ky : hz y ≤ 1830) (s : S) : m_is_on [.p (crv a1 a2 a3 a4 a6), .p (pt x y)] s = .ok (.p (.bl (decide (ev a1 a2 a3 a4 a6 x y = 0)))) s := by
  have h1 := hz_mul a1 x
  have r1 := fun s => product_ok a1 x s (by omega)
  have r2 := fun s => tog3 y (a1 * x) a3 (by omega) s
  have h2 := hz_add y (a1 * x)
  have h3 := hz_add (y + a1 * x) a3
  have r3 := fun s => product_ok y (y + a1 * x + a3) s (by omega)
  have r4 := fun s => sum_of_two_ok x a2 s (by omega)
  have h4 := hz_add x a2
  have r5 := fun s => product_ok (x + a2) x s (by omega)
  have h5 := hz_mul (x + a2) x
  have r6 := fun s => sum_of_two_ok ((x + a2) * x) a4 s (by omega)
  have h6 := hz_add ((x + a2) * x) a4
  have r7 := fun s => product_ok ((x + a2) * x + a4) x s (by omega)
  have h7 := hz_mul ((x + a2) * x + a4) x
  have r8 := fun s => sum_of_two_ok (((x + a2) * x + a4) * x) a6 s (by omega)
  have ha : ∀ s, allD [.p (.lst [.bl true, .bl true])] s = .ok (.p (.bl true)) s := fun _ => rfl
  have ed : decide (y * (y + a1 * x + a3) = ((x + a2) * x + a4) * x + a6) = decide (ev a1 a2 a3 a4 a6 x y = 0) := by
    apply decide_eq_decide.mpr
    unfold ev
    constructor <;> intro h <;> grind
  unfold crv pt
  rw [← ed]
  simp [m_is_on, defM_if, B_is_on, isN_tup, lcE_ev, rowI_k, lcL_cns, lcL_nil, is_fraction_ok, ha, sizeLine_eq, yesT, r1, r2, r3, r4, r5, r6, r7, r8, eq_fq]
theorem need_q (o : Cq a1 a2 a3 a4 a6) {e : Nat} {P : Pq} (h : OkQ a1 a2 a3 a4 a6 e P) (he : e ≤ 600) (s : S) : m_need_point [.p (crv a1 a2 a3 a4 a6), .p (pO P)] s = .ok (.p .non) s := by
  rcases P with _ | ⟨x, y⟩
  · exact need_point_non _ s
  · obtain ⟨q1, q2, q3, q4, q6⟩ := o.hzs
    obtain ⟨h1, E, p⟩ := h.mono (show e ≤ 600 by omega)
    have kx := p.hx (by decide)
    have ky := p.hy (by decide)
    have h := is_on_ok2 (a1 := a1) (a2 := a2) (a3 := a3) (a4 := a4) (a6 := a6) (x := x) (y := y) (by omega) (by omega) (by omega) (by omega) (by omega) (by omega) (by omega) s
    show m_need_point [.p (crv a1 a2 a3 a4 a6), .p (pt x y)] s = _
    simp [m_need_point, defM_if, B_need_point, h, h1]
theorem oppo_ok2 (k : hz y + hz a1 + hz x + hz a3 ≤ 8400) (k2 : hz (y + a1 * x + a3) ≤ 8000) (s : S) : m_opposite_of [.p (crv a1 a2 a3 a4 a6), .p (pt x y)] s = .ok (.p (pt x (-(y + a1 * x + a3)))) s := by
  have h1 := hz_mul a1 x
  have r1 := fun s => product_ok a1 x s (by omega)
  have r2 := fun s => tog3 y (a1 * x) a3 (by omega) s
  have r3 := fun s => turned_ok (y + a1 * x + a3) s (by omega)
  have i0 : L2.atI [fq a1, fq a2, fq a3, fq a4, fq a6] 0 = some (fq a1) := rfl
  have i2 : L2.atI [fq a1, fq a2, fq a3, fq a4, fq a6] 2 = some (fq a3) := rfl
  unfold crv pt
  simp [m_opposite_of, defM_if, B_opposite_of, isN_tup, i0, i2, r1, r2, r3, sizeLine_eq]
theorem slope_ch2 (kx : hz x ≤ 1500) (ky : hz y ≤ 2200) (kv : hz v ≤ 1500) (kw : hz w ≤ 2200) (k5 : hz x + hz y + hz v + hz w ≤ 8000) (hne : x ≠ v) (s : S) : m_slope_of [.p (crv a1 a2 a3 a4 a6), .p (pt x y), .p (pt v w)] s = .ok (.p (fq (slQ a1 a2 a3 a4 x y v w))) s := by
  have n0 : v + -x ≠ 0 := fun e => hne (by grind)
  have h1 := hz_neg x
  have h2 := hz_neg y
  have h3 := hz_add v (-x)
  have h4 := hz_add w (-y)
  have r1 := fun s => turned_ok x s (by omega)
  have r2 := fun s => turned_ok y s (by omega)
  have r3 := fun s => sum_of_two_ok v (-x) s (by omega)
  have r4 := fun s => sum_of_two_ok w (-y) s (by omega)
  have r5 := fun s => quotient_ok (w + -y) (v + -x) s n0 (by omega)
  have e : slQ a1 a2 a3 a4 x y v w = (w + -y) / (v + -x) := by
    unfold slQ
    rw [if_neg hne, Rat.sub_eq_add_neg, Rat.sub_eq_add_neg]
  rw [e]
  unfold crv pt
  simp [m_slope_of, defM_if, B_slope_of, eq_fq, hne, r1, r2, r3, r4, r5]
theorem slope_tn2 (o : Cq a1 a2 a3 a4 a6) (kx : hz x ≤ 630) (ky : hz y ≤ 940) (hd : 2 * y + a1 * x + a3 ≠ 0) (s : S) : m_slope_of [.p (crv a1 a2 a3 a4 a6), .p (pt x y), .p (pt x y)] s = .ok (.p (fq (slQ a1 a2 a3 a4 x y x y))) s := by
  obtain ⟨q1, q2, q3, q4, q6⟩ := o.hzs
  have z2 : hz 2 = 2 := by decide
  have z3 : hz 3 = 2 := by decide
  have f2 : fq 2 = .int 2 := rfl
  have f3 : fq 3 = .int 3 := rfl
  have h1 := hz_mul x x
  have h2 := hz_mul 3 (x * x)
  have h3 := hz_mul a2 x
  have h4 := hz_mul 2 (a2 * x)
  have h5 := hz_mul a1 y
  have h6 := hz_neg (a1 * y)
  have h7 := hz_mul a1 x
  have r1 := fun s => product_ok x x s (by omega)
  have r2 := fun s => product_ok 3 (x * x) s (by omega)
  have r3 := fun s => product_ok a2 x s (by omega)
  have r4 := fun s => product_ok 2 (a2 * x) s (by omega)
  have r5 := fun s => product_ok a1 y s (by omega)
  have r6 := fun s => turned_ok (a1 * y) s (by omega)
  have r7 := fun s => tog4 (3 * (x * x)) (2 * (a2 * x)) a4 (-(a1 * y)) (by omega) s
  have r8 := fun s => product_ok a1 x s (by omega)
  have r9 := fun s => tog4 y y (a1 * x) a3 (by omega) s
  have t1 := hz_add (3 * (x * x)) (2 * (a2 * x))
  have t2 := hz_add (3 * (x * x) + 2 * (a2 * x)) a4
  have t3 := hz_add (3 * (x * x) + 2 * (a2 * x) + a4) (-(a1 * y))
  have t4 := hz_add y y
  have t5 := hz_add (y + y) (a1 * x)
  have t6 := hz_add (y + y + a1 * x) a3
  have hd' : y + y + a1 * x + a3 ≠ 0 := fun z => hd (by grind)
  have r10 := fun s => quotient_ok (3 * (x * x) + 2 * (a2 * x) + a4 + -(a1 * y)) (y + y + a1 * x + a3) s hd' (by omega)
  have e : slQ a1 a2 a3 a4 x y x y = (3 * (x * x) + 2 * (a2 * x) + a4 + -(a1 * y)) / (y + y + a1 * x + a3) := by
    unfold slQ
    rw [if_pos rfl]
    congr 1 <;> grind
  rw [e]
  rw [f3] at r2
  rw [f2] at r4
  generalize 3 * (x * x) + 2 * (a2 * x) + a4 + -(a1 * y) = T at *
  generalize y + y + a1 * x + a3 = D at *
  unfold crv pt
  simp [m_slope_of, defM_if, B_slope_of, eq_fq, r1, r2, r3, r4, r5, r6, r7, r8, r9, r10, sizeLine_eq]
theorem sum_on_gen2 {X Y : Rat} (k1 : hz a1 ≤ 130) (k2 : hz a2 ≤ 130) (k3 : hz a3 ≤ 130) (kx : hz x ≤ 1205) (ky : hz y ≤ 1805) (kn : hz (y + a1 * x + a3) ≤ 1808) (kv : hz v ≤ 1205) (kxv : hz x + hz v ≤ 1244) (kl : hz l ≤ 1870) (kX : hz X ≤ 2500) (kY : hz (Y + a1 * X + a3) ≤ 3750) (kY2 : hz Y ≤ 3750)
    (ho : ¬ (v = x ∧ w = -(y + a1 * x + a3))) (hs : ∀ s, m_slope_of [.p (crv a1 a2 a3 a4 a6), .p (pt x y), .p (pt v w)] s = .ok (.p (fq l)) s) (eX : fx a1 a2 l x v = X) (eY : fy a1 a3 l x y X = Y) (s : S) :
    m_sum_on [.p (crv a1 a2 a3 a4 a6), .p (pt x y), .p (pt v w)] s = .ok (.p (pt X Y)) s := by
  have n1 : ∀ s, isN false (.p (pt x y)) (.p .non) s = .ok (.p (.bl false)) s := fun _ => rfl
  have n2 : ∀ s, isN false (.p (pt v w)) (.p .non) s = .ok (.p (.bl false)) s := fun _ => rfl
  have eo := fun s => eq_pt false v w x (-(y + a1 * x + a3)) s
  simp only [if_neg Bool.false_ne_true, decide_eq_false ho] at eo
  have h1 := hz_add l a1
  have r1 := fun s => sum_of_two_ok l a1 s (by omega)
  have r2 := fun s => product_ok l (l + a1) s (by omega)
  have h2 := hz_mul l (l + a1)
  have r3 := fun s => turned_ok a2 s (by omega)
  have r4 := fun s => turned_ok x s (by omega)
  have r5 := fun s => turned_ok v s (by omega)
  have g3 := hz_neg a2
  have g4 := hz_neg x
  have g5 := hz_neg v
  have r6 := fun s => tog4 (l * (l + a1)) (-a2) (-x) (-v) (by omega) s
  rw [own_x, eX] at r6
  have r7 := fun s => sum_of_two_ok X (-x) s (by omega)
  have h3 := hz_add X (-x)
  have r8 := fun s => product_ok l (X + -x) s (by omega)
  have h4 := hz_mul l (X + -x)
  have r9 := fun s => sum_of_two_ok y (l * (X + -x)) s (by omega)
  have eYm : y + l * (X + -x) = -(Y + a1 * X + a3) := by
    rw [← eY, ← law_y]
    grind
  have kz : hz (y + l * (X + -x)) ≤ 3750 := by
    rw [eYm, hz_neg]
    exact kY
  have eZ : y + l * (X + -x) + a1 * X + a3 = -Y := by
    rw [eYm]
    grind
  have r10 := fun s => oppo_ok2 (a1 := a1) (a2 := a2) (a3 := a3) (a4 := a4) (a6 := a6) (x := X) (y := y + l * (X + -x)) (by omega) (by rw [eZ, hz_neg]; omega) s
  rw [eZ, Rat.neg_neg] at r10
  have oo := fun s => oppo_ok2 (a1 := a1) (a2 := a2) (a3 := a3) (a4 := a4) (a6 := a6) (x := x) (y := y) (by omega) (by omega) s
  generalize y + l * (X + -x) = Z at *
  have i0 : L2.atI [fq x, fq y] 0 = some (fq x) := rfl
  have i1 : L2.atI [fq x, fq y] 1 = some (fq y) := rfl
  have j0 : L2.atI [fq v, fq w] 0 = some (fq v) := rfl
  have e3 : P.tup [fq X, fq Z] = pt X Z := rfl
  simp only [m_sum_on, defM_if, B_sum_on]
  have u1 : pt x y = .tup [fq x, fq y] := rfl
  have u2 : pt v w = .tup [fq v, fq w] := rfl
  have u3 : crv a1 a2 a3 a4 a6 = .tup [fq a1, fq a2, fq a3, fq a4, fq a6] := rfl
  rw [u1] at n1 hs oo ⊢
  rw [u2] at n2 eo hs ⊢
  rw [u3] at hs oo r10 ⊢
  rw [← e3] at r10
  simp [n1, n2, eo, oo, hs, r1, r2, r3, r4, r5, r6, r7, r8, r9, r10, i0, i1, j0, sizeLine_eq]
theorem sum_q (o : Cq a1 a2 a3 a4 a6) {e f : Nat} {P Q : Pq} (hP : OkQ a1 a2 a3 a4 a6 e P) (hQ : OkQ a1 a2 a3 a4 a6 f Q) (e1 : 1 ≤ e) (f1 : 1 ≤ f) (h1 : e ≤ 600) (h2 : f ≤ 600) (h3 : e + f ≤ 620) (s : S) : m_sum_on [.p (crv a1 a2 a3 a4 a6), .p (pO P), .p (pO Q)] s = .ok (.p (pO (adQ a1 a2 a3 a4 a6 P Q))) s := by
  rcases P with _ | ⟨x, y⟩
  · exact sum_on_n1 _ _ s
  rcases Q with _ | ⟨v, w⟩
  · exact sum_on_n2 _ [fq x, fq y] s
  obtain ⟨q1, q2, q3, q4, q6⟩ := o.hzs
  have hP' := hP
  have hQ' := hQ
  obtain ⟨p1, E, p⟩ := hP
  obtain ⟨p2, F, q⟩ := hQ
  have kx := p.hx e1
  have ky := p.hy e1
  have kn := p.hneg e1
  have kv := q.hx f1
  have kw := q.hy f1
  rw [adQ_ss]
  show m_sum_on [.p (crv a1 a2 a3 a4 a6), .p (pt x y), .p (pt v w)] s = _
  by_cases ho : x = v ∧ y + w + a1 * x + a3 = 0
  · rw [if_pos ho]
    obtain ⟨z1, z2⟩ := ho
    subst z1
    have hw : w = -(y + a1 * x + a3) := by grind
    subst hw
    have r1 := fun s => oppo_ok2 (a1 := a1) (a2 := a2) (a3 := a3) (a4 := a4) (a6 := a6) (x := x) (y := y) (by have := o.k1; have := o.k3; omega) (by omega) s
    have eq := fun s => eq_pt false x (-(y + a1 * x + a3)) x (-(y + a1 * x + a3)) s
    have n1 : ∀ s, isN false (.p (pt x y)) (.p .non) s = .ok (.p (.bl false)) s := fun _ => rfl
    have n2 : ∀ s, isN false (.p (pt x (-(y + a1 * x + a3)))) (.p .non) s = .ok (.p (.bl false)) s := fun _ => rfl
    show m_sum_on _ s = .ok (.p .non) s
    simp [m_sum_on, defM_if, B_sum_on, n1, n2, r1, eq]
  · rw [if_neg ho]
    obtain ⟨⟨G, g⟩, kl⟩ := OkQ.slope e1 f1 hP' hQ' ho
    have kX := g.hx (by omega)
    have kY := g.hy (by omega)
    have kN := g.hneg (by omega)
    have hs : ∀ s, m_slope_of [.p (crv a1 a2 a3 a4 a6), .p (pt x y), .p (pt v w)] s = .ok (.p (fq (slQ a1 a2 a3 a4 x y v w))) s := fun s => by
      by_cases hx : x = v
      · subst hx
        have hn : ¬ y + w + a1 * x + a3 = 0 := fun z => ho ⟨rfl, z⟩
        have e0 := same_y p1 p2 hn
        subst e0
        refine slope_tn2 o ?_ ?_ (by grind) s
        · omega
        · omega
      · exact slope_ch2 (by omega) (by omega) (by omega) (by omega) (by omega) hx s
    refine sum_on_gen2 o.k1 (by omega) o.k3 (by omega) (by omega) (by omega) (by omega) (by omega) (by omega) (by omega) (by omega) (by omega) (fun z => ho ⟨z.1.symm, by rw [z.2]; grind⟩) hs rfl rfl s
theorem added_q (o : Cq a1 a2 a3 a4 a6) {e f : Nat} {P Q : Pq} (hP : OkQ a1 a2 a3 a4 a6 e P) (hQ : OkQ a1 a2 a3 a4 a6 f Q) (e1 : 1 ≤ e) (f1 : 1 ≤ f) (h1 : e ≤ 600) (h2 : f ≤ 600) (h3 : e + f ≤ 620) (s : S) : m_added [.p (crv a1 a2 a3 a4 a6), .p (pO P), .p (pO Q)] s = .ok (.p (pO (adQ a1 a2 a3 a4 a6 P Q))) s := by
  simp [m_added, defM_if, B_added, o.nc, need_q o hP (by omega), need_q o hQ (by omega), sum_q o hP hQ e1 f1 h1 h2 h3]
theorem opposite_q (o : Cq a1 a2 a3 a4 a6) {e : Nat} {P : Pq} (hP : OkQ a1 a2 a3 a4 a6 e P) (e1 : 1 ≤ e) (h1 : e ≤ 600) (s : S) : m_opposite [.p (crv a1 a2 a3 a4 a6), .p (pO P)] s = .ok (.p (pO (ngQ a1 a3 P))) s := by
  have n := fun s => need_q o hP (by omega) s
  rcases P with _ | ⟨x, y⟩
  · have h := fun s => opposite_of_non (crv a1 a2 a3 a4 a6) s
    show m_opposite [.p (crv a1 a2 a3 a4 a6), .p .non] s = .ok (.p .non) s
    have n : ∀ s, m_need_point [.p (crv a1 a2 a3 a4 a6), .p .non] s = .ok (.p .non) s := n
    simp [m_opposite, defM_if, B_opposite, o.nc, n, h]
  · obtain ⟨p1, E, p⟩ := hP
    have kx := p.hx e1
    have ky := p.hy e1
    have kn := p.hneg e1
    have r1 := fun s => oppo_ok2 (a1 := a1) (a2 := a2) (a3 := a3) (a4 := a4) (a6 := a6) (x := x) (y := y) (by have := o.k1; have := o.k3; omega) (by omega) s
    show m_opposite [.p (crv a1 a2 a3 a4 a6), .p (pt x y)] s = .ok (.p (pt x (-(y + a1 * x + a3)))) s
    have n : ∀ s, m_need_point [.p (crv a1 a2 a3 a4 a6), .p (pt x y)] s = .ok (.p .non) s := n
    simp [m_opposite, defM_if, B_opposite, o.nc, n, r1]
end
theorem by_power_fl (u : Rat) (hu : u ≠ 0) (s : S) (x1 : Option D) : ∀ (k : Nat) (a : Nat) (x : Rat) (y : Option D), hz x + (k + 1) * hz u ≤ 8800 →
    ∃ y', forL [] (setG 3) (asgF (calE m_quotient [vE 0, vE 1]) (setG 0)) ((List.range' a k).map fun i => .int (0 + ((i : Nat) : Int))) [some (.p (fq x)), some (.p (fq u)), x1, y] s = .ok (.nx [some (.p (fq (x * u⁻¹ ^ k))), some (.p (fq u)), x1, y']) s
  | 0, a, x, y, _ => ⟨y, by rw [Rat.pow_zero, Rat.mul_one]; exact forL_nil⟩
  | k + 1, a, x, y, h => by
    have h1 := hz_div x u
    rw [Nat.succ_mul, Nat.succ_mul] at h
    have h2 := quotient_ok x u s hu (by omega)
    obtain ⟨y', h3⟩ := by_power_fl u hu s x1 k (a + 1) (x / u) (some (.p (.int (0 + (a : Int))))) (by rw [Nat.succ_mul]; omega)
    refine ⟨y', ?_⟩
    rw [List.range'_succ, List.map_cons, forL_cons]
    simp [h2]
    have e : x * u⁻¹ ^ (k + 1) = x / u * u⁻¹ ^ k := by rw [Rat.pow_succ, Rat.div_def]; grind
    rw [e]
    simpa using h3
theorem by_power_ok (x u : Rat) (k : Nat) (hu : u ≠ 0) (s : S) (hk : k ≤ 12) (h : hz x + (k + 1) * hz u ≤ 8800) : m_by_power [.p (fq x), .p (fq u), .p (.int k)] s = .ok (.p (fq (x * u⁻¹ ^ k))) s := by
  have hh := by_power_fl u hu s (some (.p (.int k))) k 0 x none h
  rw [← List.range_eq_range'] at hh
  obtain ⟨y', h1⟩ := hh
  have hr : r1I [vE 2] [some (.p (fq x)), some (.p (fq u)), some (.p (.int k)), none] s = .ok (ranP 0 k, []) s := r1_ev _ _ _ (k : Int) _ rfl (by omega) (by omega)
  have hf : forF (r1I [vE 2]) (setG 3) (asgF (calE m_quotient [vE 0, vE 1]) (setG 0)) [some (.p (fq x)), some (.p (fq u)), some (.p (.int k)), none] s = .ok (.nx [some (.p (fq (x * u⁻¹ ^ k))), some (.p (fq u)), some (.p (.int k)), y']) s := by
    rw [forF_ev, hr, R.bind_ok]
    exact h1
  simp [m_by_power, defM_if, B_by_power, hf]
theorem is_change_ok (u r s t : Rat) (σ : S) : m_is_change [.p (.tup [fq u, fq r, fq s, fq t])] σ = .ok (.p (.bl (!decide (u = 0)))) σ := by
  have h1 := all_fr [u, r, s, t] (by simp) σ
  have h2 := all_trues (s := σ) [u, r, s, t]
  simp only [List.map_cons, List.map_nil] at h1 h2
  have h3 : L2.atI [fq u, fq r, fq s, fq t] 0 = some (fq u) := rfl
  simp [m_is_change, defM_if, B_is_change, h1, h2, h3, ne_fq0]
theorem need_change_ok (u r s t : Rat) (hu : u ≠ 0) (σ : S) : m_need_change [.p (.tup [fq u, fq r, fq s, fq t])] σ = .ok (.p .non) σ := by
  simp [m_need_change, defM_if, B_need_change, is_change_ok, hu]
theorem zm2 : hz (-2) = 2 := by decide
theorem z3 : hz 3 = 2 := by decide
/-- what is bounded of a curve and a change -/
structure Bd (H K : Nat) (a1 a2 a3 a4 a6 u r s t : Rat) : Prop where
  k1 : hz a1 ≤ H
  k2 : hz a2 ≤ H
  k3 : hz a3 ≤ H
  k4 : hz a4 ≤ H
  k6 : hz a6 ≤ H
  ku : hz u ≤ K
  kr : hz r ≤ K
  ks : hz s ≤ K
  kt : hz t ≤ K
theorem own_led_ok {a1 a2 a3 a4 a6 u r s t : Rat} (b : Bd 400 300 a1 a2 a3 a4 a6 u r s t) (hu : u ≠ 0) (σ : S) : m_own_led [.p (.tup [fq a1, fq a2, fq a3, fq a4, fq a6]), .p (.tup [fq u, fq r, fq s, fq t])] σ =
    .ok (.p (.tup [fq (l1 a1 u⁻¹ s), fq (l2 a1 a2 u⁻¹ r s), fq (l3 a1 a3 u⁻¹ r t), fq (l4 a1 a2 a3 a4 u⁻¹ r s t), fq (l6 a1 a2 a3 a4 a6 u⁻¹ r t)])) σ := by
  obtain ⟨k1, k2, k3, k4, k6, ku, kr, ks, kt⟩ := b
  have s1 : m_summed [.p (.lst [.tup [fq a1], .tup [.int 2, fq s]])] σ = .ok (.p (fq (a1 + 2 * s))) σ := summed_ok [[a1], [2, s]] _ σ (by simp [sumR, prodR]; try grind) (by simp [totZ, totR, z2]; omega)
  have s2 : m_summed [.p (.lst [.tup [fq a2], .tup [.int (-1), fq s, fq a1], .tup [.int 3, fq r], .tup [.int (-1), fq s, fq s]])] σ = .ok (.p (fq (a2 - s * a1 + 3 * r - s * s))) σ := summed_ok [[a2], [-1, s, a1], [3, r], [-1, s, s]] _ σ (by simp [sumR, prodR]; try grind) (by simp [totZ, totR, zm1, z3]; omega)
  have s3 : m_summed [.p (.lst [.tup [fq a3], .tup [fq r, fq a1], .tup [.int 2, fq t]])] σ = .ok (.p (fq (a3 + r * a1 + 2 * t))) σ := summed_ok [[a3], [r, a1], [2, t]] _ σ (by simp [sumR, prodR]; try grind) (by simp [totZ, totR, z2]; omega)
  have s4 : m_summed [.p (.lst [.tup [fq a4], .tup [.int (-1), fq s, fq a3], .tup [.int 2, fq r, fq a2], .tup [.int (-1), fq t, fq a1], .tup [.int (-1), fq r, fq s, fq a1], .tup [.int 3, fq r, fq r], .tup [.int (-2), fq s, fq t]])] σ = .ok (.p (fq (a4 - s * a3 + 2 * r * a2 - t * a1 - r * s * a1 + 3 * r * r - 2 * s * t))) σ :=
    summed_ok [[a4], [-1, s, a3], [2, r, a2], [-1, t, a1], [-1, r, s, a1], [3, r, r], [-2, s, t]] _ σ (by simp [sumR, prodR]; try grind) (by simp [totZ, totR, zm1, zm2, z2, z3]; omega)
  have s6 : m_summed [.p (.lst [.tup [fq a6], .tup [fq r, fq a4], .tup [fq r, fq r, fq a2], .tup [fq r, fq r, fq r], .tup [.int (-1), fq t, fq a3], .tup [.int (-1), fq t, fq t], .tup [.int (-1), fq r, fq t, fq a1]])] σ = .ok (.p (fq (a6 + r * a4 + r * r * a2 + r * r * r - t * a3 - t * t - r * t * a1))) σ :=
    summed_ok [[a6], [r, a4], [r, r, a2], [r, r, r], [-1, t, a3], [-1, t, t], [-1, r, t, a1]] _ σ (by simp [sumR, prodR]; try grind) (by simp [totZ, totR, zm1]; omega)
  have q1 : hz (a1 + 2 * s) ≤ 6500 := by have := hz_add a1 (2 * s); have := hz_mul 2 s; rw [z2] at this; omega
  have q2 : hz (a2 - s * a1 + 3 * r - s * s) ≤ 6500 := by
    have := hz_sub (a2 - s * a1 + 3 * r) (s * s); have := hz_add (a2 - s * a1) (3 * r); have := hz_sub a2 (s * a1)
    have := hz_mul s s; have := hz_mul 3 r; have := hz_mul s a1; have := z3; omega
  have q3 : hz (a3 + r * a1 + 2 * t) ≤ 6500 := by
    have := hz_add (a3 + r * a1) (2 * t); have := hz_add a3 (r * a1); have := hz_mul r a1; have := hz_mul 2 t; have := z2; omega
  have q4 : hz (a4 - s * a3 + 2 * r * a2 - t * a1 - r * s * a1 + 3 * r * r - 2 * s * t) ≤ 6500 := by
    have := z2; have := z3
    have := hz_sub (a4 - s * a3 + 2 * r * a2 - t * a1 - r * s * a1 + 3 * r * r) (2 * s * t)
    have := hz_add (a4 - s * a3 + 2 * r * a2 - t * a1 - r * s * a1) (3 * r * r)
    have := hz_sub (a4 - s * a3 + 2 * r * a2 - t * a1) (r * s * a1)
    have := hz_sub (a4 - s * a3 + 2 * r * a2) (t * a1)
    have := hz_add (a4 - s * a3) (2 * r * a2)
    have := hz_sub a4 (s * a3)
    have := hz_mul (2 * s) t; have := hz_mul 2 s; have := hz_mul (3 * r) r; have := hz_mul 3 r; have := hz_mul (r * s) a1; have := hz_mul r s
    have := hz_mul t a1; have := hz_mul (2 * r) a2; have := hz_mul 2 r; have := hz_mul s a3
    omega
  have q6 : hz (a6 + r * a4 + r * r * a2 + r * r * r - t * a3 - t * t - r * t * a1) ≤ 6500 := by
    have := hz_sub (a6 + r * a4 + r * r * a2 + r * r * r - t * a3 - t * t) (r * t * a1)
    have := hz_sub (a6 + r * a4 + r * r * a2 + r * r * r - t * a3) (t * t)
    have := hz_sub (a6 + r * a4 + r * r * a2 + r * r * r) (t * a3)
    have := hz_add (a6 + r * a4 + r * r * a2) (r * r * r)
    have := hz_add (a6 + r * a4) (r * r * a2)
    have := hz_add a6 (r * a4)
    have := hz_mul (r * t) a1; have := hz_mul r t; have := hz_mul t t; have := hz_mul t a3; have := hz_mul (r * r) r; have := hz_mul r r; have := hz_mul (r * r) a2; have := hz_mul r a4
    omega
  have p1 := by_power_ok (a1 + 2 * s) u 1 hu σ (by decide) (by omega)
  have p2 := by_power_ok (a2 - s * a1 + 3 * r - s * s) u 2 hu σ (by decide) (by omega)
  have p3 := by_power_ok (a3 + r * a1 + 2 * t) u 3 hu σ (by decide) (by omega)
  have p4 := by_power_ok (a4 - s * a3 + 2 * r * a2 - t * a1 - r * s * a1 + 3 * r * r - 2 * s * t) u 4 hu σ (by decide) (by omega)
  have p6 := by_power_ok (a6 + r * a4 + r * r * a2 + r * r * r - t * a3 - t * t - r * t * a1) u 6 hu σ (by decide) (by omega)
  have f1 : (a1 + 2 * s) * u⁻¹ ^ 1 = l1 a1 u⁻¹ s := by unfold l1; grind
  have f2 : (a2 - s * a1 + 3 * r - s * s) * u⁻¹ ^ 2 = l2 a1 a2 u⁻¹ r s := by unfold l2; grind
  have f3 : (a3 + r * a1 + 2 * t) * u⁻¹ ^ 3 = l3 a1 a3 u⁻¹ r t := by unfold l3; grind
  have f4 : (a4 - s * a3 + 2 * r * a2 - t * a1 - r * s * a1 + 3 * r * r - 2 * s * t) * u⁻¹ ^ 4 = l4 a1 a2 a3 a4 u⁻¹ r s t := by unfold l4; grind
  have f6 : (a6 + r * a4 + r * r * a2 + r * r * r - t * a3 - t * t - r * t * a1) * u⁻¹ ^ 6 = l6 a1 a2 a3 a4 a6 u⁻¹ r t := by unfold l6; grind
  rw [f1] at p1
  rw [f2] at p2
  rw [f3] at p3
  rw [f4] at p4
  rw [f6] at p6
  generalize hX1 : a1 + 2 * s = X1 at *
  generalize hX2 : a2 - s * a1 + 3 * r - s * s = X2 at *
  generalize hX3 : a3 + r * a1 + 2 * t = X3 at *
  generalize hX4 : a4 - s * a3 + 2 * r * a2 - t * a1 - r * s * a1 + 3 * r * r - 2 * s * t = X4 at *
  generalize hX6 : a6 + r * a4 + r * r * a2 + r * r * r - t * a3 - t * t - r * t * a1 = X6 at *
  have hi : ∀ ρ : En, ρ[14]? = some (some (.p (.lst [fq X1, fq X2, fq X3, fq X4, fq X6]))) → zimI (vE 14) (tupE [cE (.int 1), cE (.int 2), cE (.int 3), cE (.int 4), cE (.int 6)]) ρ σ = .ok ([.tup [fq X1, .int 1], .tup [fq X2, .int 2], .tup [fq X3, .int 3], .tup [fq X4, .int 4], .tup [fq X6, .int 6]], []) σ :=
    fun ρ h => zimI_ev (xs := [fq X1, fq X2, fq X3, fq X4, fq X6]) (ys := [.int 1, .int 2, .int 3, .int 4, .int 6]) (vE_of h) rfl
  have hlc := lcE_ev (fr := true) (i := zimI (vE 14) (tupE [cE (.int 1), cE (.int 2), cE (.int 3), cE (.int 4), cE (.int 6)])) (own := [15, 16]) (tg := tupG 2 (consG (setG 15) (consG (setG 16) nilG))) (c := yesT) (m := calE m_by_power [vE 15, vE 7, vE 16])
    (ρ := [some (.p (.tup [fq a1, fq a2, fq a3, fq a4, fq a6])), some (.p (.tup [fq u, fq r, fq s, fq t])), some (.p (fq a1)), some (.p (fq a2)), some (.p (fq a3)), some (.p (fq a4)), some (.p (fq a6)), some (.p (fq u)), some (.p (fq r)), some (.p (fq s)), some (.p (fq t)), some (.p (fq X2)), some (.p (fq X4)), some (.p (fq X6)), some (.p (.lst [fq X1, fq X2, fq X3, fq X4, fq X6])), none, none]) (s := σ)
  rw [hi _ rfl, R.bind_ok] at hlc
  have p1 : m_by_power [.p (fq X1), .p (fq u), .p (.int 1)] σ = _ := p1
  have p2 : m_by_power [.p (fq X2), .p (fq u), .p (.int 2)] σ = _ := p2
  have p3 : m_by_power [.p (fq X3), .p (fq u), .p (.int 3)] σ = _ := p3
  have p4 : m_by_power [.p (fq X4), .p (fq u), .p (.int 4)] σ = _ := p4
  have p6 : m_by_power [.p (fq X6), .p (fq u), .p (.int 6)] σ = _ := p6
  simp [lcL_cons, lcL_nil, sizeLine_eq, p1, p2, p3, p4, p6] at hlc
  simp [m_own_led, defM_if, B_own_led, s1, s2, s3, s4, s6, hlc]
section
variable {W : Int} {n : Nat} {a1 a2 a3 a4 a6 u r s t x y : Rat}
theorem Cq.need (o : Cq a1 a2 a3 a4 a6) (σ : S) : m_need_curve [.p (.tup [fq a1, fq a2, fq a3, fq a4, fq a6])] σ = .ok (.p .non) σ := o.nc σ
theorem led_q (o : Cq a1 a2 a3 a4 a6) (hu : u ≠ 0) (ku : hz u ≤ 60) (kr : hz r ≤ 60) (ks : hz s ≤ 60) (kt : hz t ≤ 60) (σ : S) : m_led [.p (crv a1 a2 a3 a4 a6), .p (.tup [fq u, fq r, fq s, fq t])] σ = .ok (.p (crv (tb1 a1 s * u⁻¹) (tb2 a1 a2 r s * u⁻¹ * u⁻¹) (tb3 a1 a3 r t * u⁻¹ * u⁻¹ * u⁻¹) (tb4 a1 a2 a3 a4 r s t * u⁻¹ * u⁻¹ * u⁻¹ * u⁻¹) (tb6 a1 a2 a3 a4 a6 r t * u⁻¹ * u⁻¹ * u⁻¹ * u⁻¹ * u⁻¹ * u⁻¹))) σ := by
  obtain ⟨h1, h2, h3, h4, h6⟩ := o.hzs
  have e : m_own_led [.p (.tup [fq a1, fq a2, fq a3, fq a4, fq a6]), .p (.tup [fq u, fq r, fq s, fq t])] σ = _ := own_led_ok ⟨by omega, by omega, by omega, by omega, by omega, by omega, by omega, by omega, by omega⟩ hu σ
  have ch := fun σ => need_change_ok u r s t hu σ
  have nc := fun σ => o.need σ
  show m_led [.p (.tup [fq a1, fq a2, fq a3, fq a4, fq a6]), _] σ = _
  simp only [m_led, defM_if, B_led]
  simp [nc, ch, e, l1, l2, l3, l4, l6, crv, tb1, tb2, tb3, tb4, tb6]
theorem off_by_sz {E : Int} {e : Nat} (o : Cq a1 a2 a3 a4 a6) (h : Sz E e a1 a2 a3 a4 a6 x y) (he : 1 ≤ e) (hb : e ≤ 560) (σ : S) : m_off_by [.p (crv a1 a2 a3 a4 a6), .p (fq x), .p (fq y)] σ = .ok (.p (fq (ev a1 a2 a3 a4 a6 x y))) σ := by
  obtain ⟨h1, h2, h3, h4, h6⟩ := o.hzs
  have kx := h.hx he
  have ky := h.hy he
  have g1 := h.off1 he
  have g2 := h.off2 he
  have s1 : m_summed [.p (.lst [.tup [fq y, fq y], .tup [fq a1, fq x, fq y], .tup [fq a3, fq y]])] σ = .ok (.p (fq (y * y + a1 * x * y + a3 * y))) σ := summed_ok [[y, y], [a1, x, y], [a3, y]] _ σ (by simp [sumR, prodR]; try grind) (by simp [totZ, totR]; omega)
  have s2 : m_summed [.p (.lst [.tup [.int (-1), fq x, fq x, fq x], .tup [.int (-1), fq a2, fq x, fq x], .tup [.int (-1), fq a4, fq x], .tup [.int (-1), fq a6]])] σ = .ok (.p (fq (-(x * x * x) - a2 * x * x - a4 * x - a6))) σ := summed_ok [[-1, x, x, x], [-1, a2, x, x], [-1, a4, x], [-1, a6]] _ σ (by simp [sumR, prodR]; try grind) (by simp [totZ, totR, zm1]; omega)
  have s3 := sum_of_two_ok (y * y + a1 * x * y + a3 * y) (-(x * x * x) - a2 * x * x - a4 * x - a6) σ (by omega)
  have ee : y * y + a1 * x * y + a3 * y + (-(x * x * x) - a2 * x * x - a4 * x - a6) = ev a1 a2 a3 a4 a6 x y := by unfold ev; grind
  rw [ee] at s3
  unfold crv
  simp [m_off_by, defM_if, B_off_by, s1, s2, s3]
theorem led_point_q (o : Cq a1 a2 a3 a4 a6) {e : Nat} {P : Pq} (h : OkQ a1 a2 a3 a4 a6 e P) (he : 1 ≤ e) (hb : e ≤ 560) (hu : u ≠ 0) (ku : hz u ≤ 60) (kr : hz r ≤ 60) (ks : hz s ≤ 60) (kt : hz t ≤ 60) (σ : S) :
    m_led_point [.p (crv a1 a2 a3 a4 a6), .p (pO P), .p (.tup [fq u, fq r, fq s, fq t])] σ = .ok (.p (pO (lpt u⁻¹ r s t P))) σ := by
  have ch := fun σ => need_change_ok u r s t hu σ
  have nc := fun σ => o.nc σ
  rcases P with _ | ⟨x, y⟩
  · have lo : ∀ σ, m_lies_on [.p (crv a1 a2 a3 a4 a6), .p .non] σ = .ok (.p (.bl true)) σ := fun σ => by simp [m_lies_on, defM_if, B_lies_on, isN_non]
    have ol : ∀ σ, m_own_led_point [.p .non, .p (.tup [fq u, fq r, fq s, fq t])] σ = .ok (.p .non) σ := fun σ => by
      simp [m_own_led_point, defM_if, B_own_led_point, isN_non]
    show m_led_point [_, .p .non, _] σ = .ok (.p .non) σ
    generalize P.tup [fq u, fq r, fq s, fq t] = C at *
    generalize crv a1 a2 a3 a4 a6 = K at *
    simp [m_led_point, defM_if, B_led_point, nc, lo, ch, ol]
  · obtain ⟨hon, E, z⟩ := h
    have kx := z.hx he
    have ky := z.hy he
    have ob := fun σ => off_by_sz o z he hb σ
    rw [hon] at ob
    have ip : ∀ σ, m_is_pair [.p (.tup [fq x, fq y])] σ = .ok (.p (.bl true)) σ := fun σ => by
      have hx := fun s => is_fraction_ok x s
      have hy := fun s => is_fraction_ok y s
      generalize fq x = X at *
      generalize fq y = Y at *
      simp [m_is_pair, defM_if, B_is_pair, hx, hy]
    have lo : ∀ σ, m_lies_on [.p (crv a1 a2 a3 a4 a6), .p (.tup [fq x, fq y])] σ = .ok (.p (.bl true)) σ := fun σ => by
      rw [show fq 0 = P.int 0 from rfl] at ob
      generalize crv a1 a2 a3 a4 a6 = K at *
      simp [m_lies_on, defM_if, B_lies_on, isN_tup, ip, ob]
    have s1 : m_summed [.p (.lst [.tup [fq y], .tup [.int (-1), fq s, fq x], .tup [fq s, fq r], .tup [.int (-1), fq t]])] σ = .ok (.p (fq (y - s * x + s * r - t))) σ := summed_ok [[y], [-1, s, x], [s, r], [-1, t]] _ σ (by simp [sumR, prodR]; try grind) (by simp [totZ, totR, zm1]; omega)
    have s2 : m_summed [.p (.lst [.tup [fq x], .tup [.int (-1), fq r]])] σ = .ok (.p (fq (x - r))) σ := summed_ok [[x], [-1, r]] _ σ (by simp [sumR, prodR]; try grind) (by simp [totZ, totR, zm1]; omega)
    have g1 : hz (y - s * x + s * r - t) ≤ 5000 := by
      have := hz_sub (y - s * x + s * r) t; have := hz_add (y - s * x) (s * r); have := hz_sub y (s * x); have := hz_mul s x; have := hz_mul s r; omega
    have g2 := hz_sub x r
    have p2 : m_by_power [.p (fq (x - r)), .p (fq u), .p (.int 2)] σ = _ := by_power_ok (x - r) u 2 hu σ (by decide) (by omega)
    have p3 : m_by_power [.p (fq (y - s * x + s * r - t)), .p (fq u), .p (.int 3)] σ = _ := by_power_ok (y - s * x + s * r - t) u 3 hu σ (by decide) (by omega)
    rw [show (x - r) * u⁻¹ ^ 2 = (x - r) * u⁻¹ * u⁻¹ by grind] at p2
    rw [show (y - s * x + s * r - t) * u⁻¹ ^ 3 = (y - s * (x - r) - t) * u⁻¹ * u⁻¹ * u⁻¹ by grind] at p3
    have ol : m_own_led_point [.p (.tup [fq x, fq y]), .p (.tup [fq u, fq r, fq s, fq t])] σ = .ok (.p (.tup [fq ((x - r) * u⁻¹ * u⁻¹), fq ((y - s * (x - r) - t) * u⁻¹ * u⁻¹ * u⁻¹)])) σ := by
      simp [m_own_led_point, defM_if, B_own_led_point, isN_tup, s1, s2, p2, p3]
    show m_led_point [_, .p (.tup [fq x, fq y]), _] σ = .ok (.p (.tup [fq ((x - r) * u⁻¹ * u⁻¹), fq ((y - s * (x - r) - t) * u⁻¹ * u⁻¹ * u⁻¹)])) σ
    generalize P.tup [fq ((x - r) * u⁻¹ * u⁻¹), fq ((y - s * (x - r) - t) * u⁻¹ * u⁻¹ * u⁻¹)] = V at *
    generalize P.tup [fq u, fq r, fq s, fq t] = C at *
    generalize crv a1 a2 a3 a4 a6 = K at *
    generalize P.tup [fq x, fq y] = X at *
    simp [m_led_point, defM_if, B_led_point, nc, lo, ch, ol]
end
theorem sz60 {i : Int} (h0 : 0 ≤ i) (h : i ≤ 100000) : szi i 60 := by
  unfold szi
  omega
theorem mulR {i j : Int} (h0 : 0 ≤ j) (h : j ≤ 100000) : mulOk i j := Or.inr (Or.inr (by omega))
def fv (A1 A2 A3 A4 A6 : Int) : P := .tup [.int A1, .int A2, .int A3, .int A4, .int A6]
def vlz (A1 A2 A3 A4 A6 x y : Int) : Int := y * y + A1 * x * y + A3 * y - x * x * x - A2 * x * x - A4 * x - A6
theorem mulS {i j : Int} (h0 : -100000 ≤ j) (h : j ≤ 100000) : mulOk i j := Or.inr (Or.inr (by omega))
theorem mulT {i j : Int} (h0 : -100000 ≤ i) (h : i ≤ 100000) : mulOk i j := Or.inr (Or.inl (by omega))
def DI (a1 a2 a3 a4 a6 : Int) : Int := 9 * (a1 * a1 + 4 * a2) * (2 * a4 + a1 * a3) * (a3 * a3 + 4 * a6) - (a1 * a1 + 4 * a2) * (a1 * a1 + 4 * a2) * (a2 * a3 * a3 - a4 * a4 + a1 * a1 * a6 + 4 * a2 * a6 - a1 * a3 * a4) - 8 * (2 * a4 + a1 * a3) * (2 * a4 + a1 * a3) * (2 * a4 + a1 * a3) - 27 * (a3 * a3 + 4 * a6) * (a3 * a3 + 4 * a6)
theorem mulZ {i j : Int} {b : Nat} (h : szi j b) (hb : b ≤ 64) : mulOk i j := Or.inr (Or.inr (Nat.lt_of_lt_of_le h (Nat.pow_le_pow_right (by decide) hb)))
section
variable {a1 a2 a3 a4 a6 : Int}
theorem Ld_ok (h1 : szi a1 20) (h2 : szi a2 20) (h3 : szi a3 20) (h4 : szi a4 20) (h6 : szi a6 20) (s : S) : m_Ld [.p (fv a1 a2 a3 a4 a6)] s = .ok (.p (.int (DI a1 a2 a3 a4 a6))) s := by
  have s4 : szi 4 3 := by decide
  have s2 : szi 2 2 := by decide
  have k1 : ∀ i, mulOk i a1 := fun i => mulZ h1 (by decide)
  have k2 : ∀ i, mulOk i a2 := fun i => mulZ h2 (by decide)
  have k3 : ∀ i, mulOk i a3 := fun i => mulZ h3 (by decide)
  have k4 : ∀ i, mulOk i a4 := fun i => mulZ h4 (by decide)
  have k6 : ∀ i, mulOk i a6 := fun i => mulZ h6 (by decide)
  have e2 : szi (a1 * a1 + 4 * a2) 42 := szi.sum (h1.mul h1) (s4.mul h2)
  have e4 : szi (2 * a4 + a1 * a3) 42 := szi.sum (s2.mul h4) (h1.mul h3)
  have e6 : szi (a3 * a3 + 4 * a6) 42 := szi.sum (h3.mul h3) (s4.mul h6)
  have b2 : ∀ i, mulOk i (a1 * a1 + 4 * a2) := fun i => mulZ e2 (by decide)
  have b4 : ∀ i, mulOk i (2 * a4 + a1 * a3) := fun i => mulZ e4 (by decide)
  have b6 : ∀ i, mulOk i (a3 * a3 + 4 * a6) := fun i => mulZ e6 (by decide)
  have b8 : ∀ j, mulOk ((a1 * a1 + 4 * a2) * (a1 * a1 + 4 * a2)) j ∨ True := fun _ => .inr trivial
  have e8 : szi (a2 * a3 * a3 - a4 * a4 + a1 * a1 * a6 + 4 * a2 * a6 - a1 * a3 * a4) 64 := by
    have t1 : szi (a2 * a3 * a3 - a4 * a4) 61 := szi.dif ((h2.mul h3).mul h3) (h4.mul h4)
    have t2 : szi (a2 * a3 * a3 - a4 * a4 + a1 * a1 * a6) 62 := szi.sum t1 ((h1.mul h1).mul h6)
    have t3 : szi (a2 * a3 * a3 - a4 * a4 + a1 * a1 * a6 + 4 * a2 * a6) 63 := szi.sum t2 ((s4.mul h2).mul h6)
    exact szi.dif t3 ((h1.mul h3).mul h4)
  have k8 : ∀ i, mulOk i (a2 * a3 * a3 - a4 * a4 + a1 * a1 * a6 + 4 * a2 * a6 - a1 * a3 * a4) := fun i => mulZ e8 (by decide)
  unfold fv DI
  simp [m_Ld, defM_if, B_Ld, k1, k2, k3, k4, k6, b2, b4, b6, k8]
theorem dd_DI : dd (a1 : Rat) a2 a3 a4 a6 = ((DI a1 a2 a3 a4 a6 : Int) : Rat) := by
  unfold DI dd dD b2 b4 b6 b8
  have c4 : ((4 : Int) : Rat) = 4 := rfl
  have c2 : ((2 : Int) : Rat) = 2 := rfl
  have c9 : ((9 : Int) : Rat) = 9 := rfl
  have c8 : ((8 : Int) : Rat) = 8 := rfl
  have c27 : ((27 : Int) : Rat) = 27 := rfl
  simp only [Rat.intCast_sub, rc_add, rc_mul, c2, c4, c8, c9, c27]
  grind
end
structure Thr (a1 a2 a3 a4 a6 x y v w : Int) : Prop where
  b1 : a1.natAbs ≤ 9
  b2 : a2.natAbs ≤ 9
  b3 : a3.natAbs ≤ 9
  b4 : a4.natAbs ≤ 7000
  b6 : a6.natAbs ≤ 80000
  cx : x.natAbs ≤ 10
  cy : y.natAbs ≤ 10
  cv : v.natAbs ≤ 10
  cw : w.natAbs ≤ 10
  o1 : vlz a1 a2 a3 a4 a6 x y = 0
  o2 : vlz a1 a2 a3 a4 a6 v w = 0
  d0 : DI a1 a2 a3 a4 a6 ≠ 0
def lowI (a1 a2 a3 x y : Int) : Int := y * y + a1 * x * y + a3 * y - x * x * x - a2 * x * x
theorem mab {a b : Int} {k l : Nat} (h1 : a.natAbs ≤ k) (h2 : b.natAbs ≤ l) : (a * b).natAbs ≤ k * l := by
  rw [Int.natAbs_mul]
  exact Nat.mul_le_mul h1 h2
theorem lowI_b {a1 a2 a3 x y : Int} (h1 : a1.natAbs ≤ 9) (h2 : a2.natAbs ≤ 9) (h3 : a3.natAbs ≤ 9) (hx : x.natAbs ≤ 10) (hy : y.natAbs ≤ 9) : (lowI a1 a2 a3 x y).natAbs ≤ 3000 := by
  have t1 := mab hy hy
  have t2 := mab (mab h1 hx) hy
  have t3 := mab h3 hy
  have t4 := mab (mab hx hx) hx
  have t5 := mab (mab h2 hx) hx
  unfold lowI
  omega
theorem Llow_ok {a1 a2 a3 x y : Int} (h1 : a1.natAbs ≤ 9) (h2 : a2.natAbs ≤ 9) (h3 : a3.natAbs ≤ 9) (hx : x.natAbs ≤ 10) (hy : y.natAbs ≤ 9) (s : S) : m_Llow [.p (.tup [.int a1, .int a2, .int a3]), .p (.int x), .p (.int y)] s = .ok (.p (.int (lowI a1 a2 a3 x y))) s := by
  have kx : ∀ i, mulOk i x := fun i => mulS (by omega) (by omega)
  have ky : ∀ i, mulOk i y := fun i => mulS (by omega) (by omega)
  have i0 : L2.atI [P.int a1, .int a2, .int a3] 0 = some (.int a1) := rfl
  have i1 : L2.atI [P.int a1, .int a2, .int a3] 1 = some (.int a2) := rfl
  have i2 : L2.atI [P.int a1, .int a2, .int a3] 2 = some (.int a3) := rfl
  unfold lowI
  simp [m_Llow, defM_if, B_Llow, i0, i1, i2, kx, ky]
/-- some state of the draws -/
def Drw (pre : S) (cs : List Int) (post s : S) : Prop := ∃ (t d : Int) (gs : List Int), s = rS pre (cs.map .int) t d (gs.map .int) post
theorem Drw.next {pre post s : S} {cs : List Int} (hc : cs ≠ []) (h : Drw pre cs post s) {many : Int} (hm : 0 < many) (hs : many ≤ 100000) : ∃ (v : Int) (s' : S), 0 ≤ v ∧ v < many ∧ Drw pre cs post s' ∧ m_Lnext [.obj (pre.length + 1), .p (.int many)] s = .ok (.p (.int v)) s' := by
  obtain ⟨t, d, gs, rfl⟩ := h
  obtain ⟨v, t', d', gs', v0, v1, e⟩ := Lnext_ok pre post cs hc t d many gs hm ((sz60 (by omega) hs).mono (by decide))
  exact ⟨v, _, v0, v1, ⟨t', d', gs', rfl⟩, e⟩
theorem ys3 {Q : P → Prop} {ys : List P} (hl : ys.length = 3) (h : ∀ y ∈ ys, ∃ i : Int, y = .int i ∧ i.natAbs ≤ 9) : ∃ a b c : Int, ys = [.int a, .int b, .int c] ∧ a.natAbs ≤ 9 ∧ b.natAbs ≤ 9 ∧ c.natAbs ≤ 9 := by
  match ys, hl with
  | [p, q, r], _ =>
    obtain ⟨a, rfl, ha⟩ := h p (by simp)
    obtain ⟨b, rfl, hb⟩ := h q (by simp)
    obtain ⟨c, rfl, hc⟩ := h r (by simp)
    exact ⟨a, b, c, rfl, ha, hb, hc⟩
section
variable {pre post : S} {cs : List Int}
noncomputable abbrev C3 : EF := lcE true (r1I [cE (.int 3)]) [4] (setG 4) yesT (op2 subD (calE m_Lnext [vE 0, op2 (addD true) (op2 (mulD true) (cE (.int 2)) (vE 1)) (cE (.int 1))]) (vE 1))
theorem C3_ok (hc : cs ≠ []) {s : S} (h : Drw pre cs post s) {z : Int} (hz : z = 2 ∨ z = 6) (x2 x3 x4 x5 x6 x7 x8 x9 x10 x11 x12 : Option D) : ∃ (a b c : Int) (s' : S), a.natAbs ≤ 9 ∧ b.natAbs ≤ 9 ∧ c.natAbs ≤ 9 ∧ Drw pre cs post s' ∧
    C3 [some (.obj (pre.length + 1)), some (.p (.int z)), x2, x3, x4, x5, x6, x7, x8, x9, x10, x11, x12] s = .ok (.p (.lst [.int a, .int b, .int c])) s' := by
  have hi : r1I [cE (.int 3)] [some (.obj (pre.length + 1)), some (.p (.int z)), x2, x3, x4, x5, x6, x7, x8, x9, x10, x11, x12] s = .ok (ranP 0 3, []) s := r1_ev _ _ _ 3 _ rfl (by decide) (by decide)
  have hlen : (ranP 0 3).length = 3 := by simp [ranP]
  have kz : ∀ i, mulOk i z := fun i => mulS (by omega) (by omega)
  obtain ⟨ys, s', e1, i1, l1, q1⟩ := lcL_cnt (own := [4]) (tg := setG 4) (m := op2 subD (calE m_Lnext [vE 0, op2 (addD true) (op2 (mulD true) (cE (.int 2)) (vE 1)) (cE (.int 1))]) (vE 1)) (ρ := [some (.obj (pre.length + 1)), some (.p (.int z)), x2, x3, x4, x5, x6, x7, x8, x9, x10, x11, x12]) 3
    (fun n s => Drw pre cs post s) (fun y => ∃ i : Int, y = .int i ∧ i.natAbs ≤ 9) (xs := ranP 0 3) (n := 0) (s := s) (by rw [hlen]; omega) h (fun x _ n s hn h => by
      obtain ⟨v, s2, v0, v1, h2, e⟩ := h.next hc (many := 2 * z + 1) (by omega) (by omega)
      refine ⟨_, .int (v - z), s2, rfl, ?_, ⟨_, rfl, by omega⟩, h2⟩
      show op2 subD (calE m_Lnext [vE 0, op2 (addD true) (op2 (mulD true) (cE (.int 2)) (vE 1)) (cE (.int 1))]) (vE 1) [some (.obj (pre.length + 1)), some (.p (.int z)), x2, x3, some (.p x), x5, x6, x7, x8, x9, x10, x11, x12] s = _
      simp [e, kz])
  rw [hlen] at l1
  obtain ⟨a, b, c, rfl, ha, hb, hc'⟩ := ys3 (Q := fun _ => True) l1 q1
  refine ⟨a, b, c, s', ha, hb, hc', i1, ?_⟩
  show lcE _ _ _ _ _ _ _ _ = _
  rw [lcE_ev, hi, R.bind_ok]
  dsimp only
  rw [if_pos (by rw [hlen, sizeLine_eq]; omega), e1, R.bind_ok, mkL_true]
end
theorem szi_ab {i : Int} {b : Nat} (h : i.natAbs < 2 ^ b) : szi i b := h
theorem Thr.sz {a1 a2 a3 a4 a6 x y v w : Int} (t : Thr a1 a2 a3 a4 a6 x y v w) : szi a1 20 ∧ szi a2 20 ∧ szi a3 20 ∧ szi a4 20 ∧ szi a6 20 := by
  have e : (2 : Nat) ^ 20 = 1048576 := by decide
  have := t.b1
  have := t.b2
  have := t.b3
  have := t.b4
  have := t.b6
  refine ⟨?_, ?_, ?_, ?_, ?_⟩ <;> (unfold szi; rw [e]; omega)
section
variable {pre post : S} {cs : List Int}
noncomputable abbrev BT : SF := (seqF (asgF ((calE tupD [C3])) (setG 3)) (seqF (asgF C3 (tupG 3 (consG (setG 5) (consG (setG 6) (consG (setG 7) nilG))))) (seqF (asgF ((op2 (addD true) (vE 5) ((op2 ixD ((lstE [cE (.int 1), (op2 (subD) (cE (.int 0)) (cE (.int 1)))])) ((calE m_Lnext [vE 0, cE (.int 2)])))))) (setG 8)) (seqF (parF 9 10 [(calE m_Llow [vE 3, vE 5, vE 6]), (calE m_Llow [vE 3, vE 8, vE 7])]) (seqF (asgF ((op2 (mulD true) ((op2 (subD) (vE 9) (vE 10))) ((op2 (subD) (vE 5) (vE 8))))) (setG 11)) (seqF (asgF ((op2 (addD true) (vE 3) ((tupE [vE 11, (op2 (subD) (vE 9) ((op2 (mulD true) (vE 11) (vE 5))))])))) (setG 12)) (iffF (tB (op2 (eqD true) ((calE m_Ld [vE 12])) (cE (.int 0)))) (retF ((tupE [vE 12, (lstE [(tupE [vE 5, vE 6]), (tupE [vE 8, vE 7])])]))) nopF)))))))
theorem BT_ok (hc : cs ≠ []) {s : S} (h : Drw pre cs post s) {z : Int} (hz : z = 2 ∨ z = 6) (x2 x3 x4 x5 x6 x7 x8 x9 x10 x11 x12 : Option D) :
    (∃ (y3 y5 y6 y7 y8 y9 y10 y11 y12 : Option D) (s' : S), Drw pre cs post s' ∧ BT [some (.obj (pre.length + 1)), some (.p (.int z)), x2, x3, x4, x5, x6, x7, x8, x9, x10, x11, x12] s = .ok (.nx [some (.obj (pre.length + 1)), some (.p (.int z)), x2, y3, x4, y5, y6, y7, y8, y9, y10, y11, y12]) s') ∨
    ∃ (a1 a2 a3 a4 a6 x y v w : Int) (s' : S), Thr a1 a2 a3 a4 a6 x y v w ∧ Drw pre cs post s' ∧ BT [some (.obj (pre.length + 1)), some (.p (.int z)), x2, x3, x4, x5, x6, x7, x8, x9, x10, x11, x12] s = .ok (.rt (.p (.tup [fv a1 a2 a3 a4 a6, .lst [.tup [.int x, .int y], .tup [.int v, .int w]]]))) s' := by
  obtain ⟨a1, a2, a3, s1, g1, g2, g3, h1, e1⟩ := C3_ok hc h hz x2 x3 x4 x5 x6 x7 x8 x9 x10 x11 x12
  have A1 : asgF (calE tupD [C3]) (setG 3) [some (.obj (pre.length + 1)), some (.p (.int z)), x2, x3, x4, x5, x6, x7, x8, x9, x10, x11, x12] s = .ok (.nx [some (.obj (pre.length + 1)), some (.p (.int z)), x2, some (.p (.tup [.int a1, .int a2, .int a3])), x4, x5, x6, x7, x8, x9, x10, x11, x12]) s1 := by
    have ev : calE tupD [C3] [some (.obj (pre.length + 1)), some (.p (.int z)), x2, x3, x4, x5, x6, x7, x8, x9, x10, x11, x12] s = .ok (.p (.tup [.int a1, .int a2, .int a3])) s1 := by
      rw [calE_ev, evA_cons, e1, R.bind_ok, evA_nil, R.bind_ok, R.bind_ok]
      rfl
    rw [asgF_ev, ev, R.bind_ok]
    rfl
  obtain ⟨x, y, w, s2, g4, g5, g6, h2, e2⟩ := C3_ok hc h1 hz x2 (some (.p (.tup [.int a1, .int a2, .int a3]))) x4 x5 x6 x7 x8 x9 x10 x11 x12
  have A2 : asgF C3 (tupG 3 (consG (setG 5) (consG (setG 6) (consG (setG 7) nilG)))) [some (.obj (pre.length + 1)), some (.p (.int z)), x2, some (.p (.tup [.int a1, .int a2, .int a3])), x4, x5, x6, x7, x8, x9, x10, x11, x12] s1 = .ok (.nx [some (.obj (pre.length + 1)), some (.p (.int z)), x2, some (.p (.tup [.int a1, .int a2, .int a3])), x4, some (.p (.int x)), some (.p (.int y)), some (.p (.int w)), x8, x9, x10, x11, x12]) s2 := by
    rw [asgF_ev, e2, R.bind_ok]
    simp
  obtain ⟨k, s3, k0, k1, h3, e3⟩ := h2.next hc (many := 2) (by decide) (by decide)
  obtain ⟨u, hu, hix⟩ : ∃ u : Int, (u = 1 ∨ u = -1) ∧ L2.atI [P.int 1, .int (-1)] k = some (.int u) := by
    have : k = 0 ∨ k = 1 := by omega
    rcases this with rfl | rfl
    · exact ⟨1, .inl rfl, rfl⟩
    · exact ⟨-1, .inr rfl, rfl⟩
  have A3 : asgF (op2 (addD true) (vE 5) (op2 ixD (lstE [cE (.int 1), op2 subD (cE (.int 0)) (cE (.int 1))]) (calE m_Lnext [vE 0, cE (.int 2)]))) (setG 8) [some (.obj (pre.length + 1)), some (.p (.int z)), x2, some (.p (.tup [.int a1, .int a2, .int a3])), x4, some (.p (.int x)), some (.p (.int y)), some (.p (.int w)), x8, x9, x10, x11, x12] s2 = .ok (.nx [some (.obj (pre.length + 1)), some (.p (.int z)), x2, some (.p (.tup [.int a1, .int a2, .int a3])), x4, some (.p (.int x)), some (.p (.int y)), some (.p (.int w)), some (.p (.int (x + u))), x9, x10, x11, x12]) s3 := by
    simp [e3, hix, sizeLine_eq]
  have hv : (x + u).natAbs ≤ 10 := by omega
  have l1 := fun s => Llow_ok (x := x) (y := y) g1 g2 g3 (by omega) g5 s
  have l2 := fun s => Llow_ok (x := x + u) (y := w) g1 g2 g3 hv g6 s
  have lb1 := lowI_b (x := x) (y := y) g1 g2 g3 (by omega) g5
  have lb2 := lowI_b (x := x + u) (y := w) g1 g2 g3 hv g6
  have A4 : parF 9 10 [calE m_Llow [vE 3, vE 5, vE 6], calE m_Llow [vE 3, vE 8, vE 7]] [some (.obj (pre.length + 1)), some (.p (.int z)), x2, some (.p (.tup [.int a1, .int a2, .int a3])), x4, some (.p (.int x)), some (.p (.int y)), some (.p (.int w)), some (.p (.int (x + u))), x9, x10, x11, x12] s3 = .ok (.nx [some (.obj (pre.length + 1)), some (.p (.int z)), x2, some (.p (.tup [.int a1, .int a2, .int a3])), x4, some (.p (.int x)), some (.p (.int y)), some (.p (.int w)), some (.p (.int (x + u))), some (.p (.int (lowI a1 a2 a3 x y))), some (.p (.int (lowI a1 a2 a3 (x + u) w))), x11, x12]) s3 := by
    generalize P.tup [P.int a1, .int a2, .int a3] = T at *
    simp [l1, l2]
  have ho1 : lowI a1 a2 a3 x y = y * y + a1 * x * y + a3 * y - x * x * x - a2 * x * x := rfl
  have ho2 : lowI a1 a2 a3 (x + u) w = w * w + a1 * (x + u) * w + a3 * w - (x + u) * (x + u) * (x + u) - a2 * (x + u) * (x + u) := rfl
  generalize lowI a1 a2 a3 x y = L at *
  generalize lowI a1 a2 a3 (x + u) w = M at *
  obtain ⟨A4v, hA4⟩ : ∃ q : Int, q = (L - M) * (x - (x + u)) := ⟨_, rfl⟩
  have b4 : A4v.natAbs ≤ 7000 := by
    rw [hA4]
    have := mab (a := L - M) (b := x - (x + u)) (k := 6000) (l := 1) (by omega) (by omega)
    omega
  obtain ⟨A6v, hA6⟩ : ∃ q : Int, q = L - A4v * x := ⟨_, rfl⟩
  have b6 : A6v.natAbs ≤ 80000 := by
    rw [hA6]
    have := mab b4 g4
    omega
  have kd : ∀ i, mulOk i (x - (x + u)) := fun i => mulS (by omega) (by omega)
  have kx : ∀ i, mulOk i x := fun i => mulS (by omega) (by omega)
  have A5 : asgF (op2 (mulD true) (op2 subD (vE 9) (vE 10)) (op2 subD (vE 5) (vE 8))) (setG 11) [some (.obj (pre.length + 1)), some (.p (.int z)), x2, some (.p (.tup [.int a1, .int a2, .int a3])), x4, some (.p (.int x)), some (.p (.int y)), some (.p (.int w)), some (.p (.int (x + u))), some (.p (.int L)), some (.p (.int M)), x11, x12] s3 = .ok (.nx [some (.obj (pre.length + 1)), some (.p (.int z)), x2, some (.p (.tup [.int a1, .int a2, .int a3])), x4, some (.p (.int x)), some (.p (.int y)), some (.p (.int w)), some (.p (.int (x + u))), some (.p (.int L)), some (.p (.int M)), some (.p (.int A4v)), x12]) s3 := by
    rw [hA4]
    clear A1 A2 A3 A4 e1 e2 l1 l2 lb1 lb2 ho1 ho2 hA6 b6 b4 hA4
    generalize x + u = v at *
    simp [kd]
  have A6 : asgF (op2 (addD true) (vE 3) (tupE [vE 11, op2 subD (vE 9) (op2 (mulD true) (vE 11) (vE 5))])) (setG 12) [some (.obj (pre.length + 1)), some (.p (.int z)), x2, some (.p (.tup [.int a1, .int a2, .int a3])), x4, some (.p (.int x)), some (.p (.int y)), some (.p (.int w)), some (.p (.int (x + u))), some (.p (.int L)), some (.p (.int M)), some (.p (.int A4v)), x12] s3 = .ok (.nx [some (.obj (pre.length + 1)), some (.p (.int z)), x2, some (.p (.tup [.int a1, .int a2, .int a3])), x4, some (.p (.int x)), some (.p (.int y)), some (.p (.int w)), some (.p (.int (x + u))), some (.p (.int L)), some (.p (.int M)), some (.p (.int A4v)), some (.p (fv a1 a2 a3 A4v A6v))]) s3 := by
    rw [hA6]
    have ta : ∀ (q r : Int) s, addD true (.p (.tup [.int a1, .int a2, .int a3])) (.p (.tup [.int q, .int r])) s = .ok (.p (fv a1 a2 a3 q r)) s := fun q r s => by
      rw [add_tt, if_pos (by rw [sizeLine_eq]; simp)]
      rfl
    generalize P.tup [P.int a1, .int a2, .int a3] = T at *
    simp [kx, ta, sizeLine_eq]
  have ld := fun s => Ld_ok (a1 := a1) (a2 := a2) (a3 := a3) (a4 := A4v) (a6 := A6v) (szi_ab (by omega)) (szi_ab (by omega)) (szi_ab (by omega)) (szi_ab (by omega)) (szi_ab (by omega)) s
  by_cases hd : DI a1 a2 a3 A4v A6v = 0
  · left
    have A7 : iffF (tB (op2 (eqD true) (calE m_Ld [vE 12]) (cE (.int 0)))) (retF (tupE [vE 12, lstE [tupE [vE 5, vE 6], tupE [vE 8, vE 7]]])) nopF [some (.obj (pre.length + 1)), some (.p (.int z)), x2, some (.p (.tup [.int a1, .int a2, .int a3])), x4, some (.p (.int x)), some (.p (.int y)), some (.p (.int w)), some (.p (.int (x + u))), some (.p (.int L)), some (.p (.int M)), some (.p (.int A4v)), some (.p (fv a1 a2 a3 A4v A6v))] s3 = .ok (.nx [some (.obj (pre.length + 1)), some (.p (.int z)), x2, some (.p (.tup [.int a1, .int a2, .int a3])), x4, some (.p (.int x)), some (.p (.int y)), some (.p (.int w)), some (.p (.int (x + u))), some (.p (.int L)), some (.p (.int M)), some (.p (.int A4v)), some (.p (fv a1 a2 a3 A4v A6v))]) s3 := by
      generalize fv a1 a2 a3 A4v A6v = V at *
      simp [ld, hd]
    exact ⟨_, _, _, _, _, _, _, _, _, s3, h3, by
      show seqF _ _ _ _ = _
      rw [seqF_ok A1, seqF_ok A2, seqF_ok A3, seqF_ok A4, seqF_ok A5, seqF_ok A6, A7]⟩
  · right
    have uu : u * u = 1 := by rcases hu with rfl | rfl <;> rfl
    refine ⟨a1, a2, a3, A4v, A6v, x, y, x + u, w, s3, ⟨g1, g2, g3, b4, b6, by omega, by omega, hv, by omega, ?_, ?_, hd⟩, h3, ?_⟩
    · unfold vlz
      rw [hA6, ho1]
      grind
    · unfold vlz
      have e4 : A4v = -(L - M) * u := by rw [hA4]; grind
      have e5 : A4v * u = -(L - M) := by
        rw [e4, Int.mul_assoc, uu, Int.mul_one]
      rw [hA6]
      have : A4v * (x + u) = A4v * x + A4v * u := by rw [Int.mul_add]
      rw [this, e5]
      omega
    · show seqF _ _ _ _ = _
      rw [seqF_ok A1, seqF_ok A2, seqF_ok A3, seqF_ok A4, seqF_ok A5, seqF_ok A6]
      generalize fv a1 a2 a3 A4v A6v = V at *
      generalize x + u = v at *
      simp [ld, hd, sizeLine_eq]
theorem thr_last : Thr 0 0 1 (-1) 0 0 0 1 0 := ⟨by decide, by decide, by decide, by decide, by decide, by decide, by decide, by decide, by decide, by decide, by decide, by decide⟩
theorem Lthrough_ok (hc : cs ≠ []) {s : S} (h : Drw pre cs post s) {z : Int} (hz : z = 2 ∨ z = 6) : ∃ (a1 a2 a3 a4 a6 x y v w : Int) (s' : S), Thr a1 a2 a3 a4 a6 x y v w ∧ Drw pre cs post s' ∧ m_Lthrough [.obj (pre.length + 1), .p (.int z)] s = .ok (.p (.tup [fv a1 a2 a3 a4 a6, .lst [.tup [.int x, .int y], .tup [.int v, .int w]]])) s' := by
  have L := forL_or (tg := setG 2) (f := BT) (fun ρ s => ∃ x2 x3 x4 x5 x6 x7 x8 x9 x10 x11 x12 : Option D, ρ = [some (.obj (pre.length + 1)), some (.p (.int z)), x2, x3, x4, x5, x6, x7, x8, x9, x10, x11, x12] ∧ Drw pre cs post s)
    (fun d s => ∃ (a1 a2 a3 a4 a6 x y v w : Int), d = .p (.tup [fv a1 a2 a3 a4 a6, .lst [.tup [.int x, .int y], .tup [.int v, .int w]]]) ∧ Thr a1 a2 a3 a4 a6 x y v w ∧ Drw pre cs post s)
    (xs := ranP 0 6) (ρ := [some (.obj (pre.length + 1)), some (.p (.int z)), none, none, none, none, none, none, none, none, none, none, none]) (s := s) ⟨_, _, _, _, _, _, _, _, _, _, _, rfl, h⟩ (fun i _ ρ s hI => by
      obtain ⟨x2, x3, x4, x5, x6, x7, x8, x9, x10, x11, x12, rfl, hs⟩ := hI
      refine ⟨[some (.obj (pre.length + 1)), some (.p (.int z)), some (.p i), x3, x4, x5, x6, x7, x8, x9, x10, x11, x12], s, rfl, ?_⟩
      rcases BT_ok hc hs hz (some (.p i)) x3 x4 x5 x6 x7 x8 x9 x10 x11 x12 with ⟨y3, y5, y6, y7, y8, y9, y10, y11, y12, s', h', e⟩ | ⟨a1, a2, a3, a4, a6, x, y, v, w, s', t, h', e⟩
      · exact .inl ⟨_, s', e, _, _, _, _, _, _, _, _, _, _, _, rfl, h'⟩
      · exact .inr ⟨_, s', e, _, _, _, _, _, _, _, _, _, rfl, t, h'⟩)
  have hr : r1I [cE (.int 6)] [some (.obj (pre.length + 1)), some (.p (.int z)), none, none, none, none, none, none, none, none, none, none, none] s = .ok (ranP 0 6, []) s := r1_ev _ _ _ 6 _ rfl (by decide) (by decide)
  have fin_ : ∀ (x : P) (s' : S), Drw pre cs post s' → fin s (.p x) s' = .ok (.p x) s' := by
    intro x s' h'
    obtain ⟨t, d, gs, rfl⟩ := h
    obtain ⟨t', d', gs', rfl⟩ := h'
    exact fin50 ..
  have go : ∀ (x : P) (s' : S), Drw pre cs post s' → B_Lthrough [some (.obj (pre.length + 1)), some (.p (.int z)), none, none, none, none, none, none, none, none, none, none, none] s = .ok (.rt (.p x)) s' → m_Lthrough [.obj (pre.length + 1), .p (.int z)] s = .ok (.p x) s' := by
    intro x s' h' e
    show defM 2 13 B_Lthrough _ s = _
    rw [defM_if, if_pos (show [D.obj (pre.length + 1), D.p (P.int z)].length = 2 from rfl)]
    show R.bind (B_Lthrough [some (.obj (pre.length + 1)), some (.p (.int z)), none, none, none, none, none, none, none, none, none, none, none] s) _ = _
    rw [e, R.bind_ok]
    exact fin_ x s' h'
  rcases L with ⟨ρ', s', g1, x2, x3, x4, x5, x6, x7, x8, x9, x10, x11, x12, rfl, h'⟩ | ⟨d, s', g1, a1, a2, a3, a4, a6, x, y, v, w, rfl, t, h'⟩
  · refine ⟨0, 0, 1, -1, 0, 0, 0, 1, 0, s', thr_last, h', go _ s' h' ?_⟩
    unfold B_Lthrough
    rw [seqF_ok (forF_of hr g1)]
    unfold fv
    simp [sizeLine_eq]
  · refine ⟨a1, a2, a3, a4, a6, x, y, v, w, s', t, h', go _ s' h' ?_⟩
    unfold B_Lthrough
    rw [seqF_ev, forF_of hr g1]
    rfl
end
def insT (x : List Int) : List (List Int) → List (List Int)
  | [] => [x]
  | y :: l => if lexLe x y = true then x :: y :: l else y :: insT x l
def srtI : List (List Int) → List (List Int)
  | [] => []
  | x :: l => insT x (srtI l)
theorem insT_perm (x : List Int) : ∀ l, (insT x l).Perm (x :: l)
  | [] => .refl _
  | y :: l => by
    unfold insT
    split
    · exact .refl _
    · exact ((insT_perm x l).cons y).trans (.swap x y l)
theorem srtI_perm : ∀ l, (srtI l).Perm l
  | [] => .refl _
  | x :: l => (insT_perm x (srtI l)).trans ((srtI_perm l).cons x)
theorem insT_pw (x : List Int) : ∀ l : List (List Int), l.Pairwise (fun x y => HT.lexLt y x = false) → (insT x l).Pairwise (fun x y => HT.lexLt y x = false)
  | [], _ => List.pairwise_singleton _ _
  | y :: l, h => by
    have O := NtL.swo_lexL (fun x : List Int => x)
    obtain ⟨h1, h2⟩ := List.pairwise_cons.mp h
    unfold insT
    split
    · rename_i e
      have e' : HT.lexLt y x = false := by unfold lexLe at e; simpa using e
      refine List.pairwise_cons.mpr ⟨fun z hz => ?_, h⟩
      rcases List.mem_cons.mp hz with q | q
      · rw [q]
        exact e'
      · exact O.tr _ _ _ e' (h1 z q)
    · rename_i e
      have e' : HT.lexLt y x = true := by unfold lexLe at e; simpa using e
      refine List.pairwise_cons.mpr ⟨fun z hz => ?_, insT_pw x l h2⟩
      rcases List.mem_cons.mp ((insT_perm x l).mem_iff.mp hz) with q | q
      · rw [q]
        exact O.asym _ _ e'
      · exact h1 z q
theorem srtI_pw : ∀ l, (srtI l).Pairwise (fun x y => HT.lexLt y x = false)
  | [] => .nil
  | x :: l => insT_pw x _ (srtI_pw l)
theorem srtT_I {l : List (List Int)} (hn : ∀ is ∈ l, is ≠ []) (s : S) : srtT true [.p (.lst (l.map tiP))] s = .ok (.p (.lst ((srtI l).map tiP))) s := srtT_ev hn (srtI_perm l) (srtI_pw l)
def rowU (far d : Nat) : List (List Int) := ((List.range (2 * far + 1)).filter fun k : Nat => decide (Int.gcd ((k : Int) - far) d = 1)).map fun k : Nat => [((k : Int) - far) * (129859329600 / ((d : Int) * d)), (k : Int) - far, (d : Int)]
def trU (far : Nat) : List (List Int) := (List.range' 1 14).flatMap fun d => if d * d ≤ far then rowU far d else []
def two : List Int → Int × Int
  | [_, a, b] => (a, b)
  | _ => (0, 0)
def prU (far : Nat) : List (Int × Int) := (srtI (trU far)).map two
theorem rows_c4 : ∀ far ∈ List.range' 1 12, ∀ p ∈ prU far, p.1.natAbs ≤ 12 ∧ (p.2 = 1 ∨ p.2 = 2 ∨ p.2 = 3) ∧ Int.gcd p.1 p.2 = 1 := by decide +kernel
theorem rows_c6 : ∀ far ∈ List.range' 1 12, (prU far).length ≤ 100 := by decide +kernel
theorem rows_c7 : ∀ far ∈ List.range' 1 12, ∀ t ∈ srtI (trU far), t.length = 3 := by decide +kernel
theorem isR_sq {r : Int} (h : 0 ≤ r) : IsR (r * r) r := ⟨h, Int.le_refl _, by have : (r + 1) * (r + 1) = r * r + (2 * r + 1) := by grind
                                                                              omega⟩
theorem rootP_int {n r : Int} (h0 : 0 ≤ r) (h : r * r = n) : rootP n = .int r := by
  rw [← h, rootP_is (isR_sq h0), if_pos rfl]
theorem rootP_none {n : Int} (h : ∀ r : Int, r * r ≠ n) : rootP n = .non := by
  unfold rootP
  rw [dif_neg]
  rintro ⟨r, _, e⟩
  exact h r e
theorem rootP_two (n : Int) : (∃ r : Int, 0 ≤ r ∧ r * r = n ∧ rootP n = .int r) ∨ ((∀ r : Int, r * r ≠ n) ∧ rootP n = .non) := by
  by_cases h : ∃ r : Int, r * r = n
  · obtain ⟨r, e⟩ := h
    refine .inl ⟨(r.natAbs : Int), by omega, ?_, ?_⟩
    · rw [← e]
      exact Int.natAbs_mul_self
    · exact rootP_int (by omega) (by rw [← e]; exact Int.natAbs_mul_self)
  · have h' : ∀ r : Int, r * r ≠ n := fun r e => h ⟨r, e⟩
    exact .inr ⟨h', rootP_none h'⟩
theorem pm3 : Pm 3 := ⟨by decide, fun d h1 h2 => by
  have := Int.le_of_dvd (by decide) h2
  have : d = 1 ∨ d = 2 ∨ d = 3 := by omega
  rcases this with rfl | rfl | rfl
  · exact .inl rfl
  · exact absurd h2 (by decide)
  · exact .inr rfl⟩
theorem pm5 : Pm 5 := ⟨by decide, fun d h1 h2 => by
  have := Int.le_of_dvd (by decide) h2
  have : d = 1 ∨ d = 2 ∨ d = 3 ∨ d = 4 ∨ d = 5 := by omega
  rcases this with rfl | rfl | rfl | rfl | rfl
  · exact .inl rfl
  · exact absurd h2 (by decide)
  · exact absurd h2 (by decide)
  · exact absurd h2 (by decide)
  · exact .inr rfl⟩
theorem pm7 : Pm 7 := ⟨by decide, fun d h1 h2 => by
  have := Int.le_of_dvd (by decide) h2
  have : d = 1 ∨ d = 2 ∨ d = 3 ∨ d = 4 ∨ d = 5 ∨ d = 6 ∨ d = 7 := by omega
  rcases this with rfl | rfl | rfl | rfl | rfl | rfl | rfl
  · exact .inl rfl
  · exact absurd h2 (by decide)
  · exact absurd h2 (by decide)
  · exact absurd h2 (by decide)
  · exact absurd h2 (by decide)
  · exact absurd h2 (by decide)
  · exact .inr rfl⟩
theorem pm11 : Pm 11 := ⟨by decide, fun d h1 h2 => by
  have := Int.le_of_dvd (by decide) h2
  have : d = 1 ∨ d = 2 ∨ d = 3 ∨ d = 4 ∨ d = 5 ∨ d = 6 ∨ d = 7 ∨ d = 8 ∨ d = 9 ∨ d = 10 ∨ d = 11 := by omega
  rcases this with rfl | rfl | rfl | rfl | rfl | rfl | rfl | rfl | rfl | rfl | rfl
  · exact .inl rfl
  · exact absurd h2 (by decide)
  · exact absurd h2 (by decide)
  · exact absurd h2 (by decide)
  · exact absurd h2 (by decide)
  · exact absurd h2 (by decide)
  · exact absurd h2 (by decide)
  · exact absurd h2 (by decide)
  · exact absurd h2 (by decide)
  · exact absurd h2 (by decide)
  · exact .inr rfl⟩
theorem pm2 : Pm 2 := ⟨by decide, fun d h1 h2 => by
  have := Int.le_of_dvd (by decide) h2
  have : d = 1 ∨ d = 2 := by omega
  exact this⟩
section
variable (a1 a2 a3 a4 a6 : Int)
def bb2 : Int := a1 * a1 + 4 * a2
def bb4 : Int := 2 * a4 + a1 * a3
def bb6 : Int := a3 * a3 + 4 * a6
def innL (a b : Int) : Int := 4 * a * a * a + bb2 a1 a2 * a * a * b + 2 * bb4 a1 a3 a4 * a * b * b + bb6 a3 a6 * b * b * b
def innI (a d : Int) : Int := 4 * a ^ 3 + bb2 a1 a2 * a * a * d ^ 2 + 2 * bb4 a1 a3 a4 * a * d ^ 4 + bb6 a3 a6 * d ^ 6
def midI (a d : Int) : Int := a1 * a * d + a3 * d ^ 3
def topsI (h m : Int) : List Int := if h = 0 then [h - m] else [-h - m, h - m]
noncomputable def pairP (a b t u : Int) : P := .tup [fq (Rat.divInt a b), fq (Rat.divInt t u)]
noncomputable def ptsI (a d : Int) : List P := match rootP (innI a1 a2 a3 a4 a6 a d) with
  | .int h => (topsI h (midI a1 a3 a d)).map fun t => pairP a (d * d) t (2 * d ^ 3)
  | _ => []
end
section
variable {a1 a2 a3 a4 a6 : Int}
theorem inn_sq (a d : Int) : innL a1 a2 a3 a4 a6 a (d * d) = innI a1 a2 a3 a4 a6 a d := by
  unfold innL innI
  grind
/-- p goes once into b: no square -/
theorem no_sq {p c a Y r : Int} (hp : Pm p) (hc : ¬ p ∣ 4 * c) (ha : ¬ p ∣ a) (e : r * r = p * c * (4 * (a * a * a)) + p * p * Y) : False := by
  have h1 : p ∣ r * r := by
    rw [e]
    exact Int.dvd_add (Int.dvd_mul_of_dvd_left (Int.dvd_mul_right ..)) (Int.dvd_mul_of_dvd_left (Int.dvd_mul_right ..))
  have hr : p ∣ r := by rcases hp.mul h1 with z | z <;> exact z
  obtain ⟨t, rfl⟩ := hr
  have p0 : p ≠ 0 := by have := hp.1; omega
  have e2 : p * (p * (t * t)) = p * (c * (4 * (a * a * a)) + p * Y) := by
    rw [show p * (p * (t * t)) = p * t * (p * t) by grind, e]
    grind
  have e3 := Int.eq_of_mul_eq_mul_left p0 e2
  have h2 : p ∣ 4 * c * (a * a * a) := ⟨t * t - Y, by
    have : 4 * c * (a * a * a) = c * (4 * (a * a * a)) := by grind
    rw [this]
    have := e3
    grind⟩
  rcases hp.mul h2 with z | z
  · exact hc z
  · rcases hp.mul z with z | z
    · rcases hp.mul z with z | z <;> exact ha z
    · exact ha z
theorem gcd_no {p a b : Int} (hp : Pm p) (hb : p ∣ b) (h : Int.gcd a b = 1) : ¬ p ∣ a := fun ha => by
  have := Int.dvd_coe_gcd ha hb
  rw [h] at this
  have := Int.le_of_dvd (by decide) this
  have := hp.1
  omega
theorem at_no {a b : Int} (hg : Int.gcd a b = 1) (hb : b = 2 ∨ b = 3 ∨ b = 5 ∨ b = 6 ∨ b = 7 ∨ b = 8 ∨ b = 10 ∨ b = 11 ∨ b = 12) : ∀ r : Int, r * r ≠ b * innL a1 a2 a3 a4 a6 a b := by
  intro r e
  have key : ∀ {p c : Int}, Pm p → ¬ p ∣ 4 * c → b = p * c → False := fun {p c} hp hc hb' => by
    subst hb'
    refine no_sq (Y := c * c * (bb2 a1 a2 * a * a + 2 * bb4 a1 a3 a4 * a * (p * c) + bb6 a3 a6 * (p * c) * (p * c))) hp hc (gcd_no hp (Int.dvd_mul_right ..) hg) (e.trans ?_)
    unfold innL
    grind
  have odd : b % 2 = 0 → ∃ k, a = 2 * k + 1 := fun h2 => by
    have := gcd_no pm2 (Int.dvd_of_emod_eq_zero h2) hg
    exact ⟨a / 2, by omega⟩
  rcases hb with rfl | rfl | rfl | rfl | rfl | rfl | rfl | rfl | rfl
  · obtain ⟨k, hk⟩ := odd rfl
    have ev : (2 : Int) ∣ r * r := ⟨innL a1 a2 a3 a4 a6 a 2, e⟩
    obtain ⟨t, rfl⟩ : (2 : Int) ∣ r := by rcases pm2.mul ev with z | z <;> exact z
    have e2 : t * t = 2 * (a * a * a) + bb2 a1 a2 * (a * a) + 4 * (bb4 a1 a3 a4 * a + bb6 a3 a6) := by
      unfold innL at e
      have : 4 * (t * t) = 4 * (2 * (a * a * a) + bb2 a1 a2 * (a * a) + 4 * (bb4 a1 a3 a4 * a + bb6 a3 a6)) := by grind
      omega
    have hA : ∃ q, a * a = 4 * q + 1 := ⟨k * k + k, by rw [hk]; grind⟩
    have hB : ∃ q, a * a * a = 2 * q + 1 := by
      obtain ⟨q, hq⟩ := hA
      exact ⟨4 * q * k + 2 * q + k, by rw [hq, hk]; grind⟩
    have hT : ∃ q, t * t = 4 * q ∨ t * t = 4 * q + 1 := by
      rcases (show t % 2 = 0 ∨ t % 2 = 1 by omega) with z | z
      · exact ⟨(t / 2) * (t / 2), .inl (by have : t = 2 * (t / 2) := by omega
                                           generalize t / 2 = u at *
                                           rw [this]; grind)⟩
      · exact ⟨(t / 2) * (t / 2) + t / 2, .inr (by have : t = 2 * (t / 2) + 1 := by omega
                                                   generalize t / 2 = u at *
                                                   rw [this]; grind)⟩
    have hC : ∃ q, bb2 a1 a2 = 4 * q ∨ bb2 a1 a2 = 4 * q + 1 := by
      unfold bb2
      rcases (show a1 % 2 = 0 ∨ a1 % 2 = 1 by omega) with z | z
      · exact ⟨(a1 / 2) * (a1 / 2) + a2, .inl (by have : a1 = 2 * (a1 / 2) := by omega
                                                  generalize a1 / 2 = u at *
                                                  rw [this]; grind)⟩
      · exact ⟨(a1 / 2) * (a1 / 2) + a1 / 2 + a2, .inr (by have : a1 = 2 * (a1 / 2) + 1 := by omega
                                                           generalize a1 / 2 = u at *
                                                           rw [this]; grind)⟩
    obtain ⟨qa, hA⟩ := hA
    obtain ⟨qb, hB⟩ := hB
    obtain ⟨qt, hT⟩ := hT
    obtain ⟨qc, hC⟩ := hC
    rw [hB, hA] at e2
    generalize bb4 a1 a3 a4 * a + bb6 a3 a6 = Y at e2
    rcases hC with hC | hC
    · rw [hC, show 4 * qc * (4 * qa + 1) = 4 * (qc * (4 * qa + 1)) by grind] at e2
      generalize qc * (4 * qa + 1) = Z at e2
      omega
    · rw [hC, show (4 * qc + 1) * (4 * qa + 1) = 4 * (qc * (4 * qa + 1) + qa) + 1 by grind] at e2
      generalize qc * (4 * qa + 1) + qa = Z at e2
      omega
  · exact key (p := 3) (c := 1) pm3 (by decide) rfl
  · exact key (p := 5) (c := 1) pm5 (by decide) rfl
  · exact key (p := 3) (c := 2) pm3 (by decide) rfl
  · exact key (p := 7) (c := 1) pm7 (by decide) rfl
  · obtain ⟨k, hk⟩ := odd rfl
    have hB : ∃ q, a * a * a = 2 * q + 1 := ⟨4 * k * k * k + 6 * k * k + 3 * k, by rw [hk]; grind⟩
    obtain ⟨qb, hB⟩ := hB
    have e1 : r * r = 32 * (a * a * a) + 64 * (bb2 a1 a2 * (a * a) + 16 * (bb4 a1 a3 a4 * a) + 64 * bb6 a3 a6) := by
      rw [e]
      unfold innL
      grind
    generalize bb2 a1 a2 * (a * a) + 16 * (bb4 a1 a3 a4 * a) + 64 * bb6 a3 a6 = Y at e1
    have half : ∀ {u : Int}, (2 : Int) ∣ u * u → ∃ v, u = 2 * v := fun {u} h => by
      rcases pm2.mul h with z | z <;> exact z
    obtain ⟨u, rfl⟩ := half (u := r) ⟨16 * (a * a * a) + 32 * Y, by omega⟩
    have e2 : u * u = 8 * (a * a * a) + 16 * Y := by
      have : 2 * u * (2 * u) = 4 * (u * u) := by grind
      omega
    obtain ⟨v, rfl⟩ := half (u := u) ⟨4 * (a * a * a) + 8 * Y, by omega⟩
    have e3 : v * v = 2 * (a * a * a) + 4 * Y := by
      have : 2 * v * (2 * v) = 4 * (v * v) := by grind
      omega
    obtain ⟨w, rfl⟩ := half (u := v) ⟨(a * a * a) + 2 * Y, by omega⟩
    have : 2 * w * (2 * w) = 4 * (w * w) := by grind
    omega
  · exact key (p := 5) (c := 2) pm5 (by decide) rfl
  · exact key (p := 11) (c := 1) pm11 (by decide) rfl
  · exact key (p := 3) (c := 4) pm3 (by decide) rfl
theorem dv1 (x : Int) : Rat.divInt x 1 = (x : Rat) := by
  rw [Rat.divInt_eq_div]
  grind
end
theorem Llow_wh5 (s : S) (x y : Option D) : ∀ (n : Nat) (a b : Int), 0 ≤ a → 0 ≤ b → b.toNat < n → szi b 8000 →
   whF (tB (op2 (eqD true) (vE 3) (cE (.int 0)))) (parF 2 3 [vE 3, op2 modD (vE 2) (vE 3)]) [x, y, some (.p (.int a)), some (.p (.int b))] s = .ok (.nx [x, y, some (.p (.int (Int.gcd a b))), some (.p (.int 0))]) s := by
  intro n
  induction n with
  | zero => intro a b _ _ h; omega
  | succ n ih =>
    intro a b ha hb h hz
    rw [whF_ev]
    by_cases h0 : b = 0
    · subst h0
      have : (a.natAbs : Int) = a := by omega
      simp [this]
    · have hp : 0 < b := by omega
      have m0 := Int.fmod_nonneg_of_pos a hp
      have m1 := Int.fmod_lt_of_pos a hp
      have := ih b (a.fmod b) hb m0 (by omega) (Nat.lt_of_le_of_lt (by omega) hz)
      rw [gcd_mod a b h0] at this
      have k : divOk a b := hz.divOk (by decide) (by decide) h0
      simp [h0, k]
      exact this
section
variable {a1 a2 a3 a4 a6 : Int}
/-- sizes -/
structure Sz5 (a1 a2 a3 a4 a6 : Int) : Prop where
  s1 : szi a1 20
  s2 : szi a2 20
  s3 : szi a3 20
  s4 : szi a4 20
  s6 : szi a6 20
theorem Sz5.b2 (h : Sz5 a1 a2 a3 a4 a6) : szi (bb2 a1 a2) 42 := szi.sum (h.s1.mul h.s1) ((show szi 4 3 by decide).mul h.s2)
theorem Sz5.b4 (h : Sz5 a1 a2 a3 a4 a6) : szi (bb4 a1 a3 a4) 42 := szi.sum ((show szi 2 2 by decide).mul h.s4) (h.s1.mul h.s3)
theorem Sz5.b6 (h : Sz5 a1 a2 a3 a4 a6) : szi (bb6 a3 a6) 42 := szi.sum (h.s3.mul h.s3) ((show szi 4 3 by decide).mul h.s6)
theorem Sz5.cv (h : Sz5 a1 a2 a3 a4 a6) : Cv 1 44 (a1 : Rat) a2 a3 a4 a6 := by
  have k : ∀ {i : Int}, szi i 20 → Dg 1 44 1 0 (i : Rat) := fun {i} h => ⟨i, by
    have : ((1 : Int) : Rat) = 1 := rfl
    rw [Rat.pow_one, this, Rat.mul_one], h.mono (by decide)⟩
  exact ⟨by decide, by decide, k h.s1, k h.s2, k h.s3, k h.s4, k h.s6⟩
end
theorem fraction_ok (t b : Int) (hb : b ≠ 0) (hs : szi b 8900) (s : S) : m_fraction [.p (.int t), .p (.int b)] s = .ok (.p (fq (Rat.divInt t b))) s := by
  simp [m_fraction, defM_if, B_fraction, is_number_int, hb, lowest_ok t b s hb hs]
section
variable {a1 a2 a3 a4 a6 a d : Int}
theorem d_bounds (hd : d = 1 ∨ d = 2 ∨ d = 3) : (0 < d * d ∧ d * d ≤ 9) ∧ (0 < d ^ 2 ∧ d ^ 2 ≤ 9) ∧ (0 < d ^ 3 ∧ d ^ 3 ≤ 27) ∧ (0 < d ^ 4 ∧ d ^ 4 ≤ 81) ∧ (0 < d ^ 6 ∧ d ^ 6 ≤ 729) := by
  rcases hd with rfl | rfl | rfl <;> decide
theorem sz_small {i : Int} (h : i.natAbs ≤ 1000000) : szi i 20 := Nat.lt_of_le_of_lt h (by decide)
theorem innI_sz (h : Sz5 a1 a2 a3 a4 a6) (ha : a.natAbs ≤ 12) (hd : d = 1 ∨ d = 2 ∨ d = 3) : szi (innI a1 a2 a3 a4 a6 a d) 300 := by
  obtain ⟨_, e2, _, e4, e6⟩ := d_bounds hd
  have sa : szi a 4 := Nat.lt_of_le_of_lt ha (by decide)
  have t1 : szi (4 * a ^ 3) 16 := ((show szi 4 3 by decide).mul (szi_pow sa 3)).mono (by omega)
  have t2 : szi (bb2 a1 a2 * a * a * d ^ 2) 70 := (((h.b2.mul sa).mul sa).mul (sz_small (i := d ^ 2) (by omega))).mono (by omega)
  have t3 : szi (2 * bb4 a1 a3 a4 * a * d ^ 4) 70 := ((((show szi 2 2 by decide).mul h.b4).mul sa).mul (sz_small (i := d ^ 4) (by omega))).mono (by omega)
  have t4 : szi (bb6 a3 a6 * d ^ 6) 70 := (h.b6.mul (sz_small (i := d ^ 6) (by omega))).mono (by omega)
  have u : szi (innI a1 a2 a3 a4 a6 a d) 73 := szi.sum (szi.sum (szi.sum t1 t2 (c := 71)) t3 (c := 72)) t4
  exact u.mono (by omega)
noncomputable abbrev LCP : EF := (lcE true (rowI (vE 14)) [15] (setG 15) yesT ((tupE [(kwE m_fraction gw_fraction_0 [vE 2, (op2 (mulD true) (vE 3) (vE 3))] []), (kwE m_fraction gw_fraction_0 [vE 15, (op2 (mulD true) (cE (.int 2)) ((op2 (powD) (vE 3) (cE (.int 3)))))] [])])))
theorem lc_pts (hd : d = 1 ∨ d = 2 ∨ d = 3) (ts : List Int) (hl : ts.length ≤ 10) (x0 x1 x4 x5 x6 x7 x8 x9 x10 x11 x12 x13 x15 : Option D) (s : S) :
    LCP [x0, x1, some (.p (.int a)), some (.p (.int d)), x4, x5, x6, x7, x8, x9, x10, x11, x12, x13, some (.p (.lst (ts.map P.int))), x15] s = .ok (.p (.lst (ts.map fun t => pairP a (d * d) t (2 * d ^ 3)))) s := by
  obtain ⟨e1, _, e3, _, _⟩ := d_bounds hd
  have kd : mulOk d d := mulS (by omega) (by omega)
  have k3 : mulOk 2 (d ^ 3) := mulT (by omega) (by omega)
  have p3 : powOk d 3 := ⟨by decide, by decide, by omega⟩
  have f1 := fun s => fraction_ok a (d * d) (by omega) ((sz_small (by omega)).mono (by decide)) s
  have f2 := fun t s => fraction_ok t (2 * d ^ 3) (by omega) ((sz_small (by omega)).mono (by decide)) s
  show lcE _ _ _ _ _ _ _ _ = _
  rw [lcE_all (F := fun x => [x0, x1, some (.p (.int a)), some (.p (.int d)), x4, x5, x6, x7, x8, x9, x10, x11, x12, x13, some (.p (.lst (ts.map P.int))), some (.p x)]) (f := fun x => match x with
    | .int t => pairP a (d * d) t (2 * d ^ 3)
    | _ => .non) (xs := ts.map P.int) (s1 := s) (rowI_lst rfl) (by rw [List.length_map, sizeLine_eq]; omega)
    (fun x hx => by
      obtain ⟨t, _, rfl⟩ := List.mem_map.mp hx
      refine ⟨rfl, ?_⟩
      unfold pairP
      generalize ts.map P.int = L at *
      simp [kd, k3, p3, f1, f2, tupk])]
  rw [mkL_true, List.map_map]
  rfl
theorem points_at_ok (h : Sz5 a1 a2 a3 a4 a6) (ha : a.natAbs ≤ 12) (hd : d = 1 ∨ d = 2 ∨ d = 3) (s : S) :
    m_points_at [.p (fv a1 a2 a3 a4 a6), .p (.tup [.int (bb2 a1 a2), .int (bb4 a1 a3 a4), .int (bb6 a3 a6)]), .p (.int a), .p (.int d)] s = .ok (.p (.lst (ptsI a1 a2 a3 a4 a6 a d))) s := by
  obtain ⟨_, e2, e3, e4, e6⟩ := d_bounds hd
  have ka : ∀ i, mulOk i a := fun i => mulS (by omega) (by omega)
  have kd : ∀ i, mulOk i d := fun i => mulS (by omega) (by omega)
  have k2 : ∀ i, mulOk i (d ^ 2) := fun i => mulS (by omega) (by omega)
  have k3 : ∀ i, mulOk i (d ^ 3) := fun i => mulS (by omega) (by omega)
  have k4 : ∀ i, mulOk i (d ^ 4) := fun i => mulS (by omega) (by omega)
  have k6 : ∀ i, mulOk i (d ^ 6) := fun i => mulS (by omega) (by omega)
  have l4 : ∀ i, mulOk 4 i := fun i => mulT (by omega) (by omega)
  have l2 : ∀ i, mulOk 2 i := fun i => mulT (by omega) (by omega)
  have pa : powOk a 3 := ⟨by decide, by decide, by omega⟩
  have p2 : powOk d 2 := ⟨by decide, by decide, by omega⟩
  have p3 : powOk d 3 := ⟨by decide, by decide, by omega⟩
  have p4 : powOk d 4 := ⟨by decide, by decide, by omega⟩
  have p6 : powOk d 6 := ⟨by decide, by decide, by omega⟩
  have hr := fun s => own_root_ok (innI_sz h ha hd) s
  have hi : innI a1 a2 a3 a4 a6 a d = 4 * a ^ 3 + bb2 a1 a2 * a * a * d ^ 2 + 2 * bb4 a1 a3 a4 * a * d ^ 4 + bb6 a3 a6 * d ^ 6 := rfl
  have hm : midI a1 a3 a d = a1 * a * d + a3 * d ^ 3 := rfl
  unfold fv ptsI
  generalize innI a1 a2 a3 a4 a6 a d = N at *
  generalize midI a1 a3 a d = M at *
  generalize bb2 a1 a2 = B2 at *
  generalize bb4 a1 a3 a4 = B4 at *
  generalize bb6 a3 a6 = B6 at *
  rcases rootP_two N with ⟨r, r0, er, hR⟩ | ⟨h1, hR⟩
  · rw [hR]
    rw [hR] at hr
    dsimp only
    unfold topsI
    by_cases h0 : r = 0
    · have lc := lc_pts (a := a) hd [r - M] (by simp) (some (.p (.tup [.int a1, .int a2, .int a3, .int a4, .int a6]))) (some (.p (.tup [.int B2, .int B4, .int B6]))) (some (.p (.int a1))) (some (.p (.int a2))) (some (.p (.int a3))) (some (.p (.int a4))) (some (.p (.int a6))) (some (.p (.int B2))) (some (.p (.int B4))) (some (.p (.int B6))) (some (.p (.int r))) (some (.p (.int M))) none s
      rw [if_pos h0]
      simp only [List.map_cons, List.map_nil] at lc ⊢
      generalize pairP a (d * d) (r - M) (2 * d ^ 3) = Z at *
      simp [m_points_at, defM_if, B_points_at, pa, p2, p3, p4, p6, ka, kd, k2, k3, k4, k6, l4, l2, ← hi, hr, ← hm, h0, sizeLine_eq]
      rw [h0, Int.zero_sub] at lc
      simp [lc]
    · have lc := lc_pts (a := a) hd [-r - M, r - M] (by simp) (some (.p (.tup [.int a1, .int a2, .int a3, .int a4, .int a6]))) (some (.p (.tup [.int B2, .int B4, .int B6]))) (some (.p (.int a1))) (some (.p (.int a2))) (some (.p (.int a3))) (some (.p (.int a4))) (some (.p (.int a6))) (some (.p (.int B2))) (some (.p (.int B4))) (some (.p (.int B6))) (some (.p (.int r))) (some (.p (.int M))) none s
      rw [if_neg h0]
      simp only [List.map_cons, List.map_nil] at lc ⊢
      generalize pairP a (d * d) (-r - M) (2 * d ^ 3) = Z1 at *
      generalize pairP a (d * d) (r - M) (2 * d ^ 3) = Z at *
      simp [m_points_at, defM_if, B_points_at, pa, p2, p3, p4, p6, ka, kd, k2, k3, k4, k6, l4, l2, ← hi, hr, ← hm, h0, sizeLine_eq]
      simp [lc]
  · rw [hR]
    rw [hR] at hr
    dsimp only
    simp [m_points_at, defM_if, B_points_at, pa, p2, p3, p4, p6, ka, kd, k2, k3, k4, k6, l4, l2, ← hi, hr, ← hm, sizeLine_eq]
end
theorem ext_end (s : S) (xs ys : List P) (h : xs.length + ys.length ≤ sizeLine) : extD (.obj s.length) [.p (.lst ys)] (s ++ [some (.lst xs)]) = .ok (.p .non) (s ++ [some (.lst (xs ++ ys))]) := by
  unfold extD
  dsimp only
  rw [get_end]
  show (match some (some (O.lst xs)), some ys with
    | some (some (.lst xs)), some ys => if xs.length + ys.length ≤ sizeLine then R.ok (D.p .non) ((s ++ [some (O.lst xs)]).set s.length (some (.lst (xs ++ ys)))) else .bad
    | _, _ => .bad) = _
  dsimp only
  rw [if_pos h, set_end]
theorem divisor_ok (a b : Int) (hb : 0 < b) (hs : szi b 8000) (s : S) : m_divisor [.p (.int a), .p (.int b)] s = .ok (.p (.int (Int.gcd a b))) s := by
  have w1 := Llow_wh5 s (some (.p (.int a))) (some (.p (.int b))) _ (a.natAbs) (b.natAbs) (by omega) (by omega) (Nat.lt_succ_self _) (by unfold szi; exact hs)
  have w2 : Int.gcd (a.natAbs : Int) (b.natAbs : Int) = Int.gcd a b := by simp [Int.gcd]
  rw [w2] at w1
  simp [m_divisor, defM_if, B_divisor, w1]
def gK (b : Int) : P → Bool
  | .int a => decide (Int.gcd a b = 1)
  | _ => false
def uF (d : Int) : P → P
  | .int a => tiP [a * (129859329600 / (d * d)), a, d]
  | _ => .non
theorem row_u (far d : Nat) : ((ranP (-(far : Int)) (2 * far + 1)).filter (gK d)).map (uF d) = (rowU far d).map tiP := by
  unfold ranP rowU
  rw [List.filter_map, List.map_map, List.map_map]
  have e : ∀ k : Nat, (-(far : Int) + (k : Nat)) = (k : Int) - far := fun k => by omega
  have h1 : (gK d ∘ fun k : Nat => P.int (-(far : Int) + (k : Nat))) = fun k : Nat => decide (Int.gcd ((k : Int) - far) d = 1) := by
    funext k
    show decide (Int.gcd (-(far : Int) + (k : Nat)) d = 1) = _
    rw [e]
  have h2 : (uF d ∘ fun k : Nat => P.int (-(far : Int) + (k : Nat))) = tiP ∘ fun k : Nat => [((k : Int) - far) * (129859329600 / ((d : Int) * d)), (k : Int) - far, (d : Int)] := by
    funext k
    show tiP [(-(far : Int) + (k : Nat)) * _, -(far : Int) + (k : Nat), (d : Int)] = _
    rw [e]
    rfl
  rw [h1, h2]
theorem rows_len (far d : Nat) : (rowU far d).length ≤ 2 * far + 1 := by
  unfold rowU
  rw [List.length_map]
  exact Nat.le_trans (List.length_filter_le ..) (by rw [List.length_range]; exact Nat.le_refl _)
noncomputable abbrev LCU : EF := (lcE true (r2I [(op1 negD (vE 0)), (op2 (addD true) (vE 0) (cE (.int 1)))]) [3] (setG 3) (tB (op2 (eqD false) ((calE m_divisor [vE 3, vE 2])) (cE (.int 1)))) ((tupE [(op2 (mulD true) (vE 3) ((op2 (divD) (cE c_SQUARES) ((op2 (mulD true) (vE 2) (vE 2)))))), vE 3, vE 2])))
theorem lcu_ok (far d : Nat) (hf : far ≤ 12) (d1 : 1 ≤ d) (d2 : d ≤ 14) (x1 x3 : Option D) (s : S) : LCU [some (.p (.int (far : Int))), x1, some (.p (.int (d : Int))), x3] s = .ok (.p (.lst ((rowU far d).map tiP))) s := by
  have kd : mulOk (d : Int) (d : Int) := mulR (by omega) (by omega)
  have dd1 : 0 < d * d := Nat.mul_pos d1 d1
  have dd2 : d * d ≤ 14 * 14 := Nat.mul_le_mul d2 d2
  have hdd : ((d : Int) * d) = ((d * d : Nat) : Int) := by simp
  have dn : divOk 129859329600 ((d : Int) * d) := (show szi ((d : Int) * d) 8000 from szi.mono (a := 20) (by unfold szi; rw [hdd]; omega) (by decide)).divOk (by decide) (by decide) (by rw [hdd]; omega)
  have cs : c_SQUARES = .int 129859329600 := rfl
  have fd : (129859329600 : Int).fdiv ((d : Int) * d) = 129859329600 / ((d : Int) * d) := Int.fdiv_eq_ediv_of_nonneg _ (by rw [hdd]; omega)
  have kq : ∀ a : Int, a.natAbs ≤ 20 → mulOk a (129859329600 / ((d : Int) * d)) := fun a h => mulT (by omega) (by omega)
  have hi : r2I [(op1 negD (vE 0)), (op2 (addD true) (vE 0) (cE (.int 1)))] [some (.p (.int (far : Int))), x1, some (.p (.int (d : Int))), x3] s = .ok (ranP (-(far : Int)) (2 * far + 1), []) s := by
    have := r2_ev [(op1 negD (vE 0)), (op2 (addD true) (vE 0) (cE (.int 1)))] (-(far : Int)) ((far : Int) + 1) (ρ := [some (.p (.int (far : Int))), x1, some (.p (.int (d : Int))), x3]) (s := s) s (by simp) (by omega) (by omega) (by omega) (by omega)
    rw [this, show ((far : Int) + 1 - -(far : Int)).toNat = 2 * far + 1 by omega]
  have dv := fun a s => divisor_ok a (d : Int) (by omega) (szi.mono (a := 20) (by unfold szi; omega) (by decide)) s
  show lcE _ _ _ _ _ _ _ _ = _
  rw [lcE_pure (F := fun x => [some (.p (.int (far : Int))), x1, some (.p (.int (d : Int))), some (.p x)]) (keep := gK d) (f := uF d) hi (by rw [ranP_len, sizeLine_eq]; omega) (fun x hx => by
    unfold ranP at hx
    obtain ⟨k, hk, rfl⟩ := List.mem_map.mp hx
    have hk := List.mem_range.mp hk
    have kk := kq (-(far : Int) + (k : Nat)) (by omega)
    generalize (-(far : Int) + (k : Nat)) = a at *
    refine ⟨by simp [wipE], ?_, fun _ => ?_⟩
    · simp [dv, gK]
      omega
    · have hz : ¬ (d = 0) := by omega
      simp [kd, cs, dn, fd, kk, uF, tupk, tiP, hz])]
  rw [row_u, mkL_true]
noncomputable abbrev BU : SF := (iffF (tB (op2 (leD) ((op2 (mulD true) (vE 2) (vE 2))) (vE 0))) (expF ((metE extD (vE 1) [LCU]))) nopF)
theorem bu_ok (far d : Nat) (hf : far ≤ 12) (d1 : 1 ≤ d) (d2 : d ≤ 14) (x3 : Option D) (s : S) (acc : List (List Int)) (ha : acc.length ≤ 5000) : BU [some (.p (.int (far : Int))), some (.obj s.length), some (.p (.int (d : Int))), x3] (s ++ [some (.lst (acc.map tiP))]) =
    .ok (.nx [some (.p (.int (far : Int))), some (.obj s.length), some (.p (.int (d : Int))), x3]) (s ++ [some (.lst ((acc ++ if d * d ≤ far then rowU far d else []).map tiP))]) := by
  have kd : mulOk (d : Int) (d : Int) := mulR (by omega) (by omega)
  have hdd : ((d : Int) * d ≤ far) = (d * d ≤ far) := propext ⟨fun h => by
    have : ((d * d : Nat) : Int) = (d : Int) * d := by simp
    omega, fun h => by
    have : ((d * d : Nat) : Int) = (d : Int) * d := by simp
    omega⟩
  have lc := lcu_ok far d hf d1 d2 (some (.obj s.length)) x3 (s ++ [some (.lst (acc.map tiP))])
  by_cases h : d * d ≤ far
  · have hl := rows_len far d
    have ee := ext_end s (acc.map tiP) ((rowU far d).map tiP) (by rw [List.length_map, List.length_map, sizeLine_eq]; omega)
    have e2 : (acc ++ if d * d ≤ far then rowU far d else []).map tiP = acc.map tiP ++ (rowU far d).map tiP := by rw [if_pos h, List.map_append]
    rw [e2]
    have la := lsAt_endL (s := s) (acc.map tiP)
    generalize (rowU far d).map tiP = ys at *
    generalize acc.map tiP = xs at *
    simp [kd, hdd, h, lc, its_obj, la, ee]
  · have e2 : (acc ++ if d * d ≤ far then rowU far d else []).map tiP = acc.map tiP := by rw [if_neg h, List.append_nil]
    rw [e2]
    generalize acc.map tiP = xs at *
    simp [kd, hdd, h]
theorem bu_for (far : Nat) (hf : far ≤ 12) (s : S) : ∀ (l : List Nat) (acc : List (List Int)) (x2 x3 : Option D), (∀ d ∈ l, 1 ≤ d ∧ d ≤ 14) → acc.length + 25 * l.length ≤ 5000 →
    ∃ y2, forL [] (setG 2) BU (l.map fun d : Nat => P.int (d : Int)) [some (.p (.int (far : Int))), some (.obj s.length), x2, x3] (s ++ [some (.lst (acc.map tiP))]) =
      .ok (.nx [some (.p (.int (far : Int))), some (.obj s.length), y2, x3]) (s ++ [some (.lst ((acc ++ l.flatMap fun d => if d * d ≤ far then rowU far d else []).map tiP))])
  | [], acc, x2, x3, _, _ => ⟨x2, by rw [List.flatMap_nil, List.append_nil]; exact forL_nil⟩
  | d :: l, acc, x2, x3, hd, hl => by
    obtain ⟨d1, d2⟩ := hd d List.mem_cons_self
    rw [List.length_cons] at hl
    have e := bu_ok far d hf d1 d2 x3 s acc (by omega)
    have hrl := rows_len far d
    obtain ⟨y2, k⟩ := bu_for far hf s l (acc ++ if d * d ≤ far then rowU far d else []) (some (.p (.int (d : Int)))) x3 (fun q hq => hd q (List.mem_cons_of_mem _ hq)) (by
      rw [List.length_append]
      split
      · omega
      · simp; omega)
    refine ⟨y2, ?_⟩
    rw [List.map_cons, forL_consg (gok_nil _) rfl (show BU _ _ = _ from e), k, List.flatMap_cons, List.append_assoc]
theorem ti_ne {l : List (List Int)} (h : ∀ t ∈ srtI l, t.length = 3) : ∀ is ∈ l, is ≠ [] := fun is hi z => by
  have := h is ((srtI_perm l).mem_iff.mpr hi)
  rw [z] at this
  cases this
theorem ranP_cast (a : Nat) (k : Nat) : ranP (a : Int) k = (List.range' a k).map fun b : Nat => P.int (b : Int) := by
  unfold ranP
  rw [List.range'_eq_map_range, List.map_map]
  congr 1
theorem far_mem {far : Nat} (h1 : 1 ≤ far) (h2 : far ≤ 12) : far ∈ List.range' 1 12 := List.mem_range'_1.mpr (by omega)
theorem sides_ok (far : Nat) (h1 : 1 ≤ far) (h2 : far ≤ 12) (s : S) : m_sides [.p (.int (far : Int))] s = .ok (.p (.lst ((srtI (trU far)).map tiP))) s := by
  obtain ⟨y2, e⟩ := bu_for far h2 s (List.range' 1 14) [] none none (fun d hd => by have := List.mem_range'_1.mp hd; omega) (by decide)
  rw [List.nil_append, List.map_nil, show ((List.range' 1 14).flatMap fun d => if d * d ≤ far then rowU far d else []) = trU far from rfl] at e
  have hr := r2_ev (ρ := [some (.p (.int (far : Int))), some (.obj s.length), none, none]) (s := s ++ [some (.lst [])]) [cE (.int 1), cE (.int 15)] 1 15 _ rfl (by decide) (by decide) (by decide) (by decide)
  rw [show ranP 1 ((15 : Int) - 1).toNat = (List.range' 1 14).map fun b : Nat => P.int (b : Int) from ranP_cast 1 14] at hr
  have hf := forF_of hr e
  have hn := ti_ne (rows_c7 far (far_mem h1 h2))
  have hs : srtT true [.obj s.length] (s ++ [some (.lst ((trU far).map tiP))]) = .ok (.p (.lst ((srtI (trU far)).map tiP))) (s ++ [some (.lst ((trU far).map tiP))]) := by
    have e1 : its (.obj s.length) (s ++ [some (.lst ((trU far).map tiP))]) = some ((trU far).map tiP) := by rw [its_obj]; exact lsAt_endL _
    have e2 := srtT_I hn (s ++ [some (.lst ((trU far).map tiP))])
    unfold srtT at e2 ⊢
    dsimp only at e2 ⊢
    rw [e1]
    exact e2
  unfold m_sides
  rw [defM_ev (n := 1) rfl]
  show R.bind (B_sides [some (.p (.int (far : Int))), none, none, none] s) (defk s) = _
  have B : B_sides [some (.p (.int (far : Int))), none, none, none] s = .ok (.rt (.p (.lst ((srtI (trU far)).map tiP)))) (s ++ [some (.lst ((trU far).map tiP))]) := by
    unfold B_sides
    rw [seqF_ok (show asgF (lsoE []) (setG 1) [some (.p (.int (far : Int))), none, none, none] s = .ok (.nx [some (.p (.int (far : Int))), some (.obj s.length), none, none]) (s ++ [some (.lst [])]) by simp), seqF_ok hf]
    generalize (srtI (trU far)).map tiP = Y at *
    simp [hs]
  rw [B, R.bind_ok, defk_rt, fin_more]
section
variable {a1 a2 a3 a4 a6 : Int}
noncomputable def duL (a1 a2 a3 a4 a6 : Int) (l : List (Int × Int)) : List P := l.flatMap fun p => ptsI a1 a2 a3 a4 a6 p.1 p.2
theorem pts_len (a d : Int) : (ptsI a1 a2 a3 a4 a6 a d).length ≤ 2 := by
  unfold ptsI
  split
  · unfold topsI
    rw [List.length_map]
    split <;> simp
  · simp
theorem duL_len : ∀ l : List (Int × Int), (duL a1 a2 a3 a4 a6 l).length ≤ 2 * l.length
  | [] => by simp [duL]
  | p :: l => by
    have := duL_len l
    have := pts_len (a1 := a1) (a2 := a2) (a3 := a3) (a4 := a4) (a6 := a6) p.1 p.2
    unfold duL at *
    rw [List.flatMap_cons, List.length_append, List.length_cons]
    omega
noncomputable abbrev BA : SF := (expF ((metE extD (vE 2) [(calE m_points_at [vE 0, vE 3, vE 5, vE 6])])))
noncomputable abbrev h3P (a1 a2 a3 a4 a6 : Int) : P := .tup [.int (bb2 a1 a2), .int (bb4 a1 a3 a4), .int (bb6 a3 a6)]
theorem ba_for (h : Sz5 a1 a2 a3 a4 a6) (s : S) (x1 : Option D) : ∀ (l : List (List Int)) (acc : List P) (x4 x5 x6 : Option D), (∀ t ∈ l, t.length = 3) → (∀ p ∈ l.map two, p.1.natAbs ≤ 12 ∧ (p.2 = 1 ∨ p.2 = 2 ∨ p.2 = 3)) → acc.length + 2 * l.length ≤ 5000 →
    ∃ y4 y5 y6, forL [] (tupG 3 (consG (setG 4) (consG (setG 5) (consG (setG 6) nilG)))) BA (l.map tiP) [some (.p (fv a1 a2 a3 a4 a6)), x1, some (.obj s.length), some (.p (h3P a1 a2 a3 a4 a6)), x4, x5, x6] (s ++ [some (.lst acc)]) =
      .ok (.nx [some (.p (fv a1 a2 a3 a4 a6)), x1, some (.obj s.length), some (.p (h3P a1 a2 a3 a4 a6)), y4, y5, y6]) (s ++ [some (.lst (acc ++ duL a1 a2 a3 a4 a6 (l.map two)))])
  | [], acc, x4, x5, x6, _, _, _ => ⟨x4, x5, x6, by rw [show duL a1 a2 a3 a4 a6 (List.map two []) = [] from rfl, List.append_nil]; exact forL_nil⟩
  | t :: l, acc, x4, x5, x6, ht, hp, hl => by
    have h3 := ht t List.mem_cons_self
    obtain ⟨w, a, d, rfl⟩ : ∃ w a d, t = [w, a, d] := by
      match t, h3 with
      | [w, a, d], _ => exact ⟨w, a, d, rfl⟩
    obtain ⟨b1, b2⟩ := hp (a, d) (by simp [two])
    have pa : ∀ s, m_points_at [.p (fv a1 a2 a3 a4 a6), .p (h3P a1 a2 a3 a4 a6), .p (.int a), .p (.int d)] s = .ok (.p (.lst (ptsI a1 a2 a3 a4 a6 a d))) s := fun s => points_at_ok h b1 b2 s
    rw [List.length_cons] at hl
    have pl := pts_len (a1 := a1) (a2 := a2) (a3 := a3) (a4 := a4) (a6 := a6) a d
    have ee := ext_end s acc (ptsI a1 a2 a3 a4 a6 a d) (by rw [sizeLine_eq]; omega)
    have la := lsAt_endL (s := s) acc
    obtain ⟨y4, y5, y6, k⟩ := ba_for h s x1 l (acc ++ ptsI a1 a2 a3 a4 a6 a d) (some (.p (.int w))) (some (.p (.int a))) (some (.p (.int d))) (fun q hq => ht q (List.mem_cons_of_mem _ hq)) (fun p hq => hp p (by rw [List.map_cons]; exact List.mem_cons_of_mem _ hq)) (by rw [List.length_append]; omega)
    refine ⟨y4, y5, y6, ?_⟩
    have hd : duL a1 a2 a3 a4 a6 (List.map two ([w, a, d] :: l)) = ptsI a1 a2 a3 a4 a6 a d ++ duL a1 a2 a3 a4 a6 (l.map two) := rfl
    rw [hd, ← List.append_assoc, ← k, List.map_cons]
    refine forL_consg (gok_nil _) (ρ1 := [some (.p (fv a1 a2 a3 a4 a6)), x1, some (.obj s.length), some (.p (h3P a1 a2 a3 a4 a6)), some (.p (.int w)), some (.p (.int a)), some (.p (.int d))]) (by unfold tiP; simp) ?_
    generalize ptsI a1 a2 a3 a4 a6 a d = Z at *
    generalize fv a1 a2 a3 a4 a6 = F at *
    generalize h3P a1 a2 a3 a4 a6 = G at *
    simp [its_obj, la, pa, ee]
theorem crv_int : P.tup [fq (a1 : Rat), fq (a2 : Rat), fq (a3 : Rat), fq (a4 : Rat), fq (a6 : Rat)] = fv a1 a2 a3 a4 a6 := rfl
noncomputable def dueL (a1 a2 a3 a4 a6 : Int) (far : Nat) : List P := .non :: duL a1 a2 a3 a4 a6 (prU far)
theorem need_curve_int (h : Sz5 a1 a2 a3 a4 a6) (h0 : DI a1 a2 a3 a4 a6 ≠ 0) (s : S) : m_need_curve [.p (fv a1 a2 a3 a4 a6)] s = .ok (.p .non) s := by
  have hd : dd (a1 : Rat) a2 a3 a4 a6 ≠ 0 := by
    rw [dd_DI]
    intro z
    exact h0 (cast_inj (z.trans rfl))
  rw [← crv_int]
  exact need_curve_ok h.cv (by decide) hd s
theorem invariants_int (h : Sz5 a1 a2 a3 a4 a6) (h0 : DI a1 a2 a3 a4 a6 ≠ 0) (s : S) : ∃ x4 x5 x6 x7 x8 : P, m_invariants [.p (fv a1 a2 a3 a4 a6)] s = .ok (.p (.tup [.int (bb2 a1 a2), .int (bb4 a1 a3 a4), .int (bb6 a3 a6), x4, x5, x6, x7, x8])) s := by
  have hd : dd (a1 : Rat) a2 a3 a4 a6 ≠ 0 := by
    rw [dd_DI]
    intro z
    exact h0 (cast_inj (z.trans rfl))
  have e := invariants_ok h.cv (by decide) hd s
  rw [crv_int] at e
  have c4 : ((4 : Int) : Rat) = 4 := rfl
  have c2 : ((2 : Int) : Rat) = 2 := rfl
  have e2 : b2 (a1 : Rat) a2 a3 a4 a6 = ((bb2 a1 a2 : Int) : Rat) := by unfold b2 bb2; simp only [rc_add, rc_mul, c4]
  have e4 : b4 (a1 : Rat) a2 a3 a4 a6 = ((bb4 a1 a3 a4 : Int) : Rat) := by unfold b4 bb4; simp only [rc_add, rc_mul, c2]
  have e6 : b6 (a1 : Rat) a2 a3 a4 a6 = ((bb6 a3 a6 : Int) : Rat) := by unfold b6 bb6; simp only [rc_add, rc_mul, c4]
  unfold invP at e
  rw [e2, e4, e6] at e
  exact ⟨_, _, _, _, _, e⟩
theorem all_to_ok (h : Sz5 a1 a2 a3 a4 a6) (h0 : DI a1 a2 a3 a4 a6 ≠ 0) (far : Nat) (h1 : 1 ≤ far) (h2 : far ≤ 12) (s : S) : m_all_to [.p (fv a1 a2 a3 a4 a6), .p (.int (far : Int))] s = .ok (.p (.lst (dueL a1 a2 a3 a4 a6 far))) s := by
  have fm := far_mem h1 h2
  obtain ⟨x4, x5, x6, x7, x8, ei⟩ := invariants_int h h0 (s ++ [some (.lst [.non])])
  have c6 := (rows_c6 far fm)
  have c6' : (srtI (trU far)).length ≤ 100 := by unfold prU at c6; rwa [List.length_map] at c6
  obtain ⟨y4, y5, y6, e⟩ := ba_for h s (some (.p (.int (far : Int)))) (srtI (trU far)) [.non] none none none (rows_c7 far fm) (fun p hp => by
    have := rows_c4 far fm p hp
    exact ⟨this.1, this.2.1⟩) (by simp; omega)
  have es := sides_ok far h1 h2 (s ++ [some (.lst [.non])])
  have sl : slcD true (.p (.tup [.int (bb2 a1 a2), .int (bb4 a1 a3 a4), .int (bb6 a3 a6), x4, x5, x6, x7, x8])) none (some 3) (s ++ [some (.lst [.non])]) = .ok (.p (h3P a1 a2 a3 a4 a6)) (s ++ [some (.lst [.non])]) := rfl
  have A1 : parF 2 3 [(lsoE [cE .non]), (slcE true ((calE m_invariants [vE 0])) none (some (cE (.int 3))))] [some (.p (fv a1 a2 a3 a4 a6)), some (.p (.int (far : Int))), none, none, none, none, none] s =
      .ok (.nx [some (.p (fv a1 a2 a3 a4 a6)), some (.p (.int (far : Int))), some (.obj s.length), some (.p (h3P a1 a2 a3 a4 a6)), none, none, none]) (s ++ [some (.lst [.non])]) := by
    generalize fv a1 a2 a3 a4 a6 = F at *
    generalize h3P a1 a2 a3 a4 a6 = G at *
    simp [ei, slcE_ev, optE_n, optE_s, partE_i, sl]
  have A2 := forF_of (i := rowI (calE m_sides [vE 1])) (ρ := [some (.p (fv a1 a2 a3 a4 a6)), some (.p (.int (far : Int))), some (.obj s.length), some (.p (h3P a1 a2 a3 a4 a6)), none, none, none]) (s := s ++ [some (.lst [.non])]) (rowI_lst (xs := (srtI (trU far)).map tiP) (by
    generalize (srtI (trU far)).map tiP = Y at *
    simp [es])) e
  unfold m_all_to
  rw [defM_ev (n := 2) rfl]
  show R.bind (B_all_to [some (.p (fv a1 a2 a3 a4 a6)), some (.p (.int (far : Int))), none, none, none, none, none] s) (defk s) = _
  have B : B_all_to [some (.p (fv a1 a2 a3 a4 a6)), some (.p (.int (far : Int))), none, none, none, none, none] s = .ok (.rt (.p (.lst (dueL a1 a2 a3 a4 a6 far)))) (s ++ [none]) := by
    unfold B_all_to
    rw [seqF_ok A1, seqF_ok A2]
    have hfz := frz_endL (s := s) (dueL a1 a2 a3 a4 a6 far)
    have e9 : (CW.P.non :: duL a1 a2 a3 a4 a6 ((srtI (trU far)).map two)) = dueL a1 a2 a3 a4 a6 far := rfl
    show R.bind (frzE (vE 2) _ (s ++ [some (O.lst (CW.P.non :: duL a1 a2 a3 a4 a6 ((srtI (trU far)).map two)))])) _ = _
    rw [e9, frzE_ev]
    show R.bind (frz (.obj s.length) _) _ = _
    rw [hfz]
    rfl
  rw [B, R.bind_ok, defk_rt, fin_more]
theorem search_ok (h : Sz5 a1 a2 a3 a4 a6) (h0 : DI a1 a2 a3 a4 a6 ≠ 0) (far : Nat) (h1 : 1 ≤ far) (h2 : far ≤ 12) (s : S) : m_search [.p (fv a1 a2 a3 a4 a6), .p (.int (far : Int))] s = .ok (.p (.lst (dueL a1 a2 a3 a4 a6 far))) s := by
  have n1 := fun s => need_curve_int h h0 s
  have n2 : ∀ s, m_need_bound [.p (.int (far : Int))] s = .ok (.p .non) s := fun s => by
    have cf : c_FAR = .int 200 := rfl
    have f1 : (1 : Int) ≤ (far : Int) := by omega
    have f2 : (far : Int) ≤ 200 := by omega
    simp [m_need_bound, defM_if, B_need_bound, cf, f1, f2]
    try omega
  have n3 : ∀ s, m_need_whole [.p (fv a1 a2 a3 a4 a6)] s = .ok (.p .non) s := fun s => by
    have lc : lcE true (rowI (vE 0)) [1] (setG 1) yesT ((calE isiD [vE 1, cE (.ty "int")])) [some (.p (fv a1 a2 a3 a4 a6)), none] s = .ok (.p (.lst [.bl true, .bl true, .bl true, .bl true, .bl true])) s := by
      unfold fv
      rw [lcE_ev, rowI_ev (xs := [.int a1, .int a2, .int a3, .int a4, .int a6]) (s' := s) rfl, R.bind_ok]
      simp [lcL_cns, lcL_nil, yesT, sizeLine_eq]
    have ha : allD [.p (.lst [.bl true, .bl true, .bl true, .bl true, .bl true])] s = .ok (.p (.bl true)) s := rfl
    have n1' := n1 s
    generalize fv a1 a2 a3 a4 a6 = F at *
    simp [m_need_whole, defM_if, B_need_whole, n1', lc, ha]
  have e := fun s => all_to_ok h h0 far h1 h2 s
  generalize fv a1 a2 a3 a4 a6 = F at *
  generalize dueL a1 a2 a3 a4 a6 far = L at *
  simp [m_search, defM_if, B_search, n1, n2, n3, e]
end
theorem num_cop {a b : Int} (hb : 0 < b) (hg : Int.gcd a b = 1) : (Rat.divInt a b).num = a ∧ ((Rat.divInt a b).den : Int) = b := by
  obtain ⟨_, e1, e2⟩ := low_eq (t := a) (b := b) (by omega) rfl
  rw [hg, Int.sign_eq_one_of_pos hb] at e1 e2
  constructor
  · have := e1
    simp at this
    exact this.symm
  · have := e2
    simp at this
    exact this.symm
theorem hz_dv {t b : Int} {n : Nat} (hb : b ≠ 0) (ht : szi t n) (hs : szi b n) (n0 : 0 < n) : hz (Rat.divInt t b) ≤ n := by
  obtain ⟨g0, e1, e2⟩ := low_eq (t := t) (b := b) hb rfl
  generalize Rat.divInt t b = q at *
  generalize b.sign * (Int.gcd t b : Nat) = g at *
  have gp : 0 < g.natAbs := Int.natAbs_pos.mpr g0
  have n1 : q.num.natAbs ≤ t.natAbs := by
    conv => rhs; rw [e1, Int.natAbs_mul]
    exact Nat.le_mul_of_pos_right _ gp
  have n2 : q.den ≤ b.natAbs := by
    conv => rhs; rw [e2, Int.natAbs_mul]
    exact Nat.le_mul_of_pos_right _ gp
  have l1 := (show szi q.num n from Nat.lt_of_le_of_lt n1 ht).log n0
  have l2 := (show szi (q.den : Int) n from Nat.lt_of_le_of_lt n2 hs).log n0
  rw [Int.natAbs_natCast] at l2
  unfold hz
  omega
def hgt : P → Int
  | .tup (.int i :: _) => max (i.natAbs : Int) 1
  | .tup (.tup [.int n, .int d] :: _) => max (n.natAbs : Int) d
  | _ => 1
theorem hgt_fq (q r : Rat) : hgt (.tup [fq q, fq r]) = max (q.num.natAbs : Int) (q.den : Int) := by
  unfold fq
  by_cases h : q.den = 1
  · rw [if_pos h, h]
    rfl
  · rw [if_neg h]
    rfl
theorem Lheight_ok (q r : Rat) (s : S) : m_Lheight [.p (.tup [fq q, fq r])] s = .ok (.p (.int (hgt (.tup [fq q, fq r])))) s := by
  rw [hgt_fq]
  have i0 : L2.atI [fq q, fq r] 0 = some (fq q) := rfl
  generalize fq r = R' at *
  unfold fq at *
  by_cases h : q.den = 1
  · rw [if_pos h] at i0 ⊢
    simp [m_Lheight, defM_if, B_Lheight, i0, tupk, h]
  · rw [if_neg h] at i0 ⊢
    simp [m_Lheight, defM_if, B_Lheight, i0, tupk]
theorem Lheight_non (s : S) : m_Lheight [.p .non] s = .ok (.p (.int (hgt .non))) s := by
  simp [m_Lheight, defM_if, B_Lheight, hgt]
section
variable {a1 a2 a3 a4 a6 a d : Int}
theorem pts_fact (h : Sz5 a1 a2 a3 a4 a6) (ha : a.natAbs ≤ 12) (hd : d = 1 ∨ d = 2 ∨ d = 3) (hg : Int.gcd a d = 1) {x : P} (hx : x ∈ ptsI a1 a2 a3 a4 a6 a d) :
    ∃ q r : Rat, x = .tup [fq q, fq r] ∧ hz q ≤ 1900 ∧ hz r ≤ 1900 ∧ hgt x = max (a.natAbs : Int) (d * d) := by
  obtain ⟨e1, _, e3, _, _⟩ := d_bounds hd
  have hN := innI_sz h ha hd
  have hm : szi (midI a1 a3 a d) 40 := by
    have sa : szi a 4 := Nat.lt_of_le_of_lt ha (by decide)
    have sd : szi d 3 := Nat.lt_of_le_of_lt (show d.natAbs ≤ 3 by omega) (by decide)
    have s3 : szi (d ^ 3) 5 := Nat.lt_of_le_of_lt (show (d ^ 3).natAbs ≤ 27 by omega) (by decide)
    exact szi.sum ((h.s1.mul sa).mul sd) (h.s3.mul s3)
  have hgd : Int.gcd a (d * d) = 1 := by
    have c : Nat.Coprime a.natAbs d.natAbs := hg
    show Nat.gcd a.natAbs (d * d).natAbs = 1
    rw [Int.natAbs_mul]
    exact Nat.Coprime.mul_right c c
  unfold ptsI at hx
  rcases rootP_two (innI a1 a2 a3 a4 a6 a d) with ⟨r, r0, er, hR⟩ | ⟨_, hR⟩
  · rw [hR] at hx
    dsimp only at hx
    obtain ⟨t, ht, rfl⟩ := List.mem_map.mp hx
    have sr : szi r 300 := by
      have : r ≤ innI a1 a2 a3 a4 a6 a d := by
        rw [← er]
        rcases (show r = 0 ∨ 1 ≤ r by omega) with z | z
        · rw [z]; decide
        · have := Int.mul_le_mul_of_nonneg_left z r0
          omega
      unfold szi at *
      omega
    have st : szi t 302 := by
      unfold topsI at ht
      have n1 : szi (-r) 301 := by unfold szi at *; rw [Int.natAbs_neg]; exact Nat.lt_of_lt_of_le sr (Nat.pow_le_pow_right (by decide) (by decide))
      split at ht
      · rw [List.mem_singleton.mp ht]
        exact szi.dif (sr.mono (by decide : 300 ≤ 301)) hm
      · simp only [List.mem_cons, List.not_mem_nil, or_false] at ht
        rcases ht with rfl | rfl
        · exact szi.dif n1 hm
        · exact szi.dif (sr.mono (by decide : 300 ≤ 301)) hm
    refine ⟨_, _, rfl, ?_, ?_, ?_⟩
    · exact Nat.le_trans (hz_dv (n := 20) (by omega) (sz_small (by omega)) (sz_small (by omega)) (by decide)) (by decide)
    · exact Nat.le_trans (hz_dv (n := 302) (by omega) st ((sz_small (by omega)).mono (by decide)) (by decide)) (by decide)
    · obtain ⟨k1, k2⟩ := num_cop (a := a) (b := d * d) (by omega) hgd
      unfold pairP
      rw [hgt_fq, k1, k2]
  · rw [hR] at hx
    cases hx
/-- a point of the row told -/
def PtP (x : P) : Prop := x = .non ∨ ∃ q r : Rat, x = .tup [fq q, fq r] ∧ hz q ≤ 1900 ∧ hz r ≤ 1900
theorem due_pt (h : Sz5 a1 a2 a3 a4 a6) (far : Nat) (f1 : 1 ≤ far) (f2 : far ≤ 12) : ∀ x ∈ dueL a1 a2 a3 a4 a6 far, PtP x := fun x hx => by
  have fm := far_mem f1 f2
  unfold dueL at hx
  rcases List.mem_cons.mp hx with z | z
  · exact .inl z
  · unfold duL at z
    obtain ⟨p, hp, hx⟩ := List.mem_flatMap.mp z
    obtain ⟨h1, h2, h3⟩ := rows_c4 far fm p hp
    obtain ⟨q, r, e, k1, k2, _⟩ := pts_fact h h1 h2 h3 hx
    exact .inr ⟨q, r, e, k1, k2⟩
theorem due_len (far : Nat) (f1 : 1 ≤ far) (f2 : far ≤ 12) : (dueL a1 a2 a3 a4 a6 far).length ≤ 201 := by
  have := duL_len (a1 := a1) (a2 := a2) (a3 := a3) (a4 := a4) (a6 := a6) (prU far)
  have := rows_c6 far (far_mem f1 f2)
  unfold dueL
  rw [List.length_cons]
  omega
end
theorem PtP.dat {x : P} (h : PtP x) : ∃ d, toPy x = some d ∧ Rp d 2 8007 ∧ Cp d 2 := by
  rcases h with rfl | ⟨q, r, rfl, h1, h2⟩
  · exact ⟨.none, rfl, Rp.non.mono (by decide) (by decide), ⟨rfl, rfl, Nat.zero_le _⟩⟩
  · refine ⟨.tuple ([q, r].map fqPy), toPy_tup (toPys_fq [q, r]), ?_, Cp.tfq [q, r]⟩
    have := Rp.tfq (qs := [q, r]) fun z hz' => by
      simp only [List.mem_cons, List.not_mem_nil, or_false] at hz'
      rcases hz' with rfl | rfl
      · exact h1
      · exact h2
    exact this
theorem pts_dat : ∀ {L : List P}, (∀ x ∈ L, PtP x) → ∃ ds, toPys L = some ds ∧ ds.length = L.length ∧ (∀ d ∈ ds, Rp d 2 8007 ∧ Cp d 2) ∧ ∀ x ∈ L, ∀ d, toPy x = some d → d ∈ ds
  | [], _ => ⟨[], rfl, rfl, fun _ h => (nomatch h), fun _ h => (nomatch h)⟩
  | x :: L, h => by
    obtain ⟨d, e, k1, k2⟩ := (h x List.mem_cons_self).dat
    obtain ⟨ds, g1, g2, g3, g4⟩ := pts_dat fun y hy => h y (List.mem_cons_of_mem _ hy)
    refine ⟨d :: ds, toPys_cons e g1, congrArg (· + 1) g2, fun z hz' => ?_, fun y hy z ez => ?_⟩
    · rcases List.mem_cons.mp hz' with q | q
      · rw [q]; exact ⟨k1, k2⟩
      · exact g3 z q
    · rcases List.mem_cons.mp hy with q | q
      · rw [q, e] at ez
        rw [← Option.some.inj ez]
        exact List.mem_cons_self
      · exact List.mem_cons_of_mem _ (g4 y q z ez)
theorem py_obj {n : Nat} {s : S} {L : List P} {ds : List PyData} (hl : lsAt n s = some L) (h : toPys L = some ds) : toPyD (.obj n) s = some (.list ds) := by
  have e : s[n]? = some (some (.lst L)) := by
    unfold lsAt at hl
    split at hl
    · rename_i q
      rw [q, Option.some.inj hl]
    · cases hl
  show (match s[n]? with
    | some (some (.lst xs)) => (toPys xs).map PyData.list
    | _ => none) = _
  rw [e]
  dsimp only
  rw [h]
  rfl
theorem shw_pts {L : List P} (hL : ∀ x ∈ L, PtP x) (hl : L.length ≤ 1000) : ∃ t, PyData.strOk t = true ∧ (∀ s, shwD [.p (.lst L)] s = .ok (.p (.str t)) s) ∧ ∀ s n, lsAt n s = some L → shwD [.obj n] s = .ok (.p (.str t)) s := by
  obtain ⟨ds, g1, g2, g3, _⟩ := pts_dat hL
  have r := Rp.lst (ds := ds) (n := 2) (L := 8007) fun d hd => (g3 d hd).1
  have hle : (8007 + 2) * ds.length + 3 ≤ sizeLine := by rw [sizeLine_eq, g2]; omega
  exact ⟨(PyData.list ds).shown, r.ok, fun s => shw_rp (d := .list ds) (toPy_lst g1) r (by decide) hle, fun s n hn => shw_rp (d := .list ds) (py_obj hn g1) r (by decide) hle⟩
theorem in_pts {L : List P} (hL : ∀ x ∈ L, PtP x) : ∃ K : P → Bool, (∀ x, PtP x → ∀ s, inD true (.p x) (.p (.lst L)) s = .ok (.p (.bl (K x))) s) ∧ ∀ x ∈ L, K x = false := by
  obtain ⟨ds, g1, g2, g3, g4⟩ := pts_dat hL
  refine ⟨fun x => !ds.any fun z => PyData.eqv z ((toPy x).getD .none), fun x hx s => ?_, fun x hx => ?_⟩
  · obtain ⟨d, e, _, c⟩ := hx.dat
    have e1 : toPyD (.p x) s = some d := e
    have e2 : toPyD (.p (.lst L)) s = some (.list ds) := toPy_lst g1
    show (match toPyD (.p x) s, toPyD (.p (.lst L)) s with
      | some d, some (.list ds) => if SeqAt.shaped d = true ∧ SeqAt.shaped (.list ds) = true then R.ok (D.p (.bl (if true = true then !ds.any fun z => PyData.eqv z d else ds.any fun z => PyData.eqv z d))) s else .bad
      | _, _ => .bad) = _
    have ek : (toPy x).getD .none = d := by rw [e]; rfl
    rw [e1, e2]
    dsimp only
    rw [ek, if_pos ⟨c.shaped (by decide), (Cp.lst fun d hd => (g3 d hd).2).shaped (by decide)⟩]
    rfl
  · obtain ⟨d, e, _, c⟩ := (hL x hx).dat
    have : (ds.any fun z => PyData.eqv z ((toPy x).getD .none)) = true := List.any_eq_true.mpr ⟨d, g4 x hx d e, by rw [e]; exact eqv_refl d c.nd⟩
    show (!(ds.any fun z => PyData.eqv z ((toPy x).getD .none))) = false
    rw [this]
    rfl
def kp (p : Int × Int) : PyData := .tuple [.int p.1, .int p.2]
def ltp (p q : Int × Int) : Prop := p.1 < q.1 ∨ (p.1 = q.1 ∧ p.2 < q.2)
def ktp (p : Int × Int) : P := .tup [.int p.1, .int p.2]
theorem toks_kp (p : Int × Int) : PySem.W.keyToks (kp p) = [.inl 1, .inl p.1, .inl 1, .inl p.2, .inl 0] := by
  simp [kp, PySem.W.keyToks, PySem.W.keyToksAll]
theorem lex_kp (p q : Int × Int) : PyProof.Rows.lexLt PyProof.Rows.itemOrd (PySem.W.keyToks (kp p)) (PySem.W.keyToks (kp q)) = true ↔ ltp p q := by
  rw [toks_kp, toks_kp, PyProof.Rows.lex_self, PyProof.Rows.lex_true, PyProof.Rows.lex_self, PyProof.Rows.lex_true]
  have b : ∀ i j : Int, PyProof.Rows.itemOrd.blt (.inl i) (.inl j) = decide (i < j) := fun _ _ => rfl
  rw [b, b, b, b]
  have l : PyProof.Rows.lexLt PyProof.Rows.itemOrd [.inl (0 : Int)] [.inl (0 : Int)] = false := PyProof.Rows.lex_irrefl _
  rw [l]
  unfold ltp
  simp only [decide_eq_true_eq, decide_eq_false_iff_not, Bool.false_eq_true, and_false, or_false]
  omega
theorem dl_kp {α : Type} (f : α → PyData × (Int × Int)) (hf : ∀ a, (f a).1 = kp (f a).2) (a b : α) : PySem.W.dataLe false (fun x => (f x).1) a b = true ↔ ¬ ltp (f b).2 (f a).2 := by
  rw [← lex_kp, ← hf, ← hf]
  show (!PyProof.Rows.lexLt PyProof.Rows.itemOrd (PySem.W.keyToks (f b).1) (PySem.W.keyToks (f a).1)) = true ↔ _
  cases PyProof.Rows.lexLt PyProof.Rows.itemOrd (PySem.W.keyToks (f b).1) (PySem.W.keyToks (f a).1) <;> simp
theorem srt_uni {α : Type} {lt : α → α → Prop} : ∀ {ys zs : List α}, zs.Perm ys → ys.Pairwise lt → zs.Pairwise (fun a b => ¬ lt b a) → zs = ys
  | [], zs, h, _, _ => h.eq_nil
  | y :: ys, [], h, _, _ => absurd h.symm.eq_nil (by simp)
  | y :: ys, z :: zs, h, h1, h2 => by
    obtain ⟨a1, a2⟩ := List.pairwise_cons.mp h1
    obtain ⟨b1, b2⟩ := List.pairwise_cons.mp h2
    have e : z = y := by
      rcases List.mem_cons.mp (h.mem_iff.mp (List.mem_cons_self (a := z))) with e | e
      · exact e
      · rcases List.mem_cons.mp (h.mem_iff.mpr (List.mem_cons_self (a := y))) with e' | e'
        · exact e'.symm
        · exact absurd (a1 z e) (b1 y e')
    subst e
    rw [srt_uni (List.Perm.cons_inv h) a2 b2]
theorem ms_uni {α : Type} (f : α → Int × Int) {xs ys : List α} (hp : ys.Perm xs) (hs : ys.Pairwise fun a b => ltp (f a) (f b)) : xs.mergeSort (PySem.W.dataLe false fun x => kp (f x)) = ys := by
  have key := fun a b => dl_kp (fun x => (kp (f x), f x)) (fun _ => rfl) a b
  dsimp only at key
  refine srt_uni ((List.mergeSort_perm xs _).trans hp.symm) hs ?_
  have := List.pairwise_mergeSort (le := PySem.W.dataLe false fun x => kp (f x)) (fun a b c h1 h2 => by
    rw [key] at *
    unfold ltp at *
    omega) (fun a b => by
    cases e : PySem.W.dataLe false (fun x => kp (f x)) a b with
    | true => rfl
    | false =>
      have e2 : ¬ PySem.W.dataLe false (fun x => kp (f x)) a b = true := by rw [e]; decide
      rw [key] at e2
      have : PySem.W.dataLe false (fun x => kp (f x)) b a = true := by
        rw [key]
        unfold ltp at *
        omega
      rw [this]
      rfl) xs
  exact this.imp fun {a b} h => (key a b).mp h
theorem zip_self {α β : Type} (g : α → β) : ∀ xs : List α, xs.zip (xs.map g) = xs.map fun x => (x, g x)
  | [] => rfl
  | x :: xs => by
    rw [List.map_cons, List.zip_cons_cons, zip_self g xs]
    rfl
theorem byKeys_uni {α : Type} (f : α → Int × Int) {xs ys : List α} (hp : ys.Perm xs) (hs : ys.Pairwise fun a b => ltp (f a) (f b)) : byKeys xs (xs.map fun x => kp (f x)) = ys := by
  have e := ms_uni f hp hs
  unfold byKeys
  have m := List.map_mergeSort (r := PySem.W.dataLe false fun x => kp (f x)) (s := PySem.W.dataLe false Prod.snd) (f := fun x => (x, kp (f x))) (l := xs) (fun a _ b _ => rfl)
  rw [zip_self, ← m, e, List.map_map]
  show ys.map (fun x => x) = ys
  rw [List.map_id']
theorem keysPy_kp : ∀ ps : List (Int × Int), keysPy (ps.map ktp) = some (ps.map kp)
  | [] => rfl
  | p :: ps => by
    have := keysPy_kp ps
    rw [List.map_cons, List.map_cons]
    unfold keysPy
    rw [this]
    rfl
theorem endK_uni (f : P → Int × Int) {xs ys : List P} (hp : ys.Perm xs) (hs : ys.Pairwise fun a b => ltp (f a) (f b)) (s : S) : endK xs (xs.map fun x => ktp (f x)) s = .ok (.p (.lst ys)) s := by
  unfold endK
  have e : xs.map (fun x => ktp (f x)) = (xs.map f).map ktp := by rw [List.map_map]; rfl
  have e2 : (xs.map f).map kp = xs.map fun x => kp (f x) := by rw [List.map_map]; rfl
  rw [e, keysPy_kp]
  dsimp only
  have c1 : PySem.W.AllAlike ((xs.map f).map kp) := fun d hd d' hd' => by
    obtain ⟨p, _, rfl⟩ := List.mem_map.mp hd
    obtain ⟨q, _, rfl⟩ := List.mem_map.mp hd'
    rfl
  have c2 : PySem.W.Sortable ((xs.map f).map kp) := .inl fun d hd => by
    obtain ⟨p, _, rfl⟩ := List.mem_map.mp hd
    exact ⟨_, _, rfl⟩
  rw [if_pos ⟨c1, c2⟩, e2, byKeys_uni f hp hs]
  rfl
theorem keysL_map {m : EF} {s : S} (g : P → P) : ∀ {xs : List P}, (∀ x ∈ xs, m [some (.p x)] s = .ok (.p (g x)) s) → keysL m xs s = .ok (xs.map g) s
  | [], _ => rfl
  | x :: xs, h => by
    unfold keysL
    rw [bnd_ev, h x List.mem_cons_self, R.bind_ok]
    dsimp only
    rw [bnd_ev, keysL_map g fun y hy => h y (List.mem_cons_of_mem _ hy), R.bind_ok]
    rfl
theorem srtK_ok {mx m : EF} {ρ : En} {s : S} (f : P → Int × Int) {xs ys : List P} (h : mx ρ s = .ok (.p (.lst xs)) s) (hl : xs.length ≤ sizeLine) (hm : ∀ x ∈ xs, m [some (.p x)] s = .ok (.p (ktp (f x))) s) (hp : ys.Perm xs) (hs : ys.Pairwise fun a b => ltp (f a) (f b)) : srtKE mx m ρ s = .ok (.p (.lst ys)) s := by
  unfold srtKE
  rw [bnd_ev, h, R.bind_ok]
  have i : its (.p (.lst xs)) s = some xs := rfl
  rw [i]
  dsimp only
  rw [if_pos hl, bnd_ev, keysL_map (fun x => ktp (f x)) hm, R.bind_ok, endK_uni f hp hs]
def wC : Int := 153493785458015035892931072000
def wq (q : Rat) : Int := (q.num * wC).fdiv q.den
theorem wC_pow : (5354228880 : Int) ^ 3 = wC := by decide +kernel
theorem wq_div {t b k : Int} (hb : 0 < b) (hk : wC = b * k) : wq (Rat.divInt t b) = t * k := by
  obtain ⟨g0, e1, e2⟩ := low_eq (t := t) (b := b) (by omega) rfl
  generalize Rat.divInt t b = q at *
  generalize b.sign * (Int.gcd t b : Nat) = g at *
  have dn : (q.den : Int) ≠ 0 := by have := q.den_nz; omega
  unfold wq
  rw [hk, e1]
  conv => lhs; rw [e2]
  rw [show q.num * ((q.den : Int) * g * k) = q.num * g * k * (q.den : Int) by grind, Int.mul_fdiv_cancel _ dn]
theorem Lworth_ok (q : Rat) (hq : hz q ≤ 4000) (s : S) : m_Lworth [.p (fq q)] s = .ok (.p (.int (wq q))) s := by
  have p3 : powOk 5354228880 3 := by decide
  have c2 : wC.natAbs.log2 ≤ 100 := by decide +kernel
  have k1 : mulOk q.num wC := .inl (by unfold hz at hq; omega)
  have pw : (5354228880 : Int) ^ 3 = wC := wC_pow
  have dn : divOk (q.num * wC) (q.den : Int) := (show szi (q.den : Int) 8000 by
    unfold szi
    rw [Int.natAbs_natCast]
    unfold hz at hq
    refine Nat.lt_of_lt_of_le Nat.lt_log2_self (Nat.pow_le_pow_right (by decide) (by omega))).divOk (by decide) (by decide) (by have := q.den_nz; omega)
  unfold wq
  generalize wC = C at *
  unfold fq
  by_cases h : q.den = 1
  · rw [if_pos h]
    have f1 : (q.num * C).fdiv ((q.den : Nat) : Int) = q.num * C := by rw [h]; exact Int.fdiv_one _
    rw [f1]
    simp [m_Lworth, defM_if, B_Lworth, p3, pw, k1]
  · rw [if_neg h]
    have i0 : L2.atI [P.int q.num, .int (q.den : Int)] 0 = some (.int q.num) := rfl
    have i1 : L2.atI [P.int q.num, .int (q.den : Int)] 1 = some (.int (q.den : Int)) := rfl
    have dz := q.den_nz
    simp [m_Lworth, defM_if, B_Lworth, p3, pw, k1, dn, i0, i1, dz]
theorem Sz5.cv128 {a1 a2 a3 a4 a6 : Int} (h : Sz5 a1 a2 a3 a4 a6) : Cv 1 128 (a1 : Rat) a2 a3 a4 a6 := by
  have k : ∀ {i : Int}, szi i 20 → Dg 1 128 1 0 (i : Rat) := fun {i} h => ⟨i, by
    have : ((1 : Int) : Rat) = 1 := rfl
    rw [Rat.pow_one, this, Rat.mul_one], h.mono (by decide)⟩
  exact ⟨by decide, by decide, k h.s1, k h.s2, k h.s3, k h.s4, k h.s6⟩
theorem hz_20 {i : Int} (h : szi i 20) : hz (i : Rat) ≤ 60 := by
  rw [hz_int]
  have := h.log (by decide)
  omega
theorem Sz5.cq {a1 a2 a3 a4 a6 : Int} (h : Sz5 a1 a2 a3 a4 a6) (h0 : DI a1 a2 a3 a4 a6 ≠ 0) : Cq (a1 : Rat) a2 a3 a4 a6 := ⟨⟨1, h.cv128⟩, by
  rw [dd_DI]
  intro z
  exact h0 (cast_inj (z.trans rfl)), by have := hz_20 h.s1; omega, by have := hz_20 h.s3; omega⟩
def l1I (u a1 s : Int) : Int := u * (a1 + 2 * s)
def l2I (a1 a2 s : Int) : Int := a2 - s * a1 - s * s
def l3I (u a3 t : Int) : Int := u * (a3 + 2 * t)
def l4I (a1 a3 a4 s t : Int) : Int := a4 - s * a3 - t * a1 - 2 * s * t
def l6I (a3 a6 t : Int) : Int := a6 - t * a3 - t * t
section
variable {a1 a2 a3 a4 a6 u s t : Int}
theorem led_b2 (hu : u = 1 ∨ u = -1) : bb2 (l1I u a1 s) (l2I a1 a2 s) = bb2 a1 a2 := by
  unfold bb2 l1I l2I
  rcases hu with rfl | rfl <;> grind
theorem led_b4 (hu : u = 1 ∨ u = -1) : bb4 (l1I u a1 s) (l3I u a3 t) (l4I a1 a3 a4 s t) = bb4 a1 a3 a4 := by
  unfold bb4 l1I l3I l4I
  rcases hu with rfl | rfl <;> grind
theorem led_b6 (hu : u = 1 ∨ u = -1) : bb6 (l3I u a3 t) (l6I a3 a6 t) = bb6 a3 a6 := by
  unfold bb6 l3I l6I
  rcases hu with rfl | rfl <;> grind
theorem led_inn (hu : u = 1 ∨ u = -1) (a d : Int) : innI (l1I u a1 s) (l2I a1 a2 s) (l3I u a3 t) (l4I a1 a3 a4 s t) (l6I a3 a6 t) a d = innI a1 a2 a3 a4 a6 a d := by
  unfold innI
  rw [led_b2 hu, led_b4 hu, led_b6 hu]
theorem led_mid (a d : Int) : midI (l1I u a1 s) (l3I u a3 t) a d = u * (midI a1 a3 a d + 2 * s * a * d + 2 * t * d ^ 3) := by
  unfold midI l1I l3I
  grind
theorem led_DI (hu : u = 1 ∨ u = -1) : DI (l1I u a1 s) (l2I a1 a2 s) (l3I u a3 t) (l4I a1 a3 a4 s t) (l6I a3 a6 t) = DI a1 a2 a3 a4 a6 := by
  have e : ∀ a1 a2 a3 a4 a6 : Int, DI a1 a2 a3 a4 a6 = 9 * bb2 a1 a2 * bb4 a1 a3 a4 * bb6 a3 a6 - bb2 a1 a2 * bb2 a1 a2 * (a2 * a3 * a3 - a4 * a4 + a1 * a1 * a6 + 4 * a2 * a6 - a1 * a3 * a4) - 8 * bb4 a1 a3 a4 * bb4 a1 a3 a4 * bb4 a1 a3 a4 - 27 * bb6 a3 a6 * bb6 a3 a6 := fun _ _ _ _ _ => rfl
  have e8 : ∀ a1 a2 a3 a4 a6 : Int, 4 * (a2 * a3 * a3 - a4 * a4 + a1 * a1 * a6 + 4 * a2 * a6 - a1 * a3 * a4) = bb2 a1 a2 * bb6 a3 a6 - bb4 a1 a3 a4 * bb4 a1 a3 a4 := fun a1 a2 a3 a4 a6 => by
    unfold bb2 bb4 bb6
    grind
  have h1 := e8 (l1I u a1 s) (l2I a1 a2 s) (l3I u a3 t) (l4I a1 a3 a4 s t) (l6I a3 a6 t)
  have h2 := e8 a1 a2 a3 a4 a6
  rw [led_b2 hu, led_b4 hu, led_b6 hu, ← h2] at h1
  rw [e, e, led_b2 hu, led_b4 hu, led_b6 hu, Int.eq_of_mul_eq_mul_left (by decide) h1]
theorem led_s5 {x y v w : Int} (k : Thr a1 a2 a3 a4 a6 x y v w) (hu : u = 1 ∨ u = -1) (hs : s.natAbs ≤ 4) (ht : t.natAbs ≤ 4) : Sz5 (l1I u a1 s) (l2I a1 a2 s) (l3I u a3 t) (l4I a1 a3 a4 s t) (l6I a3 a6 t) := by
  have b1 := k.b1
  have b2 := k.b2
  have b3 := k.b3
  have b4 := k.b4
  have b6 := k.b6
  have m1 := mab hs b1
  have m2 := mab hs hs
  have m3 := mab hs b3
  have m4 := mab ht b1
  have m5 := mab hs ht
  have m6 := mab ht b3
  have m7 := mab ht ht
  refine ⟨sz_small ?_, sz_small ?_, sz_small ?_, sz_small ?_, sz_small ?_⟩
  · unfold l1I
    clear m1 m2 m3 m4 m5 m6 m7 b2 b3 b4 b6
    rcases hu with rfl | rfl <;> omega
  · unfold l2I
    clear m3 m4 m5 m6 m7 b3 b4 b6
    generalize s * a1 = p at *
    generalize s * s = q at *
    omega
  · unfold l3I
    clear m1 m2 m3 m4 m5 m6 m7 b1 b2 b4 b6
    rcases hu with rfl | rfl <;> omega
  · unfold l4I
    rw [show 2 * s * t = 2 * (s * t) from Int.mul_assoc ..]
    clear m1 m2 m6 m7 b1 b2 b3 b6
    generalize s * a3 = p at *
    generalize t * a1 = q at *
    generalize s * t = r at *
    omega
  · unfold l6I
    clear m1 m2 m3 m4 m5 b1 b2 b3 b4
    generalize t * a3 = p at *
    generalize t * t = q at *
    omega
theorem sz4 {i : Int} (h : i.natAbs ≤ 4) : hz (i : Rat) ≤ 60 := hz_20 (sz_small (by omega))
theorem u_inv (hu : u = 1 ∨ u = -1) : ((u : Rat))⁻¹ = u := by rcases hu with rfl | rfl <;> decide +kernel
theorem u_ne (hu : u = 1 ∨ u = -1) : (u : Rat) ≠ 0 := by rcases hu with rfl | rfl <;> decide +kernel
theorem led_int (h : Sz5 a1 a2 a3 a4 a6) (h0 : DI a1 a2 a3 a4 a6 ≠ 0) (hu : u = 1 ∨ u = -1) (hs : s.natAbs ≤ 4) (ht : t.natAbs ≤ 4) (σ : S) :
    m_led [.p (fv a1 a2 a3 a4 a6), .p (.tup [.int u, .int 0, .int s, .int t])] σ = .ok (.p (fv (l1I u a1 s) (l2I a1 a2 s) (l3I u a3 t) (l4I a1 a3 a4 s t) (l6I a3 a6 t))) σ := by
  have e := led_q (u := (u : Rat)) (r := ((0 : Int) : Rat)) (s := (s : Rat)) (t := (t : Rat)) (h.cq h0) (u_ne hu) (sz4 (by omega)) (sz4 (by decide)) (sz4 hs) (sz4 ht) σ
  have z0 : ((0 : Int) : Rat) = 0 := rfl
  have c2 : ((2 : Int) : Rat) = 2 := rfl
  have uu : (u : Rat) * u = 1 := by rcases hu with rfl | rfl <;> decide +kernel
  have e1 : tb1 (a1 : Rat) s * (u : Rat)⁻¹ = ((l1I u a1 s : Int) : Rat) := by
    rw [u_inv hu]; unfold tb1 l1I; simp only [Rat.intCast_sub, rc_add, rc_mul, c2]; grind
  have e2 : tb2 (a1 : Rat) a2 ((0 : Int) : Rat) s * (u : Rat)⁻¹ * (u : Rat)⁻¹ = ((l2I a1 a2 s : Int) : Rat) := by
    rw [u_inv hu, Rat.mul_assoc, uu, Rat.mul_one]; unfold tb2 l2I; simp only [Rat.intCast_sub, rc_add, rc_mul, z0]; grind
  have e3 : tb3 (a1 : Rat) a3 ((0 : Int) : Rat) t * (u : Rat)⁻¹ * (u : Rat)⁻¹ * (u : Rat)⁻¹ = ((l3I u a3 t : Int) : Rat) := by
    rw [u_inv hu, Rat.mul_assoc _ (u : Rat) (u : Rat), uu, Rat.mul_one]; unfold tb3 l3I; simp only [Rat.intCast_sub, rc_add, rc_mul, z0, c2]; grind
  have e4 : tb4 (a1 : Rat) a2 a3 a4 ((0 : Int) : Rat) s t * (u : Rat)⁻¹ * (u : Rat)⁻¹ * (u : Rat)⁻¹ * (u : Rat)⁻¹ = ((l4I a1 a3 a4 s t : Int) : Rat) := by
    rw [u_inv hu, Rat.mul_assoc _ (u : Rat) (u : Rat), uu, Rat.mul_one, Rat.mul_assoc _ (u : Rat) (u : Rat), uu, Rat.mul_one]; unfold tb4 l4I; simp only [Rat.intCast_sub, rc_add, rc_mul, z0, c2]; grind
  have e6 : tb6 (a1 : Rat) a2 a3 a4 a6 ((0 : Int) : Rat) t * (u : Rat)⁻¹ * (u : Rat)⁻¹ * (u : Rat)⁻¹ * (u : Rat)⁻¹ * (u : Rat)⁻¹ * (u : Rat)⁻¹ = ((l6I a3 a6 t : Int) : Rat) := by
    rw [u_inv hu, Rat.mul_assoc _ (u : Rat) (u : Rat), uu, Rat.mul_one, Rat.mul_assoc _ (u : Rat) (u : Rat), uu, Rat.mul_one, Rat.mul_assoc _ (u : Rat) (u : Rat), uu, Rat.mul_one]; unfold tb6 l6I; simp only [Rat.intCast_sub, rc_add, rc_mul, z0]; grind
  rw [e1, e2, e3, e4, e6] at e
  exact e
end
def rat1 : P → Rat
  | .int i => i
  | .tup [.int n, .int d] => Rat.divInt n d
  | _ => 0
theorem rat_fq (q : Rat) : rat1 (fq q) = q := by
  unfold fq
  by_cases h : q.den = 1
  · rw [if_pos h]
    show ((q.num : Int) : Rat) = q
    conv => rhs; rw [← Rat.num_divInt_den q, h]
    exact (dv1 _).symm
  · rw [if_neg h]
    exact Rat.num_divInt_den q
noncomputable def mvF (u s t : Int) : P → P
  | .tup [x, y] => pt (rat1 x) ((u : Rat) * (rat1 y - s * rat1 x - t))
  | _ => .non
def kyF : P → Int × Int
  | .tup [x, y] => (wq (rat1 x), wq (rat1 y))
  | _ => (0, 0)
section
variable {a1 a2 a3 a4 a6 u s t a d T : Int}
theorem mvF_pt (x y : Rat) : mvF u s t (pt x y) = pt x ((u : Rat) * (y - s * x - t)) := by
  show pt (rat1 (fq x)) ((u : Rat) * (rat1 (fq y) - s * rat1 (fq x) - t)) = _
  rw [rat_fq, rat_fq]
theorem dv_q (n b : Int) : Rat.divInt n b = (n : Rat) * (b : Rat)⁻¹ := by
  rw [Rat.divInt_eq_div, Rat.div_def]
theorem mvF_pair (hd : d = 1 ∨ d = 2 ∨ d = 3) : mvF u s t (pairP a (d * d) T (2 * d ^ 3)) = pairP a (d * d) (u * (T - 2 * s * a * d - 2 * t * d ^ 3)) (2 * d ^ 3) := by
  have e : (u : Rat) * (Rat.divInt T (2 * d ^ 3) - s * Rat.divInt a (d * d) - t) = Rat.divInt (u * (T - 2 * s * a * d - 2 * t * d ^ 3)) (2 * d ^ 3) := by
    rw [dv_q, dv_q, dv_q]
    simp only [Rat.intCast_sub, rc_mul]
    have c2 : ((2 : Int) : Rat) = 2 := rfl
    rcases hd with rfl | rfl | rfl
    · have k1 : (((1 : Int) ^ 3 : Int) : Rat) = 1 := by decide +kernel
      have k2 : ((1 : Int) : Rat) = 1 := rfl
      have k3 : ((2 : Rat) * 1)⁻¹ * 2 = 1 := by decide +kernel
      have k4 : ((1 : Rat) * 1)⁻¹ = 1 := by decide +kernel
      rw [k1, k2, c2, k4]
      generalize ((2 : Rat) * 1)⁻¹ = z at *
      grind
    · have k1 : (((2 : Int) ^ 3 : Int) : Rat) = 8 := by decide +kernel
      have k3 : ((2 : Rat) * 8)⁻¹ * 16 = 1 := by decide +kernel
      have k4 : ((2 : Rat) * 2)⁻¹ = ((2 : Rat) * 8)⁻¹ * 4 := by decide +kernel
      rw [k1, c2, k4]
      generalize ((2 : Rat) * 8)⁻¹ = z at *
      grind
    · have k1 : (((3 : Int) ^ 3 : Int) : Rat) = 27 := by decide +kernel
      have k2 : ((3 : Int) : Rat) = 3 := rfl
      have k3 : ((2 : Rat) * 27)⁻¹ * 54 = 1 := by decide +kernel
      have k4 : ((3 : Rat) * 3)⁻¹ = ((2 : Rat) * 27)⁻¹ * 6 := by decide +kernel
      rw [k1, k2, c2, k4]
      generalize ((2 : Rat) * 27)⁻¹ = z at *
      grind
  show mvF u s t (pt _ _) = pt _ _
  rw [mvF_pt, e]
def kw (d : Int) : Int := wC / (d * d)
def kw2 (d : Int) : Int := wC / (2 * d ^ 3)
theorem kyF_pair (hd : d = 1 ∨ d = 2 ∨ d = 3) : kyF (pairP a (d * d) T (2 * d ^ 3)) = (a * kw d, T * kw2 d) := by
  show (wq (rat1 (fq _)), wq (rat1 (fq _))) = _
  rw [rat_fq, rat_fq, wq_div (k := kw d), wq_div (k := kw2 d)]
  all_goals (rcases hd with rfl | rfl | rfl <;> decide +kernel)
theorem kw2_pos (hd : d = 1 ∨ d = 2 ∨ d = 3) : 0 < kw2 d := by rcases hd with rfl | rfl | rfl <;> decide +kernel
theorem pts_mv (hu : u = 1 ∨ u = -1) (hd : d = 1 ∨ d = 2 ∨ d = 3) : (ptsI (l1I u a1 s) (l2I a1 a2 s) (l3I u a3 t) (l4I a1 a3 a4 s t) (l6I a3 a6 t) a d).Perm ((ptsI a1 a2 a3 a4 a6 a d).map (mvF u s t)) := by
  unfold ptsI
  rw [led_inn hu, led_mid]
  cases rootP (innI a1 a2 a3 a4 a6 a d) with
  | int h =>
    dsimp only
    generalize midI a1 a3 a d = m
    rw [List.map_map]
    have ef : (mvF u s t ∘ fun T => pairP a (d * d) T (2 * d ^ 3)) = fun T => pairP a (d * d) (u * (T - 2 * s * a * d - 2 * t * d ^ 3)) (2 * d ^ 3) := by
      funext T
      exact mvF_pair hd
    rw [ef]
    unfold topsI
    generalize 2 * s * a * d = p
    generalize 2 * t * d ^ 3 = q
    by_cases h0 : h = 0
    · rw [if_pos h0, if_pos h0, h0]
      simp only [List.map_cons, List.map_nil]
      rw [show 0 - u * (m + p + q) = u * (0 - m - p - q) by grind]
    · rw [if_neg h0, if_neg h0]
      simp only [List.map_cons, List.map_nil]
      rcases hu with rfl | rfl
      · rw [show -h - 1 * (m + p + q) = 1 * (-h - m - p - q) by grind, show h - 1 * (m + p + q) = 1 * (h - m - p - q) by grind]
      · rw [show -h - -1 * (m + p + q) = -1 * (h - m - p - q) by grind, show h - -1 * (m + p + q) = -1 * (-h - m - p - q) by grind]
        exact .swap ..
  | _ => exact .refl _
theorem du_mv (hu : u = 1 ∨ u = -1) : ∀ l : List (Int × Int), (∀ p ∈ l, p.2 = 1 ∨ p.2 = 2 ∨ p.2 = 3) → (duL (l1I u a1 s) (l2I a1 a2 s) (l3I u a3 t) (l4I a1 a3 a4 s t) (l6I a3 a6 t) l).Perm ((duL a1 a2 a3 a4 a6 l).map (mvF u s t))
  | [], _ => .refl _
  | p :: l, h => by
    have ih := du_mv hu l fun q hq => h q (List.mem_cons_of_mem _ hq)
    unfold duL at *
    rw [List.flatMap_cons, List.flatMap_cons, List.map_append]
    exact (pts_mv hu (h p List.mem_cons_self)).append ih
theorem rows_up : ∀ far ∈ List.range' 1 12, (prU far).Pairwise fun p q => p.1 * kw p.2 < q.1 * kw q.2 := by decide +kernel
theorem du_up {far : Nat} (f1 : 1 ≤ far) (f2 : far ≤ 12) : (duL a1 a2 a3 a4 a6 (prU far)).Pairwise fun x y => ltp (kyF x) (kyF y) := by
  have fm := far_mem f1 f2
  unfold duL
  rw [List.pairwise_flatMap]
  have r4 := rows_c4 far fm
  refine ⟨fun p hp => ?_, (rows_up far fm).imp_of_mem fun {p q} hp hq h x hx y hy => ?_⟩
  · obtain ⟨_, hd, _⟩ := r4 p hp
    unfold ptsI
    rcases rootP_two (innI a1 a2 a3 a4 a6 p.1 p.2) with ⟨r, r0, _, hR⟩ | ⟨_, hR⟩
    · rw [hR]
      dsimp only
      unfold topsI
      by_cases h0 : r = 0
      · rw [if_pos h0]
        exact List.pairwise_singleton _ _
      · rw [if_neg h0]
        simp only [List.map_cons, List.map_nil]
        refine List.pairwise_cons.mpr ⟨fun z hz => ?_, List.pairwise_singleton _ _⟩
        rw [List.mem_singleton.mp hz, kyF_pair hd, kyF_pair hd]
        exact .inr ⟨rfl, Int.mul_lt_mul_of_pos_right (by omega) (kw2_pos hd)⟩
    · rw [hR]
      exact .nil
  · have el : ∀ {p : Int × Int} {x : P}, (p.2 = 1 ∨ p.2 = 2 ∨ p.2 = 3) → x ∈ ptsI a1 a2 a3 a4 a6 p.1 p.2 → (kyF x).1 = p.1 * kw p.2 := fun {p x} hd hx => by
      unfold ptsI at hx
      rcases rootP_two (innI a1 a2 a3 a4 a6 p.1 p.2) with ⟨r, _, _, hR⟩ | ⟨_, hR⟩
      · rw [hR] at hx
        obtain ⟨T, _, rfl⟩ := List.mem_map.mp hx
        rw [kyF_pair hd]
      · rw [hR] at hx
        cases hx
    left
    rw [el (r4 p hp).2.1 hx, el (r4 q hq).2.1 hy]
    exact h
end
theorem rat_whole {q : Rat} {N : Int} (h : q * q = N) : ∃ r : Int, q = r ∧ r * r = N := by
  have nd := num_den q
  have h1 : ((q.num * q.num : Int) : Rat) = ((N * ((q.den : Int) * (q.den : Int)) : Int) : Rat) := by
    rw [rc_mul, rc_mul, rc_mul, ← nd, ← h]
    grind
  have h2 := cast_inj h1
  have hd : (q.den : Int) ∣ q.num * q.num := ⟨N * (q.den : Int), by rw [h2]; grind⟩
  have hc : Nat.Coprime q.den q.num.natAbs := q.reduced.symm
  have hn : q.den ∣ q.num.natAbs * q.num.natAbs := by
    have := Int.natAbs_dvd_natAbs.mpr hd
    rwa [Int.natAbs_mul, Int.natAbs_natCast] at this
  have h3 := hc.dvd_of_dvd_mul_left hn
  have h4 : q.den = 1 := by
    have := Nat.dvd_gcd (Nat.dvd_refl _) h3
    rw [hc] at this
    exact Nat.dvd_one.mp this
  refine ⟨q.num, ?_, ?_⟩
  · rw [h4] at nd
    rw [← nd]
    exact (Rat.mul_one q).symm
  · rw [h2, h4]
    grind
theorem dv_of {Y : Rat} {n b : Int} (hb : (b : Rat) ≠ 0) (h : Y * (b : Rat) = n) : Y = Rat.divInt n b := by
  rw [dv_q, ← h, Rat.mul_assoc, Rat.mul_inv_cancel _ hb, Rat.mul_one]
theorem of_dv {n b : Int} (hb : (b : Rat) ≠ 0) : Rat.divInt n b * (b : Rat) = n := by
  rw [dv_q, Rat.mul_assoc, Rat.inv_mul_cancel _ hb, Rat.mul_one]
theorem rows_in : ∀ far ∈ List.range' 1 12, ∀ d ∈ [1, 2, 3], ∀ k ∈ List.range (2 * far + 1), (d : Int) * d ≤ far → Int.gcd ((k : Int) - far) d = 1 → ((k : Int) - far, d) ∈ prU far := by decide +kernel
section
variable {a1 a2 a3 a4 a6 : Int}
theorem ev_inn (x y b : Rat) {a : Rat} (hx : x * b = a) : (2 * y + a1 * x + a3) * (b * b) * ((2 * y + a1 * x + a3) * (b * b)) = b * (4 * a * a * a + (a1 * a1 + 4 * a2) * a * a * b + 2 * (2 * a4 + a1 * a3) * a * b * b + (a3 * a3 + 4 * a6) * b * b * b) + 4 * (b * b * b * b) * ev (a1 : Rat) a2 a3 a4 a6 x y := by
  subst hx
  unfold ev
  grind
theorem innL_cast (a b : Int) : ((b * innL a1 a2 a3 a4 a6 a b : Int) : Rat) = (b : Rat) * (4 * a * a * a + (a1 * a1 + 4 * a2) * a * a * b + 2 * (2 * a4 + a1 * a3) * a * b * b + (a3 * a3 + 4 * a6) * b * b * b) := by
  unfold innL bb2 bb4 bb6
  have c2 : ((2 : Int) : Rat) = 2 := rfl
  have c4 : ((4 : Int) : Rat) = 4 := rfl
  simp only [rc_add, rc_mul, c2, c4]
theorem pt_found {far : Nat} (f1 : 1 ≤ far) (f2 : far ≤ 12) {X Y : Rat} (h : ev (a1 : Rat) a2 a3 a4 a6 X Y = 0) (hn : (X.num.natAbs : Int) ≤ far) (hd : (X.den : Int) ≤ far) : pt X Y ∈ dueL a1 a2 a3 a4 a6 far := by
  have nd := num_den X
  have e := ev_inn (a1 := a1) (a2 := a2) (a3 := a3) (a4 := a4) (a6 := a6) X Y ((X.den : Int) : Rat) nd
  rw [h, Rat.mul_zero, Rat.add_zero, ← innL_cast] at e
  obtain ⟨r, er, hr⟩ := rat_whole e
  have hg : Int.gcd X.num X.den = 1 := X.reduced
  have hz := X.den_nz
  have hX : X = Rat.divInt X.num X.den := (Rat.num_divInt_den X).symm
  obtain ⟨b, hb⟩ : ∃ b : Int, b = X.den := ⟨_, rfl⟩
  rw [← hb] at nd er hr hg hd hX
  generalize X.num = a at *
  have hsq : ∃ d : Int, (d = 1 ∨ d = 2 ∨ d = 3) ∧ b = d * d := by
    have no := at_no (a1 := a1) (a2 := a2) (a3 := a3) (a4 := a4) (a6 := a6) hg
    have bc : b = 1 ∨ b = 2 ∨ b = 3 ∨ b = 4 ∨ b = 5 ∨ b = 6 ∨ b = 7 ∨ b = 8 ∨ b = 9 ∨ b = 10 ∨ b = 11 ∨ b = 12 := by omega
    have no' : ¬ (b = 2 ∨ b = 3 ∨ b = 5 ∨ b = 6 ∨ b = 7 ∨ b = 8 ∨ b = 10 ∨ b = 11 ∨ b = 12) := fun z => no z r hr
    rcases (show b = 1 ∨ b = 4 ∨ b = 9 by omega) with z | z | z
    · exact ⟨1, .inl rfl, z⟩
    · exact ⟨2, .inr (.inl rfl), z⟩
    · exact ⟨3, .inr (.inr rfl), z⟩
  obtain ⟨d, d3, rfl⟩ := hsq
  have gd : Int.gcd a d = 1 := by
    have : Nat.gcd a.natAbs d.natAbs ∣ Nat.gcd a.natAbs (d * d).natAbs := Nat.dvd_gcd (Nat.gcd_dvd_left ..) (by rw [Int.natAbs_mul]; exact Nat.dvd_trans (Nat.gcd_dvd_right ..) (Nat.dvd_mul_right ..))
    have h1 : Nat.gcd a.natAbs (d * d).natAbs = 1 := hg
    rw [h1] at this
    exact Nat.dvd_one.mp this
  rw [inn_sq] at hr
  obtain ⟨t, ht, hrt⟩ : ∃ t : Int, t * t = innI a1 a2 a3 a4 a6 a d ∧ r = d * t := by
    rcases d3 with rfl | rfl | rfl
    · exact ⟨r, by omega, by omega⟩
    · have h2 : (2 : Int) ∣ r * r := ⟨2 * innI a1 a2 a3 a4 a6 a 2, by omega⟩
      obtain ⟨t, rfl⟩ : (2 : Int) ∣ r := by rcases pm2.mul h2 with z | z <;> exact z
      exact ⟨t, by
        have : 2 * t * (2 * t) = 4 * (t * t) := by grind
        omega, rfl⟩
    · have h2 : (3 : Int) ∣ r * r := ⟨3 * innI a1 a2 a3 a4 a6 a 3, by omega⟩
      obtain ⟨t, rfl⟩ : (3 : Int) ∣ r := by rcases pm3.mul h2 with z | z <;> exact z
      exact ⟨t, by
        have : 3 * t * (3 * t) = 9 * (t * t) := by grind
        omega, rfl⟩
  have hY : Y = Rat.divInt (t - midI a1 a3 a d) (2 * d ^ 3) := by
    subst hrt
    have c2 : ((2 : Int) : Rat) = 2 := rfl
    unfold midI
    have dz : (d : Rat) ≠ 0 := by rcases d3 with rfl | rfl | rfl <;> decide +kernel
    refine dv_of (by rcases d3 with rfl | rfl | rfl <;> decide +kernel) ?_
    rw [rc_mul] at nd er
    rw [rc_mul] at er
    simp only [Rat.intCast_sub, rc_add, rc_mul, c2, show d ^ 3 = d * d * d by grind]
    have k : (d : Rat) * ((2 * Y + a1 * X + a3) * (d * d * d) - t) = 0 := by grind
    rcases Rat.mul_eq_zero.mp k with z | z
    · exact absurd z dz
    · grind
  have hm : (a, d) ∈ prU far := by
    have fm := far_mem f1 f2
    have hdd : d * d ≤ far := hd
    have := rows_in far fm d (by simp; omega) (a + far).toNat (List.mem_range.mpr (by omega)) hdd
    rw [show (((a + far).toNat : Nat) : Int) - far = a by omega] at this
    exact this gd
  have hp : pt X Y ∈ ptsI a1 a2 a3 a4 a6 a d := by
    have hR := rootP_int (n := innI a1 a2 a3 a4 a6 a d) (r := (t.natAbs : Int)) (by omega) (by rw [← ht]; exact Int.natAbs_mul_self)
    unfold ptsI
    rw [hR]
    dsimp only
    rw [hX, hY]
    refine List.mem_map.mpr ⟨t - midI a1 a3 a d, ?_, rfl⟩
    unfold topsI
    by_cases h0 : ((t.natAbs : Nat) : Int) = 0
    · rw [if_pos h0]
      refine List.mem_singleton.mpr ?_
      omega
    · rw [if_neg h0]
      simp only [List.mem_cons, List.not_mem_nil, or_false]
      omega
  unfold dueL duL
  exact List.mem_cons_of_mem _ (List.mem_flatMap.mpr ⟨_, hm, hp⟩)
theorem rows_dd : ∀ far ∈ List.range' 1 12, ∀ p ∈ prU far, (p.1.natAbs : Int) ≤ far ∧ p.2 * p.2 ≤ far := by decide +kernel
theorem du_q (h : Sz5 a1 a2 a3 a4 a6) {far : Nat} (f1 : 1 ≤ far) (f2 : far ≤ 12) {z : P} (hz : z ∈ dueL a1 a2 a3 a4 a6 far) : ∃ Q : Pq, z = pO Q ∧ OkQ (a1 : Rat) a2 a3 a4 a6 110 Q ∧ ∀ x y, Q = some (x, y) → (x.num.natAbs : Int) ≤ far ∧ (x.den : Int) ≤ far := by
  have fm := far_mem f1 f2
  unfold dueL at hz
  rcases List.mem_cons.mp hz with e | hz
  · exact ⟨none, e, trivial, fun x y h => by cases h⟩
  unfold duL at hz
  obtain ⟨⟨a, d⟩, hp, hz⟩ := List.mem_flatMap.mp hz
  obtain ⟨ha, d3, hg⟩ := rows_c4 far fm _ hp
  obtain ⟨da, dd'⟩ := rows_dd far fm _ hp
  dsimp only at ha d3 hg da dd' hz
  obtain ⟨e1, _, e3, _, _⟩ := d_bounds d3
  have hN := innI_sz h ha d3
  have hm : szi (midI a1 a3 a d) 40 := by
    have sa : szi a 4 := Nat.lt_of_le_of_lt ha (by decide)
    have sd : szi d 3 := Nat.lt_of_le_of_lt (show d.natAbs ≤ 3 by omega) (by decide)
    have s3 : szi (d ^ 3) 5 := Nat.lt_of_le_of_lt (show (d ^ 3).natAbs ≤ 27 by omega) (by decide)
    exact szi.sum ((h.s1.mul sa).mul sd) (h.s3.mul s3)
  unfold ptsI at hz
  rcases rootP_two (innI a1 a2 a3 a4 a6 a d) with ⟨r, r0, er, hR⟩ | ⟨_, hR⟩
  · rw [hR] at hz
    dsimp only at hz
    obtain ⟨T, hT, rfl⟩ := List.mem_map.mp hz
    have hsq : (T + midI a1 a3 a d) * (T + midI a1 a3 a d) = innI a1 a2 a3 a4 a6 a d := by
      have : T + midI a1 a3 a d = r ∨ T + midI a1 a3 a d = -r := by
        unfold topsI at hT
        split at hT
        · rw [List.mem_singleton.mp hT]
          omega
        · simp only [List.mem_cons, List.not_mem_nil, or_false] at hT
          omega
      rcases this with e | e
      · rw [e, er]
      · rw [e, ← er]
        grind
    have sr : szi r 300 := by
      have : r ≤ innI a1 a2 a3 a4 a6 a d := by
        rw [← er]
        rcases (show r = 0 ∨ 1 ≤ r by omega) with z | z
        · rw [z]; decide
        · have := Int.mul_le_mul_of_nonneg_left z r0
          omega
      unfold szi at *
      omega
    have st : szi T 302 := by
      unfold topsI at hT
      have n1 : szi (-r) 301 := by unfold szi at *; rw [Int.natAbs_neg]; exact Nat.lt_of_lt_of_le sr (Nat.pow_le_pow_right (by decide) (by decide))
      split at hT
      · rw [List.mem_singleton.mp hT]
        exact szi.dif (sr.mono (by decide : 300 ≤ 301)) hm
      · simp only [List.mem_cons, List.not_mem_nil, or_false] at hT
        rcases hT with rfl | rfl
        · exact szi.dif n1 hm
        · exact szi.dif (sr.mono (by decide : 300 ≤ 301)) hm
    have hgd : Int.gcd a (d * d) = 1 := by
      have c : Nat.Coprime a.natAbs d.natAbs := hg
      show Nat.gcd a.natAbs (d * d).natAbs = 1
      rw [Int.natAbs_mul]
      exact Nat.Coprime.mul_right c c
    obtain ⟨n1, n2⟩ := num_cop (a := a) (b := d * d) (by omega) hgd
    have b1 : (((d * d : Int)) : Rat) ≠ 0 := by rcases d3 with rfl | rfl | rfl <;> decide +kernel
    have b2 : (((2 * d ^ 3 : Int)) : Rat) ≠ 0 := by rcases d3 with rfl | rfl | rfl <;> decide +kernel
    have kx := of_dv (n := a) b1
    have ky := of_dv (n := T) b2
    have hev : ev (a1 : Rat) a2 a3 a4 a6 (Rat.divInt a (d * d)) (Rat.divInt T (2 * d ^ 3)) = 0 := by
      have e := ev_inn (a1 := a1) (a2 := a2) (a3 := a3) (a4 := a4) (a6 := a6) (Rat.divInt a (d * d)) (Rat.divInt T (2 * d ^ 3)) ((d * d : Int) : Rat) kx
      rw [← innL_cast, inn_sq, ← hsq] at e
      have c2 : ((2 : Int) : Rat) = 2 := rfl
      have k2 : (2 * Rat.divInt T (2 * d ^ 3) + a1 * Rat.divInt a (d * d) + a3) * (((d * d : Int) : Rat) * ((d * d : Int) : Rat)) = ((d * (T + midI a1 a3 a d) : Int) : Rat) := by
        unfold midI
        simp only [rc_add, rc_mul, c2, show d ^ 3 = d * d * d by grind] at kx ky ⊢
        generalize Rat.divInt a (d * d) = X at *
        generalize Rat.divInt T _ = Y at *
        grind
      rw [k2] at e
      have e2 : ((d * (T + midI a1 a3 a d) : Int) : Rat) * ((d * (T + midI a1 a3 a d) : Int) : Rat) = ((d * d * ((T + midI a1 a3 a d) * (T + midI a1 a3 a d)) : Int) : Rat) := by
        rw [← rc_mul]
        congr 1
        grind
      rw [e2] at e
      have e3 : (4 * (((d * d : Int) : Rat) * ((d * d : Int) : Rat) * ((d * d : Int) : Rat) * ((d * d : Int) : Rat))) * ev (a1 : Rat) a2 a3 a4 a6 (Rat.divInt a (d * d)) (Rat.divInt T (2 * d ^ 3)) = 0 := by grind
      rcases Rat.mul_eq_zero.mp e3 with z | z
      · exfalso
        revert z
        clear e3 e2 e k2 kx ky
        rcases d3 with rfl | rfl | rfl <;> decide +kernel
      · exact z
    refine ⟨some (Rat.divInt a (d * d), Rat.divInt T (2 * d ^ 3)), rfl, ⟨hev, 12, ?_⟩, fun x y hxy => ?_⟩
    · have w : ∀ {i : Int}, szi i 20 → Wn 12 110 1 (i : Rat) := fun {i} h => ⟨i * 12, by
        rw [Rat.pow_one, rc_mul], (h.mul (show szi 12 4 by decide)).mono (by decide)⟩
      have dk : ∃ k j : Int, d * d * k = 144 ∧ 2 * d ^ 3 * j = 1728 ∧ szi k 12 ∧ szi j 12 := by
        rcases d3 with rfl | rfl | rfl
        · exact ⟨144, 864, by decide⟩
        · exact ⟨36, 108, by decide⟩
        · exact ⟨16, 32, by decide⟩
      obtain ⟨k, j, hk, hj, sk, sj⟩ := dk
      refine ⟨by decide, by decide, w h.s1, w h.s2, w h.s3, w h.s4, w h.s6, ⟨a * k, ?_, ?_⟩, ⟨T * j, ?_, ?_⟩⟩
      · have : (((12 : Int) : Rat)) ^ 2 = ((d * d * k : Int) : Rat) := by rw [hk]; decide +kernel
        rw [this, rc_mul _ k, rc_mul a k, ← kx]
        grind
      · exact ((show szi a 4 from Nat.lt_of_le_of_lt ha (by decide)).mul sk).mono (by decide)
      · have : (((12 : Int) : Rat)) ^ 3 = ((2 * d ^ 3 * j : Int) : Rat) := by rw [hj]; decide +kernel
        rw [this, rc_mul _ j, rc_mul T j, ← ky]
        grind
      · exact (st.mul sj).mono (by decide)
    · injection hxy with hxy
      injection hxy with hx hy
      rw [← hx, n1, n2]
      exact ⟨da, dd'⟩
  · rw [hR] at hz
    cases hz
theorem pO_due (h : Sz5 a1 a2 a3 a4 a6) {far : Nat} (f1 : 1 ≤ far) (f2 : far ≤ 12) {Q : Pq} (ho : OnQ (a1 : Rat) a2 a3 a4 a6 Q) (hh : hgt (pO Q) ≤ (far : Int)) : pO Q ∈ dueL a1 a2 a3 a4 a6 far := by
  rcases Q with _ | ⟨x, y⟩
  · exact List.mem_cons_self
  · have e : hgt (pO (some (x, y))) = _ := hgt_fq x y
    rw [e] at hh
    exact pt_found f1 f2 ho (by omega) (by omega)
theorem opp_due (h : Sz5 a1 a2 a3 a4 a6) {far : Nat} (f1 : 1 ≤ far) (f2 : far ≤ 12) {Q : Pq} (ho : OkQ (a1 : Rat) a2 a3 a4 a6 110 Q) (hq : ∀ x y, Q = some (x, y) → (x.num.natAbs : Int) ≤ far ∧ (x.den : Int) ≤ far) : pO (ngQ (a1 : Rat) a3 Q) ∈ dueL a1 a2 a3 a4 a6 far := by
  rcases Q with _ | ⟨x, y⟩
  · exact List.mem_cons_self
  · obtain ⟨h1, h2⟩ := hq x y rfl
    refine pt_found f1 f2 ?_ h1 h2
    have := ho.1
    unfold ev at this ⊢
    grind
end
theorem atI_mem (xs : List P) (d : Int) (h0 : 0 ≤ d) (h1 : d < xs.length) : ∃ x, x ∈ xs ∧ L2.atI xs d = some x := by
  refine ⟨xs[d.toNat]'(by omega), List.getElem_mem _, ?_⟩
  unfold L2.atI
  rw [ixN_ok h0 h1, Option.bind_some, List.getElem?_eq_getElem (by omega)]
theorem Thr.s5 {a1 a2 a3 a4 a6 x y v w : Int} (t : Thr a1 a2 a3 a4 a6 x y v w) : Sz5 a1 a2 a3 a4 a6 := by
  obtain ⟨h1, h2, h3, h4, h6⟩ := t.sz
  exact ⟨h1, h2, h3, h4, h6⟩
theorem height_pO (Q : Pq) (s : S) : m_Lheight [.p (pO Q)] s = .ok (.p (.int (hgt (pO Q)))) s := by
  rcases Q with _ | ⟨x, y⟩
  · exact Lheight_non s
  · exact Lheight_ok x y s
structure FoundL (F : P) (L : List P) (far : Nat) : Prop where
  n0 : 0 < L.length
  n1 : L.length ≤ 1000
  ad : ∀ x ∈ L, ∀ y ∈ L, ∃ z : P, (∀ s, m_added [.p F, .p x, .p y] s = .ok (.p z) s) ∧ (∀ s, m_Lheight [.p z] s = .ok (.p (.int (hgt z))) s) ∧ (hgt z ≤ (far : Int) → ∀ s, inD true (.p z) (.p (.lst L)) s = .ok (.p (.bl false)) s)
  op : ∀ x ∈ L, ∃ z : P, (∀ s, m_opposite [.p F, .p x] s = .ok (.p z) s) ∧ ∀ s, inD true (.p z) (.p (.lst L)) s = .ok (.p (.bl false)) s
section
variable {a1 a2 a3 a4 a6 : Int}
theorem found_ok (h : Sz5 a1 a2 a3 a4 a6) (h0 : DI a1 a2 a3 a4 a6 ≠ 0) {far : Nat} (f1 : 1 ≤ far) (f2 : far ≤ 12) : FoundL (fv a1 a2 a3 a4 a6) (dueL a1 a2 a3 a4 a6 far) far := by
  have hL := due_pt h far f1 f2
  have len := due_len (a1 := a1) (a2 := a2) (a3 := a3) (a4 := a4) (a6 := a6) far f1 f2
  obtain ⟨K, kin, kout⟩ := in_pts hL
  have mem : ∀ z ∈ dueL a1 a2 a3 a4 a6 far, ∀ s, inD true (.p z) (.p (.lst (dueL a1 a2 a3 a4 a6 far))) s = .ok (.p (.bl false)) s := fun z hz s => by
    rw [kin z (hL z hz) s, kout z hz]
  refine ⟨by unfold dueL; simp, by omega, fun x hx y hy => ?_, fun x hx => ?_⟩
  · obtain ⟨P, rfl, okP, _⟩ := du_q h f1 f2 hx
    obtain ⟨Q, rfl, okQ, _⟩ := du_q h f1 f2 hy
    have ok := OkQ.add (g := 448) (by decide) (by decide) okP okQ (by decide)
    refine ⟨_, fun s => added_q (h.cq h0) okP okQ (by decide) (by decide) (by decide) (by decide) (by decide) s, fun s => height_pO _ s, fun hh => mem _ (pO_due h f1 f2 ok.on hh)⟩
  · obtain ⟨P, rfl, okP, hq⟩ := du_q h f1 f2 hx
    exact ⟨_, fun s => opposite_q (h.cq h0) okP (by decide) (by decide) s, mem _ (opp_due h f1 f2 okP hq)⟩
def nnP : P → Bool
  | .non => false
  | _ => true
theorem isn_nn (x : P) (s : S) : isN true (.p x) (.p .non) s = .ok (.p (.bl (nnP x))) s := by
  cases x <;> rfl
theorem du_tup {l : List (Int × Int)} {x : P} (hx : x ∈ duL a1 a2 a3 a4 a6 l) : ∃ q r : Rat, x = pt q r := by
  unfold duL at hx
  obtain ⟨p, _, hx⟩ := List.mem_flatMap.mp hx
  unfold ptsI at hx
  split at hx
  · obtain ⟨T, _, rfl⟩ := List.mem_map.mp hx
    exact ⟨_, _, rfl⟩
  · cases hx
theorem du_nn (far : Nat) : (dueL a1 a2 a3 a4 a6 far).filter nnP = duL a1 a2 a3 a4 a6 (prU far) := by
  unfold dueL
  rw [List.filter_cons_of_neg (by decide), List.filter_eq_self.mpr fun x hx => ?_]
  obtain ⟨q, r, rfl⟩ := du_tup hx
  rfl
variable {u s t : Int}
theorem led_pt (h : Sz5 a1 a2 a3 a4 a6) (h0 : DI a1 a2 a3 a4 a6 ≠ 0) {far : Nat} (f1 : 1 ≤ far) (f2 : far ≤ 12) (hu : u = 1 ∨ u = -1) (hs : s.natAbs ≤ 4) (ht : t.natAbs ≤ 4) {x : P} (hx : x ∈ dueL a1 a2 a3 a4 a6 far) (hn : nnP x = true) (σ : S) :
    m_led_point [.p (fv a1 a2 a3 a4 a6), .p x, .p (.tup [.int u, .int 0, .int s, .int t])] σ = .ok (.p (mvF u s t x)) σ := by
  obtain ⟨Q, rfl, ok, _⟩ := du_q h f1 f2 hx
  rcases Q with _ | ⟨x, y⟩
  · cases hn
  · have e := led_point_q (u := (u : Rat)) (r := ((0 : Int) : Rat)) (s := (s : Rat)) (t := (t : Rat)) (h.cq h0) ok (by decide) (by decide) (u_ne hu) (sz4 (by omega)) (sz4 (by decide)) (sz4 hs) (sz4 ht) σ
    have z0 : ((0 : Int) : Rat) = 0 := rfl
    have uu : (u : Rat) * u = 1 := by rcases hu with rfl | rfl <;> decide +kernel
    have e2 : lpt (u : Rat)⁻¹ ((0 : Int) : Rat) s t (some (x, y)) = some (x, (u : Rat) * (y - s * x - t)) := by
      show some ((x - ((0 : Int) : Rat)) * (u : Rat)⁻¹ * (u : Rat)⁻¹, (y - s * (x - ((0 : Int) : Rat)) - t) * (u : Rat)⁻¹ * (u : Rat)⁻¹ * (u : Rat)⁻¹) = _
      rw [u_inv hu, z0]
      have q1 : (x - 0) * (u : Rat) * u = x := by
        rw [Rat.mul_assoc, uu]
        grind
      have q2 : (y - s * (x - 0) - t) * (u : Rat) * u * u = (u : Rat) * (y - s * x - t) := by
        rw [Rat.mul_assoc _ (u : Rat) (u : Rat), uu]
        grind
      rw [q1, q2]
    rw [e2] at e
    have e3 : mvF u s t (pO (some (x, y))) = pO (some (x, (u : Rat) * (y - s * x - t))) := mvF_pt x y
    rw [e3]
    exact e
theorem wth_pt {x : P} (h : ∃ q r : Rat, x = pt q r ∧ hz q ≤ 4000 ∧ hz r ≤ 4000) (s : S) : tupE [(calE m_Lworth [(op2 ixD (vE 0) (cE (.int 0)))]), (calE m_Lworth [(op2 ixD (vE 0) (cE (.int 1)))])] [some (.p x)] s = .ok (.p (ktp (kyF x))) s := by
  obtain ⟨q, r, rfl, h1, h2⟩ := h
  have e : kyF (pt q r) = (wq q, wq r) := by
    show (wq (rat1 (fq q)), wq (rat1 (fq r))) = _
    rw [rat_fq, rat_fq]
  have w1 := fun s => Lworth_ok q h1 s
  have w2 := fun s => Lworth_ok r h2 s
  rw [e]
  unfold pt
  generalize fq q = Q at *
  generalize fq r = R at *
  simp [w1, w2, tupk, ktp]
end
section
variable {pre post : S} {cs : List Int}
theorem LB0_ok (hc : cs ≠ []) {s : S} (h : Drw pre cs post s) {F : P} {L : List P} {far : Nat} (k : FoundL F L far) (x0 x1 x4 x6 x8 x9 x10 x11 x12 x13 x14 x15 : Option D) :
  ∃ (y13 y14 y15 : Option D) (s' : S), Drw pre cs post s' ∧ LB0 [x0, x1, some (.obj (pre.length + 1)), some (.p F), x4, some (.p (.int (far : Int))), x6, some (.p (.lst L)), x8, x9, x10, x11, x12, x13, x14, x15] s = .ok (.nx [x0, x1, some (.obj (pre.length + 1)), some (.p F), x4, some (.p (.int (far : Int))), x6, some (.p (.lst L)), x8, x9, x10, x11, x12, y13, y14, y15]) s' := by
  have n0 := k.n0
  have n1 := k.n1
  have hl : ∀ s, lenD [.p (.lst L)] s = .ok (.p (.int L.length)) s := fun s => rfl
  obtain ⟨v1, s1, a0, a1, h1, e1⟩ := h.next hc (many := L.length) (by omega) (by omega)
  obtain ⟨v2, s2, b0, b1, h2, e2⟩ := h1.next hc (many := L.length) (by omega) (by omega)
  obtain ⟨x, hx, ix⟩ := atI_mem L v1 a0 a1
  obtain ⟨y, hy, iy⟩ := atI_mem L v2 b0 b1
  obtain ⟨z, za, zh, zk⟩ := k.ad x hx y hy
  obtain ⟨w, wo, wk⟩ := k.op x hx
  refine ⟨some (.p x), some (.p y), some (.p z), s2, h2, ?_⟩
  unfold LB0
  by_cases hf : hgt z ≤ (far : Int)
  · have zk := zk hf
    simp [hl, e1, e2, ix, iy, za, zh, wo, wk, zk, hf]
  · simp [hl, e1, e2, ix, iy, za, zh, wo, wk, hf]
theorem LB1_ok (ns : List Int) (hl : ns.length ≤ 63) (k : Int) (k0 : 0 ≤ k) (hk : k = 0 ∨ k < ns.length) (s : S) (x2 x3 x4 x5 x6 x7 x8 x9 x10 x11 x12 x13 x14 x15 : Option D) :
    ∃ (y2 y3 y4 y5 y6 y7 y8 y9 y10 y11 y12 y13 y14 y15 : Option D) (s' : S), LB1 [some (.p (.con (ns.map P.int))), some (.p (.int k)), x2, x3, x4, x5, x6, x7, x8, x9, x10, x11, x12, x13, x14, x15] s = .ok (.nx [some (.p (.con (ns.map P.int))), some (.p (.int k)), y2, y3, y4, y5, y6, y7, y8, y9, y10, y11, y12, y13, y14, y15]) s' := by
  obtain ⟨cs, gs, hc, e1⟩ := Ldraw_ok ns hl k k0 hk s
  have d1 : Drw s cs [] (rS s (cs.map P.int) (64 * k) 0 (gs.map P.int) []) := ⟨_, _, gs, rfl⟩
  generalize hS1 : rS s (cs.map P.int) (64 * k) 0 (gs.map P.int) [] = S1 at *
  obtain ⟨i2, S2, u0, u1, d2, e2⟩ := d1.next hc (many := 2) (by decide) (by decide)
  obtain ⟨z, hzz, ez⟩ : ∃ z : Int, (z = 2 ∨ z = 6) ∧ L2.atI [P.int 2, .int 6] i2 = some (.int z) := by
    have : i2 = 0 ∨ i2 = 1 := by omega
    rcases this with rfl | rfl
    · exact ⟨2, .inl rfl, rfl⟩
    · exact ⟨6, .inr rfl, rfl⟩
  obtain ⟨a1, a2, a3, a4, a6, x, y, v, w, S3, tt, d3, e3⟩ := Lthrough_ok hc d2 hzz
  obtain ⟨f, S4, f0, f1, d4, e4⟩ := d3.next hc (many := 12) (by decide) (by decide)
  obtain ⟨i5, S5, q0, q1, d5, e5⟩ := d4.next hc (many := 2) (by decide) (by decide)
  obtain ⟨u, hu, eu⟩ : ∃ u : Int, (u = 1 ∨ u = -1) ∧ L2.atI [P.int 1, .int (-1)] i5 = some (.int u) := by
    have : i5 = 0 ∨ i5 = 1 := by omega
    rcases this with rfl | rfl
    · exact ⟨1, .inl rfl, rfl⟩
    · exact ⟨-1, .inr rfl, rfl⟩
  obtain ⟨n6, S6, p0, p1, d6, e6⟩ := d5.next hc (many := 9) (by decide) (by decide)
  obtain ⟨n7, S7, r0, r1, d7, e7⟩ := d6.next hc (many := 9) (by decide) (by decide)
  obtain ⟨far, hfar, far1, far2⟩ : ∃ far : Nat, 1 + f = (far : Int) ∧ 1 ≤ far ∧ far ≤ 12 := ⟨(1 + f).toNat, by omega, by omega, by omega⟩
  obtain ⟨sg, hsg⟩ : ∃ q : Int, q = n6 - 4 := ⟨_, rfl⟩
  obtain ⟨tg, htg⟩ : ∃ q : Int, q = n7 - 4 := ⟨_, rfl⟩
  have hs4 : sg.natAbs ≤ 4 := by omega
  have ht4 : tg.natAbs ≤ 4 := by omega
  have sz := tt.s5
  have h0 := tt.d0
  have szl := led_s5 tt hu hs4 ht4
  have h0l : DI (l1I u a1 sg) (l2I a1 a2 sg) (l3I u a3 tg) (l4I a1 a3 a4 sg tg) (l6I a3 a6 tg) ≠ 0 := by rw [led_DI hu]; exact h0
  have es := fun σ => search_ok sz h0 far far1 far2 σ
  have es2 := fun σ => search_ok szl h0l far far1 far2 σ
  have el := fun σ => led_int sz h0 hu hs4 ht4 σ
  have fo := found_ok sz h0 far1 far2
  have lp := fun x (hx : x ∈ dueL a1 a2 a3 a4 a6 far) hn σ => led_pt sz h0 far1 far2 hu hs4 ht4 hx hn σ
  have nn := du_nn (a1 := a1) (a2 := a2) (a3 := a3) (a4 := a4) (a6 := a6) far
  have fm := far_mem far1 far2
  have pm := du_mv (a1 := a1) (a2 := a2) (a3 := a3) (a4 := a4) (a6 := a6) (s := sg) (t := tg) hu (prU far) fun p hp => (rows_c4 far fm p hp).2.1
  have up := du_up (a1 := l1I u a1 sg) (a2 := l2I a1 a2 sg) (a3 := l3I u a3 tg) (a4 := l4I a1 a3 a4 sg tg) (a6 := l6I a3 a6 tg) far1 far2
  have len2 := due_len (a1 := l1I u a1 sg) (a2 := l2I a1 a2 sg) (a3 := l3I u a3 tg) (a4 := l4I a1 a3 a4 sg tg) (a6 := l6I a3 a6 tg) far far1 far2
  have hL2 := due_pt szl far far1 far2
  obtain ⟨t1, ht1, w1, _⟩ := shw_pts hL2 (by omega)
  have m1 := fun s => ne_str_same (s := s) ht1
  have cons2 : dueL (l1I u a1 sg) (l2I a1 a2 sg) (l3I u a3 tg) (l4I a1 a3 a4 sg tg) (l6I a3 a6 tg) far = .non :: duL (l1I u a1 sg) (l2I a1 a2 sg) (l3I u a3 tg) (l4I a1 a3 a4 sg tg) (l6I a3 a6 tg) (prU far) := rfl
  have wp : ∀ x ∈ (duL a1 a2 a3 a4 a6 (prU far)).map (mvF u sg tg), ∃ q r : Rat, x = pt q r ∧ hz q ≤ 4000 ∧ hz r ≤ 4000 := fun x hx => by
    have hx := pm.mem_iff.mpr hx
    rcases hL2 x (by rw [cons2]; exact List.mem_cons_of_mem _ hx) with e | ⟨q, r, e, k1, k2⟩
    · obtain ⟨q, r, e2⟩ := du_tup hx
      rw [e] at e2
      cases e2
    · exact ⟨q, r, e, by omega, by omega⟩
  rw [cons2] at w1 es2 len2
  have n1 := fo.n1
  generalize dueL a1 a2 a3 a4 a6 far = L at *
  generalize duL (l1I u a1 sg) (l2I a1 a2 sg) (l3I u a3 tg) (l4I a1 a3 a4 sg tg) (l6I a3 a6 tg) (prU far) = M2 at *
  generalize fv (l1I u a1 sg) (l2I a1 a2 sg) (l3I u a3 tg) (l4I a1 a3 a4 sg tg) (l6I a3 a6 tg) = F2 at *
  generalize fv a1 a2 a3 a4 a6 = F at *
  generalize duL a1 a2 a3 a4 a6 (prU far) = M at *
  generalize hpts : [P.tup [.int x, .int y], P.tup [.int v, .int w]] = pts at *
  have A1 : asgF ((calE m_Ldraw [vE 0, vE 1])) (setG 2) [some (.p (.con (ns.map P.int))), some (.p (.int k)), x2, x3, x4, x5, x6, x7, x8, x9, x10, x11, x12, x13, x14, x15] s =
      .ok (.nx [some (.p (.con (ns.map P.int))), some (.p (.int k)), some (.obj (s.length + 1)), x3, x4, x5, x6, x7, x8, x9, x10, x11, x12, x13, x14, x15]) S1 := by
    generalize ns.map P.int = N at *
    simp [e1]
  generalize ns.map P.int = N at *
  have A2 : asgF ((calE m_Lthrough [vE 2, (op2 ixD ((lstE [cE (.int 2), cE (.int 6)])) ((calE m_Lnext [vE 2, cE (.int 2)])))])) (tupG 2 (consG (setG 3) (consG (setG 4) nilG))) [some (.p (.con N)), some (.p (.int k)), some (.obj (s.length + 1)), x3, x4, x5, x6, x7, x8, x9, x10, x11, x12, x13, x14, x15] S1 =
      .ok (.nx [some (.p (.con N)), some (.p (.int k)), some (.obj (s.length + 1)), some (.p F), some (.p (.lst pts)), x5, x6, x7, x8, x9, x10, x11, x12, x13, x14, x15]) S3 := by
    simp [e2, ez, e3, sizeLine_eq]
  have A3 : tasF [(op2 (addD true) (cE (.int 1)) ((calE m_Lnext [vE 2, cE (.int 12)]))), (tupE [(op2 ixD ((lstE [cE (.int 1), (op2 (subD) (cE (.int 0)) (cE (.int 1)))])) ((calE m_Lnext [vE 2, cE (.int 2)]))), cE (.int 0), (op2 (subD) ((calE m_Lnext [vE 2, cE (.int 9)])) (cE (.int 4)))])] (consT (setG 5) (consT (setG 6) nilT)) [some (.p (.con N)), some (.p (.int k)), some (.obj (s.length + 1)), some (.p F), some (.p (.lst pts)), x5, x6, x7, x8, x9, x10, x11, x12, x13, x14, x15] S3 =
      .ok (.nx [some (.p (.con N)), some (.p (.int k)), some (.obj (s.length + 1)), some (.p F), some (.p (.lst pts)), some (.p (.int (far : Int))), some (.p (.tup [.int u, .int 0, .int sg])), x7, x8, x9, x10, x11, x12, x13, x14, x15]) S6 := by
    simp [e4, e5, e6, hfar, eu, ← hsg, sizeLine_eq, tupk]
  have A4 : asgF (op2 (addD true) (vE 6) (tupE [(op2 (subD) ((calE m_Lnext [vE 2, cE (.int 9)])) (cE (.int 4)))])) (setG 6) [some (.p (.con N)), some (.p (.int k)), some (.obj (s.length + 1)), some (.p F), some (.p (.lst pts)), some (.p (.int (far : Int))), some (.p (.tup [.int u, .int 0, .int sg])), x7, x8, x9, x10, x11, x12, x13, x14, x15] S6 =
      .ok (.nx [some (.p (.con N)), some (.p (.int k)), some (.obj (s.length + 1)), some (.p F), some (.p (.lst pts)), some (.p (.int (far : Int))), some (.p (.tup [.int u, .int 0, .int sg, .int tg])), x7, x8, x9, x10, x11, x12, x13, x14, x15]) S7 := by
    have ta : ∀ s, addD true (.p (.tup [.int u, .int 0, .int sg])) (.p (.tup [.int tg])) s = .ok (.p (.tup [.int u, .int 0, .int sg, .int tg])) s := fun s => by
      rw [add_tt, if_pos (by rw [sizeLine_eq]; simp)]
      rfl
    generalize P.tup [.int u, .int 0, .int sg] = T at *
    generalize P.tup [.int u, .int 0, .int sg, .int tg] = T2 at *
    simp [e7, ← htg, tupk, ta]
  generalize P.tup [.int u, .int 0, .int sg, .int tg] = C at *
  have A5 : parF 7 8 [(calE m_search [vE 3, vE 5]), (calE m_led [vE 3, vE 6])] [some (.p (.con N)), some (.p (.int k)), some (.obj (s.length + 1)), some (.p F), some (.p (.lst pts)), some (.p (.int (far : Int))), some (.p C), x7, x8, x9, x10, x11, x12, x13, x14, x15] S7 =
      .ok (.nx [some (.p (.con N)), some (.p (.int k)), some (.obj (s.length + 1)), some (.p F), some (.p (.lst pts)), some (.p (.int (far : Int))), some (.p C), some (.p (.lst L)), some (.p F2), x9, x10, x11, x12, x13, x14, x15]) S7 := by
    simp [es, el]
  have A6 : asgF (lcE true (rowI (vE 7)) [10] (setG 10) (tB (op2 (isN true) (vE 10) (cE .non))) ((calE m_led_point [vE 3, vE 10, vE 6]))) (setG 9) [some (.p (.con N)), some (.p (.int k)), some (.obj (s.length + 1)), some (.p F), some (.p (.lst pts)), some (.p (.int (far : Int))), some (.p C), some (.p (.lst L)), some (.p F2), x9, x10, x11, x12, x13, x14, x15] S7 =
      .ok (.nx [some (.p (.con N)), some (.p (.int k)), some (.obj (s.length + 1)), some (.p F), some (.p (.lst pts)), some (.p (.int (far : Int))), some (.p C), some (.p (.lst L)), some (.p F2), some (.p (.lst (M.map (mvF u sg tg)))), x10, x11, x12, x13, x14, x15]) S7 := by
    rw [asgF_ev, lcE_pure (F := fun p => [some (.p (.con N)), some (.p (.int k)), some (.obj (s.length + 1)), some (.p F), some (.p (.lst pts)), some (.p (.int (far : Int))), some (.p C), some (.p (.lst L)), some (.p F2), x9, some (.p p), x11, x12, x13, x14, x15]) (keep := nnP) (f := mvF u sg tg) (xs := L) (s1 := S7) (rowI_lst rfl) (by rw [sizeLine_eq]; omega) (fun p hp => by
      have e := isn_nn p
      refine ⟨rfl, ?_, fun hn => ?_⟩
      · simp [e]
      · have e2 := lp p hp hn
        simp [e2])]
    rw [mkL_true, R.bind_ok, nn]
    rfl
  have A7 : asgF ((op2 (addD true) ((lstE [cE .non])) ((srtKE (vE 9) (tupE [(calE m_Lworth [(op2 ixD (vE 0) (cE (.int 0)))]), (calE m_Lworth [(op2 ixD (vE 0) (cE (.int 1)))])]))))) (setG 11) [some (.p (.con N)), some (.p (.int k)), some (.obj (s.length + 1)), some (.p F), some (.p (.lst pts)), some (.p (.int (far : Int))), some (.p C), some (.p (.lst L)), some (.p F2), some (.p (.lst (M.map (mvF u sg tg)))), x10, x11, x12, x13, x14, x15] S7 =
      .ok (.nx [some (.p (.con N)), some (.p (.int k)), some (.obj (s.length + 1)), some (.p F), some (.p (.lst pts)), some (.p (.int (far : Int))), some (.p C), some (.p (.lst L)), some (.p F2), some (.p (.lst (M.map (mvF u sg tg)))), x10, some (.p (.lst (.non :: M2))), x12, x13, x14, x15]) S7 := by
    have ml := pm.length_eq
    rw [List.length_cons] at len2
    have ll : 1 + M2.length ≤ sizeLine := by rw [sizeLine_eq]; omega
    have sk := srtK_ok (mx := vE 9) (m := tupE [(calE m_Lworth [(op2 ixD (vE 0) (cE (.int 0)))]), (calE m_Lworth [(op2 ixD (vE 0) (cE (.int 1)))])]) (ρ := [some (.p (.con N)), some (.p (.int k)), some (.obj (s.length + 1)), some (.p F), some (.p (.lst pts)), some (.p (.int (far : Int))), some (.p C), some (.p (.lst L)), some (.p F2), some (.p (.lst (M.map (mvF u sg tg)))), x10, x11, x12, x13, x14, x15]) (s := S7) kyF rfl (by rw [← ml, sizeLine_eq]; omega) (fun x hx => wth_pt (wp x hx) S7) pm up
    generalize M.map (mvF u sg tg) = M3 at *
    generalize tupE [(calE m_Lworth [(op2 ixD (vE 0) (cE (.int 0)))]), (calE m_Lworth [(op2 ixD (vE 0) (cE (.int 1)))])] = KE at *
    simp [sk, sizeLine_eq]
    rw [sizeLine_eq] at ll
    omega
  have A8 : iffF (tB (op2 (eqD true) ((calE shwD [(calE m_search [vE 8, vE 5])])) ((calE shwD [vE 11])))) (retF (cE (.bl false))) nopF [some (.p (.con N)), some (.p (.int k)), some (.obj (s.length + 1)), some (.p F), some (.p (.lst pts)), some (.p (.int (far : Int))), some (.p C), some (.p (.lst L)), some (.p F2), some (.p (.lst (M.map (mvF u sg tg)))), x10, some (.p (.lst (.non :: M2))), x12, x13, x14, x15] S7 =
      .ok (.nx [some (.p (.con N)), some (.p (.int k)), some (.obj (s.length + 1)), some (.p F), some (.p (.lst pts)), some (.p (.int (far : Int))), some (.p C), some (.p (.lst L)), some (.p F2), some (.p (.lst (M.map (mvF u sg tg)))), x10, some (.p (.lst (.non :: M2))), x12, x13, x14, x15]) S7 := by
    generalize M.map (mvF u sg tg) = M3 at *
    generalize P.non :: M2 = M4 at *
    simp [es2, w1, m1]
  have hr : r1I [cE (.int 4)] [some (.p (.con N)), some (.p (.int k)), some (.obj (s.length + 1)), some (.p F), some (.p (.lst pts)), some (.p (.int (far : Int))), some (.p C), some (.p (.lst L)), some (.p F2), some (.p (.lst (M.map (mvF u sg tg)))), x10, some (.p (.lst (.non :: M2))), x12, x13, x14, x15] S7 = .ok (ranP 0 4, []) S7 := r1_ev _ _ _ 4 _ rfl (by decide) (by decide)
  obtain ⟨ρ', s', g1, y12, y13, y14, y15, rfl, _⟩ := forL_cnt (f := LB0) (tg := setG 12) 100 (fun _ ρ σ => ∃ (y12 y13 y14 y15 : Option D), ρ = [some (.p (.con N)), some (.p (.int k)), some (.obj (s.length + 1)), some (.p F), some (.p (.lst pts)), some (.p (.int (far : Int))), some (.p C), some (.p (.lst L)), some (.p F2), some (.p (.lst (M.map (mvF u sg tg)))), x10, some (.p (.lst (.non :: M2))), y12, y13, y14, y15] ∧ Drw s cs [] σ)
    (xs := ranP 0 4) (n := 0) (ρ := [some (.p (.con N)), some (.p (.int k)), some (.obj (s.length + 1)), some (.p F), some (.p (.lst pts)), some (.p (.int (far : Int))), some (.p C), some (.p (.lst L)), some (.p F2), some (.p (.lst (M.map (mvF u sg tg)))), x10, some (.p (.lst (.non :: M2))), x12, x13, x14, x15]) (s := S7) (by simp [ranP]) ⟨_, _, _, _, rfl, d7⟩ (fun i _ n ρ σ hn h => by
      obtain ⟨y12, y13, y14, y15, rfl, hd⟩ := h
      obtain ⟨z13, z14, z15, s', hd', e⟩ := LB0_ok hc hd fo (some (.p (.con N))) (some (.p (.int k))) (some (.p (.lst pts))) (some (.p C)) (some (.p F2)) (some (.p (.lst (M.map (mvF u sg tg))))) x10 (some (.p (.lst (.non :: M2)))) (some (.p i)) y13 y14 y15
      exact ⟨_, σ, _, s', rfl, e, _, _, _, _, rfl, hd'⟩)
  have A9 := forF_of hr g1
  exact ⟨_, _, _, _, _, _, _, _, _, _, _, _, _, _, _, by rw [LB1, seqF_ok A1, seqF_ok A2, seqF_ok A3, seqF_ok A4, seqF_ok A5, seqF_ok A6, seqF_ok A7, seqF_ok A8, A9]⟩
end
theorem small_all : ∀ j : Fin 64, Builtin.Range.small 0 (j.val : Int) 21 = true := by decide
theorem law_true (ns : List Int) (hl : ns.length ≤ 63) (hb : ∀ z ∈ ns, Builtin.Int.intBits z ≤ 1048576) : ∃ s', m_law [.p (.con (ns.map P.int))] [] = .ok (.p (.bl true)) s' := by
  have hln : ∀ s, lenD [.p (.con (ns.map P.int))] s = .ok (.p (.int ns.length)) s := fun s => by
    show R.ok (D.p (.int ((ns.map P.int).length : Nat))) s = _
    rw [List.length_map]
  obtain ⟨j, j0, j1, j2, hj⟩ : ∃ j : Nat, 1 ≤ j ∧ j ≤ 63 ∧ (j = 1 ∨ j ≤ ns.length) ∧ ∀ s, calE maxD [cE (.int 1), calE minD [cE (.int 63), calE lenD [vE 0]]] [some (.p (.con (ns.map P.int))), none, none, none, none, none, none, none, none, none, none, none, none, none, none, none] s = .ok (.p (.int j)) s := by
    refine ⟨max 1 (min 63 ns.length), by omega, by omega, by omega, fun s => ?_⟩
    have hm : (max 1 (min 63 (ns.length : Int))) = ((max 1 (min 63 ns.length) : Nat) : Int) := by omega
    rw [← hm]
    generalize ns.map P.int = L at *
    simp [hln]
  have hsz : Builtin.Range.rangeSize 0 (j : Int) 21 = ((j : Int) - 0 - 1) / 21 + 1 := by
    unfold Builtin.Range.rangeSize
    rw [if_pos (by decide), if_pos (by omega)]
  have hsm : Builtin.Range.small 0 (j : Int) 21 = true := small_all ⟨j, by omega⟩
  generalize hN : P.con (ns.map P.int) = N at *
  have hr : r3I [cE (.int 0), calE maxD [cE (.int 1), calE minD [cE (.int 63), calE lenD [vE 0]]], cE (.int 21)] [some (.p N), none, none, none, none, none, none, none, none, none, none, none, none, none, none, none] [] =
      .ok ((List.range (Builtin.Range.rangeSize 0 (j : Int) 21).toNat).map (fun k => P.int (0 + (k : Nat) * 21)), []) [] := by
    unfold r3I
    rw [bnd_ev, evA_cons, show cE (.int 0) [some (.p N), none, none, none, none, none, none, none, none, none, none, none, none, none, none, none] ([] : S) = .ok (.p (.int 0)) [] from rfl, R.bind_ok, evA_cons, hj, R.bind_ok, evA_cons, show cE (.int 21) [some (.p N), none, none, none, none, none, none, none, none, none, none, none, none, none, none, none] ([] : S) = .ok (.p (.int 21)) [] from rfl, R.bind_ok, evA_nil, R.bind_ok, R.bind_ok, R.bind_ok, R.bind_ok]
    dsimp only
    rw [if_pos ⟨by decide, by decide, hsm, by rw [hsz]; omega⟩]
  obtain ⟨ρ', s', e, y1, y2, y3, y4, y5, y6, y7, y8, y9, y10, y11, y12, y13, y14, y15, rfl⟩ := forL_inv (tg := setG 1) (f := LB1) (fun ρ s => ∃ (y1 y2 y3 y4 y5 y6 y7 y8 y9 y10 y11 y12 y13 y14 y15 : Option D), ρ = [some (.p N), y1, y2, y3, y4, y5, y6, y7, y8, y9, y10, y11, y12, y13, y14, y15])
    (xs := (List.range (Builtin.Range.rangeSize 0 (j : Int) 21).toNat).map (fun k => P.int (0 + (k : Nat) * 21))) (ρ := [some (.p N), none, none, none, none, none, none, none, none, none, none, none, none, none, none, none]) (s := []) ⟨_, _, _, _, _, _, _, _, _, _, _, _, _, _, _, rfl⟩ (fun x hx ρ s h => by
      obtain ⟨y1, y2, y3, y4, y5, y6, y7, y8, y9, y10, y11, y12, y13, y14, y15, rfl⟩ := h
      obtain ⟨k, hk, rfl⟩ := List.mem_map.mp hx
      have hk := List.mem_range.mp hk
      rw [hsz] at hk
      obtain ⟨z2, z3, z4, z5, z6, z7, z8, z9, z10, z11, z12, z13, z14, z15, s', e⟩ := LB1_ok ns hl (0 + (k : Int) * 21) (by omega) (by omega) s y2 y3 y4 y5 y6 y7 y8 y9 y10 y11 y12 y13 y14 y15
      rw [hN] at e
      exact ⟨_, s, _, s', rfl, e, _, _, _, _, _, _, _, _, _, _, _, _, _, _, _, rfl⟩)
  refine ⟨[], ?_⟩
  have hf := forF_of hr e
  simp [m_law, defM_if, B_law, hf]
end CWL
end
open PySem PySem.W PySem.Calls PyProof.Rows in
set_option maxRecDepth 100000 in
set_option maxHeartbeats 0 in
theorem PySem.Challenge.cw_cubicway_k65_whole_searches_told_otherwi_holds : PySem.Challenge.rw_cubicway_k65_whole_searches_told_otherwi.Holds := by
  w_on; o_law
  refine HandSHeadRun.head_any (r := OpenLaw.row PySem.Challenge.rw_cubicway_k65_whole_searches_told_otherwi) (q := CWL.Hd.qv) (H := CWL.Hd.hk) (ob := CWL.Hd.ob) (M := 6000) (loose := CWL.Hd.names) (d := HandSHeadRun.topDef (OpenLaw.row PySem.Challenge.rw_cubicway_k65_whole_searches_told_otherwi).prog 70) (kwd := []) CWL.Hd.ob_eq (by kernel_rfl) (fun s => by kernel_rfl) CWL.Hd.run (by kernel_rfl) (by kernel_rfl) (by kernel_rfl) (by rfl) (by first | assumption | decide +kernel) (by decide +kernel) ⟨rfl, rfl, rfl, rfl, rfl, by decide +kernel⟩ ?hw ?hc
  case hw => w_witness2
  case hc =>
    refine CW.law_endT (l := PySem.Challenge.rw_cubicway_k65_whole_searches_told_otherwi) (m := fun _ => CWL.m_law) (x := "_law_script") (k := 12) rfl (by decide) (by kernel_rfl) ⟨rfl, by decide, by decide⟩ (Sy := fun w h K => CW.HdE.SaysTD CWL.hp0 CWL.hp1 CWL.hp2 CWL.hp3 CWL.hex CWL.hhs CWL.hhv CWL.htf CWL.hdf w h K) (fun w h Y => Y) ?F (fun _ => CWL.law_true)
    intro w mg fa h K KX S G hmg0
    have hmg : mg ("law" : PySem.Str) = some (.ref fa) := by
      have e : (HandSHeadRun.topDef (OpenLaw.row PySem.Challenge.rw_cubicway_k65_whole_searches_told_otherwi).prog 70).name = ("law" : PySem.Str) := by kernel_rfl
      rw [← e]
      exact hmg0
    exact CWL.all_E KX S G hmg
