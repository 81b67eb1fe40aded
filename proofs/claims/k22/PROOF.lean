import PyProof.Rows.All
import Wide.All
import OpenK.AllK
import Wide.FinOn
import HandS.ForMost
import HandS.Wide
import HandS.Defaults
import HandS.Zip
import HandS.IsInst
import HandS.Flow
import HandS.Style
import HandS.Conv
import HandS.EndBits
import HandS.Lambda
import KE.KNestM
import HandS.ExcIs
import HandS.ExcInit
import HandS.TupMul
import HandS.TupAny
import HandS.TryOnly
import HandS.Small
import KE.GoesMore
import HandS.Deep
import HandS.ExcOwn
import HandS.CallSlots
import KE.KExcIs
import HandS.Codes
import HandS.Text
import HandS.FStr
import HandS.Iter
import HandS.StrMore
import KE.KIntText
import PyProof.Rows.StrOr
import PyProof.StrBlock2
import HandS.Head0
import HandS.Head1
import HandS.Head2
import HandS.HeadHook1
import PySem.Challenge.RW_cubicway_k22_multiples
set_option Elab.async false
set_option linter.all false
section
set_option maxRecDepth 100000
set_option maxHeartbeats 2000000
namespace CW
open PySem PySem.Spec PyProof.Rows L2
/-- plain data: what is never changed -/
inductive P where
  | non | bl (b : Bool) | int (i : Int) | str (x : Str) | ty (n : String) | ref (a : Addr) | tup (xs : List P) | lst (xs : List P) | con (xs : List P) | emp | exn (c : Str) | exf (c f : Str) (x : P) | cls (c : Str) | lam (f c : Addr) (qn : Str) | dct (ks : List Key) (xs : List P)
/-- a value: plain, or the n-th changing object -/
inductive D where
  | p (x : P) | obj (n : Nat)
/-- a field of an instance: plain, or a list that it alone holds -/
inductive Fd where
  | p (x : P) | ls (xs : List P)
/-- a changing object -/
inductive O where
  | lst (xs : List P) | dic (kvs : List (Key × D)) | row (ds : List D) | tpl (ds : List D) | ins (c : Str) (fs : List (Str × P)) | own (c : Str) (fs : List (Str × Fd))
abbrev S := List (Option O)
/-- what is raised: its class, and, where it is asked for, its field -/
structure Xc where
  c : Str
  x : Option (Str × P) := none
instance : Coe Str Xc := ⟨fun c => ⟨c, none⟩⟩
def Xc.toP : Xc → P
  | ⟨c, none⟩ => .exn c
  | ⟨c, some (f, x)⟩ => .exf c f x
@[simp] theorem Xc.toP_none (c : Str) : Xc.toP ⟨c, none⟩ = .exn c := rfl
@[simp] theorem Xc.toP_some (c f : Str) (x : P) : Xc.toP ⟨c, some (f, x)⟩ = .exf c f x := rfl
inductive R (α : Type) where
  | ok (a : α) (s : S) | bad | exn (c : Xc) (s : S)
abbrev M (α : Type) := S → R α
abbrev En := List (Option D)
def Good {α : Type} (r : R α) (Q : α → S → Prop) : Prop := match r with
  | .ok a s => Q a s
  | .bad => False
  | .exn _ _ => False
theorem Good.mono {α : Type} {r : R α} {Q Q' : α → S → Prop} (h : Good r Q) (k : ∀ a s, Q a s → Q' a s) : Good r Q' := by
  cases r with
  | ok a s => exact k a s h
  | bad => exact h
  | exn c s => exact h
def bnd {α β : Type} (m : M α) (k : α → M β) : M β := fun s => match m s with
  | .ok a s' => k a s'
  | .bad => .bad
  | .exn c s' => .exn c s'
theorem Good.bnd {α β : Type} {m : M α} {k : α → M β} {s : S} {Q : β → S → Prop} (h : Good (bnd m k s) Q) : Good (m s) (fun a s' => Good (k a s') Q) := by
  unfold CW.bnd at h
  cases e : m s with
  | ok a s' =>
    rw [e] at h
    exact h
  | bad =>
    rw [e] at h
    exact h.elim
  | exn c s' =>
    rw [e] at h
    exact h.elim
theorem bnd_exn {α β : Type} {m : M α} {k : α → M β} {s s' : S} {c : Xc} (h : m s = .exn c s') : CW.bnd m k s = .exn c s' := by
  unfold CW.bnd
  rw [h]
theorem bnd_ok {α β : Type} {m : M α} {k : α → M β} {s s' : S} {a : α} (h : m s = .ok a s') : bnd m k s = k a s' := by
  unfold CW.bnd
  rw [h]
theorem bnd_bad {α β : Type} {m : M α} {k : α → M β} {s : S} (h : m s = .bad) : bnd m k s = .bad := by
  unfold CW.bnd
  rw [h]
def ret {α : Type} (a : α) : M α := fun s => .ok a s
def rais {α : Type} (c : Xc) : M α := fun s => .exn c s
def bad {α : Type} : M α := fun _ => .bad
section
variable (K : PySem.W.Frag)
/-- the heap of nothing: what is read of the written part alone -/
def H0 : Hp := fun _ => none
/-- the name of a class of the top -/
def NmC (c : Str) (A : Addr) : Prop := PySem.W.nsIn K mainGlobals c = some (some (.ref A))
/-- an exception's object: its class, its dict -/
def ExO (a A : Addr) (d : Option Addr) : HO := .ext fun h => ∃ (o : Obj) (vs : Array Value), h.get? a = some o ∧ o.cls = .ref A ∧ o.dict = d ∧ o.data = .fields vs
def CS (H : Hp) (a : Addr) (vs : List V) : Prop := (∃ o, H a = some (.frz o (.lst vs))) ∨ SqL K H0 a vs
mutual
inductive PV (F : Addr → Prop) (H : Hp) : V → P → Prop
  | non : PV F H .non .non
  | bl (b : Bool) : PV F H (.bl b) (.bl b)
  | int (i : Int) : PV F H (.int i) (.int i)
  | str (x : Str) : PV F H (.str x) (.str x)
  | ty (n : String) : PV F H (.ty n) (.ty n)
  | ref (a : Addr) : PV F H (.ref a) (.ref a)
  | tup {a : Addr} {vs : List V} {xs : List P} : SqT K H a vs → PVs F H vs xs → PV F H (.ref a) (.tup xs)
  | lst {a : Addr} {vs : List V} {xs : List P} : F a → H a = some (.lst vs) → PVs F H vs xs → PV F H (.ref a) (.lst xs)
  | con {a : Addr} {vs : List V} {xs : List P} : CS K H a vs → PVs F H vs xs → PV F H (.ref a) (.con xs)
  | emp {a : Addr} : F a → H a = some (.dK []) → PV F H (.ref a) .emp
  | exn {a A : Addr} {c : Str} {d : Option Addr} : NmC K c A → F a → H a = some (ExO a A d) → (∀ dx, d = some dx → F dx ∧ ∃ fs, H dx = some (.xd fs)) → PV F H (.ref a) (.exn c)
  | exf {a A dx : Addr} {c f : Str} {v : V} {x : P} : NmC K c A → F a → H a = some (ExO a A (some dx)) → F dx → H dx = some (.xd [(f, v)]) → PV F H v x → PV F H (.ref a) (.exf c f x)
  | cls {A : Addr} {c : Str} : NmC K c A → PV F H (.ref A) (.cls c)
  | lam {f c : Addr} {qn : Str} : F c → H c = some (LamX.CodeO c qn) → PV F H (.ref f) (.lam f c qn)
  | dct {a : Addr} {o : Obj} {ws : List (Key × V)} {ks : List Key} {xs : List P} : H a = some (.frz o (.dK ws)) → ws.map (·.1) = ks → PVs F H (ws.map (·.2)) xs → PV F H (.ref a) (.dct ks xs)
inductive PVs (F : Addr → Prop) (H : Hp) : List V → List P → Prop
  | nil : PVs F H [] []
  | cons {v : V} {vs : List V} {x : P} {xs : List P} : PV F H v x → PVs F H vs xs → PVs F H (v :: vs) (x :: xs)
end
structure Wd where
  io : List Addr
  fr : Addr → Prop
  pv : Addr → Prop
  tb : List (Addr × Str)
  ow : Addr → Option (Addr × Str)
def DV (W : Wd) (H : Hp) (v : V) : D → Prop
  | .p x => PV K W.fr H v x
  | .obj n => ∃ a, W.io[n]? = some a ∧ v = .ref a
abbrev DVs (W : Wd) (H : Hp) : List V → List D → Prop := Paired (DV K W H)
/-- a field f of the instance at a -/
def FV (W : Wd) (H : Hp) (a : Addr) (f : Str) (v : V) : Fd → Prop
  | .p x => PV K W.fr H v x
  | .ls xs => ∃ b vs, v = .ref b ∧ H b = some (.lst vs) ∧ PVs K W.fr H vs xs ∧ W.ow b = some (a, f)
def OV (W : Wd) (H : Hp) (a : Addr) : O → Prop
  | .lst xs => ∃ vs, H a = some (.lst vs) ∧ PVs K W.fr H vs xs
  | .dic kvs => ∃ ws : List (Key × V), H a = some (.dK ws) ∧ Paired (fun (p : Key × V) (q : Key × D) => p.1 = q.1 ∧ DV K W H p.2 q.2) ws kvs
  | .row ds => ∃ vs, H a = some (.lst vs) ∧ DVs K W H vs ds
  | .tpl ds => ∃ vs, H a = some (.tup vs) ∧ DVs K W H vs ds
  | .ins c fs => ∃ (C dx : Addr) (ws : List (Str × V)), NmC K c C ∧ H a = some (.ins C dx ws) ∧ Paired (fun (p : Str × V) (q : Str × P) => p.1 = q.1 ∧ PV K W.fr H p.2 q.2) ws fs
  | .own c fs => ∃ (C dx : Addr) (ws : List (Str × V)), NmC K c C ∧ H a = some (.ins C dx ws) ∧ (fs.map (·.1)).Nodup ∧ Paired (fun (p : Str × V) (q : Str × Fd) => p.1 = q.1 ∧ FV K W H a p.1 p.2 q.2) ws fs
/-- how worlds go on -/
structure Ev (W : Wd) (H : Hp) (W' : Wd) (H' : Hp) : Prop where
  io : ∃ r, W'.io = W.io ++ r
  fr : ∀ a, W.fr a → W'.fr a
  fk : ∀ a o, W.fr a → H a = some o → H' a = some o
  tk : ∀ a xs, H a = some (.tup xs) → H' a = some (.tup xs)
  zk : ∀ a o u, H a = some (.frz o u) → H' a = some (.frz o u)
  pv : ∀ a, W.pv a → W'.pv a
  pk : ∀ a o, W.pv a → H a = some o → H' a = some o
  tb : W'.tb = W.tb
  ow : ∀ b q, W.ow b = some q → W'.ow b = some q := by intro _ _ h; exact h
structure Abs (W : Wd) (s : S) (H : Hp) : Prop where
  len : W.io.length = s.length
  nd : W.io.Nodup
  tr : ∀ a ∈ W.io, H a ≠ none
  ft : ∀ a, W.fr a → H a ≠ none
  ob : ∀ (n : Nat) (o : O), s[n]? = some (some o) → ∃ a, W.io[n]? = some a ∧ ¬ W.fr a ∧ OV K W H a o
  pd : ∀ a, W.pv a → (∃ vs, H a = some (.lst vs)) ∧ ¬ W.fr a ∧ a ∉ W.io
  tt : LamX.Tabs W.tb H
  tn : ∀ a ps, H a = some (.tbl ps) → ¬ W.fr a ∧ ¬ W.pv a ∧ a ∉ W.io
  po : ∀ b q, W.ow b = some q → (∃ vs, H b = some (.lst vs)) ∧ ¬ W.fr b ∧ ¬ W.pv b ∧ b ∉ W.io
end
section
variable {K : PySem.W.Frag} {W W1 W2 W' : Wd} {H H1 H2 H' : Hp} {s : S} {v : V} {a p : Addr} {d : D} {x : P}
theorem Abs.pn (A : Abs K W s H) (h : W.pv a) : H a ≠ none := fun z => by
  obtain ⟨vs, e⟩ := (A.pd a h).1
  rw [z] at e
  cases e
theorem Abs.on (A : Abs K W s H) {b : Addr} {q : Addr × Str} (h : W.ow b = some q) : H b ≠ none := fun z => by
  obtain ⟨vs, e⟩ := (A.po b q h).1
  rw [z] at e
  cases e
theorem Abs.nw (A : Abs K W s H) (h : H p = none) : W.ow p = none := by
  cases e : W.ow p with
  | none => rfl
  | some q => exact (A.on e h).elim
theorem Abs.npo (A : Abs K W s H) (h : W.pv p) : W.ow p = none := by
  cases e : W.ow p with
  | none => rfl
  | some q => exact ((A.po p q e).2.2.1 h).elim
theorem Ev.rfl : Ev W H W H := ⟨⟨[], by simp⟩, fun _ h => h, fun _ _ _ h => h, fun _ _ h => h, fun _ _ _ h => h, fun _ h => h, fun _ _ _ h => h, _root_.rfl, fun _ _ h => h⟩
theorem Ev.trans (e : Ev W H W1 H1) (f : Ev W1 H1 W2 H2) : Ev W H W2 H2 where
  io := by
    obtain ⟨r, hr⟩ := e.io
    obtain ⟨q, hq⟩ := f.io
    exact ⟨r ++ q, by rw [hq, hr, List.append_assoc]⟩
  fr := fun a h => f.fr a (e.fr a h)
  fk := fun a o h g => f.fk a o (e.fr a h) (e.fk a o h g)
  tk := fun a xs h => f.tk a xs (e.tk a xs h)
  zk := fun a o u h => f.zk a o u (e.zk a o u h)
  pv := fun a h => f.pv a (e.pv a h)
  pk := fun a o h g => f.pk a o (e.pv a h) (e.pk a o h g)
  tb := f.tb.trans e.tb
  ow := fun b q h => f.ow b q (e.ow b q h)
theorem Ev.sqt (e : Ev W H W' H') {vs : List V} (h : SqT K H a vs) : SqT K H' a vs := by
  rcases h with (h | ⟨o, h⟩) | h
  · exact Or.inl (Or.inl (e.tk _ _ h))
  · exact Or.inl (Or.inr ⟨o, e.zk _ _ _ h⟩)
  · exact Or.inr h
theorem Ev.cs (e : Ev W H W' H') {vs : List V} (h : CS K H a vs) : CS K H' a vs := by
  rcases h with ⟨o, h⟩ | h
  · exact Or.inl ⟨o, e.zk _ _ _ h⟩
  · exact Or.inr h
theorem CS.sql {vs : List V} (h : CS K H a vs) : SqL K H a vs := by
  rcases h with ⟨o, h⟩ | (h | ⟨o, h⟩) | h
  · exact Or.inl (Or.inr ⟨o, h⟩)
  · exact nomatch h
  · exact nomatch h
  · exact Or.inr h
mutual
theorem PV.up (e : Ev W H W' H') : ∀ {v : V} {x : P}, PV K W.fr H v x → PV K W'.fr H' v x
  | _, _, .non => .non
  | _, _, .bl b => .bl b
  | _, _, .int i => .int i
  | _, _, .str z => .str z
  | _, _, .ty n => .ty n
  | _, _, .ref a => .ref a
  | _, _, .tup h r => .tup (e.sqt h) (PVs.up e r)
  | _, _, .lst f h r => .lst (e.fr _ f) (e.fk _ _ f h) (PVs.up e r)
  | _, _, .con h r => .con (e.cs h) (PVs.up e r)
  | _, _, .emp f h => .emp (e.fr _ f) (e.fk _ _ f h)
  | _, _, .exn n f h d => .exn n (e.fr _ f) (e.fk _ _ f h) fun dx z => by
      obtain ⟨f2, fs, h2⟩ := d dx z
      exact ⟨e.fr _ f2, fs, e.fk _ _ f2 h2⟩
  | _, _, .exf n f h f2 h2 r => .exf n (e.fr _ f) (e.fk _ _ f h) (e.fr _ f2) (e.fk _ _ f2 h2) (PV.up e r)
  | _, _, .cls n => .cls n
  | _, _, .lam f h => .lam (e.fr _ f) (e.fk _ _ f h)
  | _, _, .dct h k r => .dct (e.zk _ _ _ h) k (PVs.up e r)
theorem PVs.up (e : Ev W H W' H') : ∀ {vs : List V} {xs : List P}, PVs K W.fr H vs xs → PVs K W'.fr H' vs xs
  | _, _, .nil => .nil
  | _, _, .cons h r => .cons (PV.up e h) (PVs.up e r)
end
theorem DV.up (e : Ev W H W' H') (h : DV K W H v d) : DV K W' H' v d := by
  cases d with
  | p x => exact PV.up e h
  | obj n =>
    obtain ⟨a, ha, hv⟩ := h
    obtain ⟨r, hr⟩ := e.io
    refine ⟨a, ?_, hv⟩
    have hl := (List.getElem?_eq_some_iff.mp ha).1
    rw [hr, List.getElem?_append_left hl]
    exact ha
theorem DVs.up (e : Ev W H W' H') : ∀ {vs : List V} {ds : List D}, DVs K W H vs ds → DVs K W' H' vs ds
  | _, _, .nil => .nil
  | _, _, .cons h r => .cons (DV.up e h) (DVs.up e r)
theorem PVs.len {F : Addr → Prop} : ∀ {vs : List V} {xs : List P}, PVs K F H vs xs → vs.length = xs.length
  | _, _, .nil => _root_.rfl
  | _, _, .cons _ r => congrArg (· + 1) (PVs.len r)
theorem PVs.app {F : Addr → Prop} : ∀ {vs : List V} {xs : List P} {us : List V} {ys : List P}, PVs K F H vs xs → PVs K F H us ys → PVs K F H (vs ++ us) (xs ++ ys)
  | _, _, _, _, .nil, q => q
  | _, _, _, _, .cons h r, q => .cons h (PVs.app r q)
theorem PVs.get {F : Addr → Prop} : ∀ {vs : List V} {xs : List P} {i : Nat} {x : P}, PVs K F H vs xs → xs[i]? = some x → ∃ v, vs[i]? = some v ∧ PV K F H v x
  | _, _, _, _, .nil, e => by simp at e
  | _, _, 0, _, .cons h _, e => by
    simp at e
    subst e
    exact ⟨_, rfl, h⟩
  | _, _, i + 1, x, .cons _ r, e => by
    obtain ⟨v, h1, h2⟩ := PVs.get (i := i) (x := x) r (by simpa using e)
    exact ⟨v, by simpa using h1, h2⟩
theorem PVs.put {F : Addr → Prop} {v : V} {x : P} (h : PV K F H v x) : ∀ {vs : List V} {xs : List P} (i : Nat), PVs K F H vs xs → PVs K F H (vs.set i v) (xs.set i x)
  | _, _, _, .nil => .nil
  | _, _, 0, .cons _ r => .cons h r
  | _, _, i + 1, .cons q r => .cons q (PVs.put h i r)
theorem PVs.take {F : Addr → Prop} : ∀ {vs : List V} {xs : List P} (n : Nat), PVs K F H vs xs → PVs K F H (vs.take n) (xs.take n)
  | _, _, 0, _ => .nil
  | _, _, _ + 1, .nil => .nil
  | _, _, n + 1, .cons h r => .cons h (PVs.take n r)
theorem PVs.drop {F : Addr → Prop} : ∀ {vs : List V} {xs : List P} (n : Nat), PVs K F H vs xs → PVs K F H (vs.drop n) (xs.drop n)
  | _, _, 0, r => r
  | _, _, _ + 1, .nil => .nil
  | _, _, n + 1, .cons _ r => PVs.drop n r
theorem PVs.ints {F : Addr → Prop} : ∀ ns : List Int, PVs K F H (ns.map V.int) (ns.map P.int)
  | [] => .nil
  | n :: r => .cons (.int n) (PVs.ints r)
theorem PVs.bls {F : Addr → Prop} : ∀ {vs : List V} {bs : List Bool}, PVs K F H vs (bs.map P.bl) → vs = bs.map V.bl
  | _, [], .nil => _root_.rfl
  | _, _ :: _, .cons (.bl _) r => congrArg (_ :: ·) (PVs.bls r)
theorem PVs.int_eq {F : Addr → Prop} : ∀ {vs : List V} {bs : List Int}, PVs K F H vs (bs.map P.int) → vs = bs.map V.int
  | _, [], .nil => _root_.rfl
  | _, _ :: _, .cons (.int _) r => congrArg (_ :: ·) (PVs.int_eq r)
theorem DVs.plain : ∀ {vs : List V} {xs : List P}, DVs K W H vs (xs.map D.p) → PVs K W.fr H vs xs
  | _, [], .nil => .nil
  | _, _ :: _, .cons h r => .cons h (DVs.plain r)
/-- a new object that no name of ours bears -/
theorem Ev.new {o : HO} (hp : H p = none) : Ev W H W (upd H p o) where
  io := ⟨[], by simp⟩
  fr := fun _ h => h
  fk := fun a o _ h => by rw [upd_ne (ne_of_none h hp)]; exact h
  tk := fun a xs h => by rw [upd_ne (ne_of_none h hp)]; exact h
  zk := fun a o u h => by rw [upd_ne (ne_of_none h hp)]; exact h
  pv := fun _ h => h
  pk := fun a o _ h => by rw [upd_ne (ne_of_none h hp)]; exact h
  tb := _root_.rfl
  ow := fun _ _ h => h
theorem Ev.oth {o : HO} (hp : H p = none) (h : H a ≠ none) : upd H p o a = H a := upd_ne fun e => h (e ▸ hp)
theorem OV.up (e : Ev W H W' H') (he : H' a = H a) {o : O} (ho : ∀ b f, W.ow b = some (a, f) → H' b = H b) (h : OV K W H a o) : OV K W' H' a o := by
  cases o with
  | lst xs =>
    obtain ⟨vs, h1, h2⟩ := h
    exact ⟨vs, he.trans h1, PVs.up e h2⟩
  | dic kvs =>
    obtain ⟨ws, h1, h2⟩ := h
    exact ⟨ws, he.trans h1, Paired.mapP h2 fun p q z => ⟨z.1, DV.up e z.2⟩⟩
  | row ds =>
    obtain ⟨vs, h1, h2⟩ := h
    exact ⟨vs, he.trans h1, DVs.up e h2⟩
  | tpl ds =>
    obtain ⟨vs, h1, h2⟩ := h
    exact ⟨vs, he.trans h1, DVs.up e h2⟩
  | ins c fs =>
    obtain ⟨C, dx, ws, h0, h1, h2⟩ := h
    exact ⟨C, dx, ws, h0, he.trans h1, Paired.mapP h2 fun p q z => ⟨z.1, PV.up e z.2⟩⟩
  | own c fs =>
    obtain ⟨C, dx, ws, h0, h1, hn, h2⟩ := h
    refine ⟨C, dx, ws, h0, he.trans h1, hn, Paired.mapP h2 fun p q z => ⟨z.1, ?_⟩⟩
    have z2 := z.2
    unfold FV at z2 ⊢
    split at z2
    · exact PV.up e z2
    · obtain ⟨b, vs, g1, g2, g3, g4⟩ := z2
      exact ⟨b, vs, g1, (ho b _ g4).trans g2, PVs.up e g3, e.ow _ _ g4⟩
theorem OV.there {o : O} (h : OV K W H a o) : H a ≠ none := by
  cases o with
  | lst xs =>
    obtain ⟨vs, h1, _⟩ := h
    rw [h1]
    exact fun z => nomatch z
  | dic kvs =>
    obtain ⟨ws, h1, _⟩ := h
    rw [h1]
    exact fun z => nomatch z
  | row ds =>
    obtain ⟨ws, h1, _⟩ := h
    rw [h1]
    exact fun z => nomatch z
  | tpl ds =>
    obtain ⟨ws, h1, _⟩ := h
    rw [h1]
    exact fun z => nomatch z
  | ins c fs =>
    obtain ⟨C, dx, ws, _, h1, _⟩ := h
    rw [h1]
    exact fun z => nomatch z
  | own c fs =>
    obtain ⟨C, dx, ws, _, h1, _⟩ := h
    rw [h1]
    exact fun z => nomatch z
theorem tabs_new {o : HO} {T : List (Addr × Str)} (h : LamX.Tabs T H) (hp : H p = none) : LamX.Tabs T (upd H p o) := h.ext fun b u e => by rw [upd_ne (ne_of_none e hp)]; exact e
theorem tbl_new {o : HO} {ps : Array Value} (h : upd H p o a = some (.tbl ps)) (no : ∀ ps, o ≠ .tbl ps) : a ≠ p ∧ H a = some (.tbl ps) := by
  have e : a ≠ p := fun e => by
    rw [e, upd_same] at h
    exact no ps (Option.some.inj h)
  rw [upd_ne e] at h
  exact ⟨e, h⟩
theorem tabs_put {u : HO} {T : List (Addr × Str)} (h : LamX.Tabs T H) (n1 : ∀ ps, H p ≠ some (.tbl ps)) (n2 : ∀ φ, H p ≠ some (.ext φ)) : LamX.Tabs T (upd H p u) := fun q hq => by
  obtain ⟨ps, p1, p2, p3⟩ := h q hq
  refine ⟨ps, ?_, p2, fun pos cv hc => ?_⟩
  · rw [upd_ne fun z => n1 _ (z ▸ p1)]
    exact p1
  · obtain ⟨c, c1, c2⟩ := p3 pos cv hc
    exact ⟨c, c1, by rw [upd_ne fun z => n2 _ (z ▸ c2)]; exact c2⟩
theorem Abs.new {o : HO} (A : Abs K W s H) (hp : H p = none) (no : ∀ ps, o ≠ .tbl ps := by intro _ z; cases z) : Abs K W s (upd H p o) where
  len := A.len
  nd := A.nd
  tr := fun a h => by rw [Ev.oth hp (A.tr a h)]; exact A.tr a h
  ft := fun a h => by rw [Ev.oth hp (A.ft a h)]; exact A.ft a h
  ob := fun n u h => by
    obtain ⟨a, h1, h2, h3⟩ := A.ob n u h
    exact ⟨a, h1, h2, h3.up (Ev.new hp) (Ev.oth hp h3.there) fun b f hb => Ev.oth hp (A.on hb)⟩
  pd := fun a h => ⟨by rw [Ev.oth hp (A.pn h)]; exact (A.pd a h).1, (A.pd a h).2⟩
  tt := tabs_new A.tt hp
  tn := fun a ps h => A.tn a ps (tbl_new h no).2
  po := fun b q h => ⟨by rw [Ev.oth hp (A.on h)]; exact (A.po b q h).1, (A.po b q h).2⟩
/-- a new list that will not be changed -/
def Wd.keep (W : Wd) (p : Addr) : Wd := ⟨W.io, fun a => W.fr a ∨ a = p, W.pv, W.tb, W.ow⟩
theorem Ev.keep {o : HO} (hp : H p = none) : Ev W H (W.keep p) (upd H p o) where
  io := ⟨[], by simp [Wd.keep]⟩
  fr := fun _ h => Or.inl h
  fk := (Ev.new (W := W) hp).fk
  tk := (Ev.new (W := W) hp).tk
  zk := (Ev.new (W := W) hp).zk
  pv := fun _ h => h
  pk := (Ev.new (W := W) hp).pk
  tb := _root_.rfl
  ow := fun _ _ h => h
theorem Abs.keep {o : HO} (A : Abs K W s H) (hp : H p = none) (no : ∀ ps, o ≠ .tbl ps := by intro _ z; cases z) : Abs K (W.keep p) s (upd H p o) where
  len := A.len
  nd := A.nd
  tr := fun a h => by rw [Ev.oth hp (A.tr a h)]; exact A.tr a h
  ft := fun a h => by
    rcases h with h | h
    · rw [Ev.oth hp (A.ft a h)]
      exact A.ft a h
    · rw [h, upd_same]
      exact fun z => nomatch z
  ob := fun n u h => by
    obtain ⟨a, h1, h2, h3⟩ := A.ob n u h
    refine ⟨a, h1, fun z => ?_, h3.up (Ev.keep hp) (Ev.oth hp h3.there) fun b f hb => Ev.oth hp (A.on hb)⟩
    rcases z with z | z
    · exact h2 z
    · rw [z] at h3
      exact h3.there hp
  pd := fun a h => ⟨by rw [Ev.oth hp (A.pn h)]; exact (A.pd a h).1, fun z => by
    rcases z with z | z
    · exact (A.pd a h).2.1 z
    · exact A.pn h (by rw [z]; exact hp), (A.pd a h).2.2⟩
  tt := tabs_new A.tt hp
  tn := fun a ps h => by
    obtain ⟨ne, h⟩ := tbl_new h no
    obtain ⟨h1, h2, h3⟩ := A.tn a ps h
    exact ⟨fun z => z.elim h1 ne, h2, h3⟩
  po := fun b q h => ⟨by rw [Ev.oth hp (A.on h)]; exact (A.po b q h).1, fun z => z.elim (A.po b q h).2.1 fun e => A.on h (by rw [e]; exact hp), (A.po b q h).2.2⟩
/-- a new changing object -/
def Wd.add (W : Wd) (p : Addr) : Wd := ⟨W.io ++ [p], W.fr, W.pv, W.tb, W.ow⟩
theorem Ev.add {o : HO} (hp : H p = none) : Ev W H (W.add p) (upd H p o) where
  io := ⟨[p], _root_.rfl⟩
  fr := fun _ h => h
  fk := (Ev.new (W := W) hp).fk
  tk := (Ev.new (W := W) hp).tk
  zk := (Ev.new (W := W) hp).zk
  pv := fun _ h => h
  pk := (Ev.new (W := W) hp).pk
  tb := _root_.rfl
  ow := fun _ _ h => h
theorem Abs.add {o : HO} {u : O} (A : Abs K W s H) (hp : H p = none) (hu : OV K (W.add p) (upd H p o) p u) (no : ∀ ps, o ≠ .tbl ps := by intro _ z; cases z) : Abs K (W.add p) (s ++ [some u]) (upd H p o) where
  len := by simp [Wd.add, A.len]
  nd := by
    refine List.nodup_append.mpr ⟨A.nd, by simp, fun a ha b hb e => ?_⟩
    have hb' : b = p := by simpa using hb
    exact A.tr a ha (by rw [e, hb']; exact hp)
  tr := fun a h => by
    rcases List.mem_append.mp h with h | h
    · rw [Ev.oth hp (A.tr a h)]
      exact A.tr a h
    · have e : a = p := by simpa using h
      rw [e, upd_same]
      exact fun z => nomatch z
  ft := fun a h => by rw [Ev.oth hp (A.ft a h)]; exact A.ft a h
  ob := fun n q h => by
    by_cases hn : n < s.length
    · rw [List.getElem?_append_left hn] at h
      obtain ⟨a, h1, h2, h3⟩ := A.ob n q h
      refine ⟨a, ?_, h2, h3.up (Ev.add hp) (Ev.oth hp h3.there) fun b f hb => Ev.oth hp (A.on hb)⟩
      show (W.io ++ [p])[n]? = some a
      rw [List.getElem?_append_left (by rw [A.len]; exact hn)]
      exact h1
    · have hn2 : n = s.length := by
        have h4 := (List.getElem?_eq_some_iff.mp h).1
        simp at h4
        omega
      subst hn2
      have hq : q = u := by
        simp at h
        exact h.symm
      subst hq
      refine ⟨p, ?_, fun z => A.ft p z hp, hu⟩
      show (W.io ++ [p])[s.length]? = some p
      rw [← A.len]
      simp
  pd := fun a h => ⟨by rw [Ev.oth hp (A.pn h)]; exact (A.pd a h).1, (A.pd a h).2.1, fun z => by
    rcases List.mem_append.mp z with z | z
    · exact (A.pd a h).2.2 z
    · have e : a = p := by simpa using z
      exact A.pn h (by rw [e]; exact hp)⟩
  tt := tabs_new A.tt hp
  tn := fun a ps h => by
    obtain ⟨ne, h⟩ := tbl_new h no
    obtain ⟨h1, h2, h3⟩ := A.tn a ps h
    refine ⟨h1, h2, fun z => ?_⟩
    rcases List.mem_append.mp z with z | z
    · exact h3 z
    · exact ne (by simpa using z)
  po := fun b q h => ⟨by rw [Ev.oth hp (A.on h)]; exact (A.po b q h).1, (A.po b q h).2.1, (A.po b q h).2.2.1, fun z => by
    rcases List.mem_append.mp z with z | z
    · exact (A.po b q h).2.2.2 z
    · have e : b = p := by simpa using z
      exact A.on h (by rw [e]; exact hp)⟩
theorem Abs.nobj (A : Abs K W s H) (hp : H p = none) : (W.add p).io[s.length]? = some p := by
  show (W.io ++ [p])[s.length]? = some p
  rw [← A.len]
  simp
/-- a changing object is changed -/
theorem Ev.put {n : Nat} {o o' : O} {u : HO} (A : Abs K W s H) (hn : s[n]? = some (some o)) (ha : W.io[n]? = some a) (no : ∀ ds, o ≠ .tpl ds := by intro _ z; cases z) : Ev W H W (upd H a u) := by
  obtain ⟨b, h1, h2, h3⟩ := A.ob n o hn
  rw [ha] at h1
  cases h1
  have nt : ∀ xs, H a ≠ some (.tup xs) := fun xs z => by
    cases o with
    | lst xs =>
      obtain ⟨vs, h4, _⟩ := h3
      rw [z] at h4
      cases h4
    | dic kvs =>
      obtain ⟨vs, h4, _⟩ := h3
      rw [z] at h4
      cases h4
    | row kvs =>
      obtain ⟨vs, h4, _⟩ := h3
      rw [z] at h4
      cases h4
    | tpl kvs => exact no kvs _root_.rfl
    | ins c fs =>
      obtain ⟨C, dx, ws, _, h4, _⟩ := h3
      rw [z] at h4
      cases h4
    | own c fs =>
      obtain ⟨C, dx, ws, _, h4, _⟩ := h3
      rw [z] at h4
      cases h4
  have nz : ∀ q r, H a ≠ some (.frz q r) := fun q r z => by
    cases o with
    | lst xs =>
      obtain ⟨vs, h4, _⟩ := h3
      rw [z] at h4
      cases h4
    | dic kvs =>
      obtain ⟨vs, h4, _⟩ := h3
      rw [z] at h4
      cases h4
    | row kvs =>
      obtain ⟨vs, h4, _⟩ := h3
      rw [z] at h4
      cases h4
    | tpl kvs => exact no kvs _root_.rfl
    | ins c fs =>
      obtain ⟨C, dx, ws, _, h4, _⟩ := h3
      rw [z] at h4
      cases h4
    | own c fs =>
      obtain ⟨C, dx, ws, _, h4, _⟩ := h3
      rw [z] at h4
      cases h4
  refine ⟨⟨[], by simp⟩, fun _ h => h, fun b q hb h => ?_, fun b xs h => ?_, fun b q r h => ?_, fun _ h => h, fun b q hb h => ?_, _root_.rfl, fun _ _ h => h⟩
  · have e : b ≠ a := fun e => by
      subst e
      exact h2 hb
    rw [upd_ne e]
    exact h
  · have e : b ≠ a := fun e => by
      subst e
      exact nt xs h
    rw [upd_ne e]
    exact h
  · have e : b ≠ a := fun e => by
      subst e
      exact nz q r h
    rw [upd_ne e]
    exact h
  · have e : b ≠ a := fun e => by
      subst e
      exact (A.pd b hb).2.2 (List.mem_of_getElem? ha)
    rw [upd_ne e]
    exact h
theorem OV.ne_ext {o : O} {φ : Heap → Prop} (h : OV K W H a o) : H a ≠ some (.ext φ) := fun z => by
  cases o with
  | lst xs =>
    obtain ⟨vs, h1, _⟩ := h
    rw [z] at h1
    cases h1
  | dic kvs =>
    obtain ⟨ws, h1, _⟩ := h
    rw [z] at h1
    cases h1
  | row kvs =>
    obtain ⟨ws, h1, _⟩ := h
    rw [z] at h1
    cases h1
  | tpl kvs =>
    obtain ⟨ws, h1, _⟩ := h
    rw [z] at h1
    cases h1
  | ins c fs =>
    obtain ⟨C, dx, ws, _, h1, _⟩ := h
    rw [z] at h1
    cases h1
  | own c fs =>
    obtain ⟨C, dx, ws, _, h1, _⟩ := h
    rw [z] at h1
    cases h1
theorem OV.ne_tbl {o : O} {ps : Array Value} (h : OV K W H a o) : H a ≠ some (.tbl ps) := fun z => by
  cases o with
  | lst xs =>
    obtain ⟨vs, h1, _⟩ := h
    rw [z] at h1
    cases h1
  | dic kvs =>
    obtain ⟨ws, h1, _⟩ := h
    rw [z] at h1
    cases h1
  | row kvs =>
    obtain ⟨ws, h1, _⟩ := h
    rw [z] at h1
    cases h1
  | tpl kvs =>
    obtain ⟨ws, h1, _⟩ := h
    rw [z] at h1
    cases h1
  | ins c fs =>
    obtain ⟨C, dx, ws, _, h1, _⟩ := h
    rw [z] at h1
    cases h1
  | own c fs =>
    obtain ⟨C, dx, ws, _, h1, _⟩ := h
    rw [z] at h1
    cases h1
theorem Abs.put {n : Nat} {o o' : O} {u : HO} (A : Abs K W s H) (hn : s[n]? = some (some o)) (ha : W.io[n]? = some a) (hu : OV K W (upd H a u) a o') (no' : ∀ ds, o ≠ .tpl ds := by intro _ z; cases z) : Abs K W (s.set n (some o')) (upd H a u) := by
  have ev : Ev W H W (upd H a u) := Ev.put (o' := o') A hn ha no'
  have hl : n < s.length := (List.getElem?_eq_some_iff.mp hn).1
  have no : ∀ ps, u ≠ .tbl ps := fun ps z => hu.ne_tbl (by rw [upd_same, z])
  refine ⟨by rw [List.length_set]; exact A.len, A.nd, fun b h => ?_, fun b h => ?_, fun m q h => ?_, fun b h => ⟨?_, (A.pd b h).2⟩, fun q hq => ?_, fun b ps h => A.tn b ps (tbl_new h no).2, fun b q h => ⟨by rw [upd_ne fun z => (A.po b q h).2.2.2 (by rw [z]; exact List.mem_of_getElem? ha)]; exact (A.po b q h).1, (A.po b q h).2⟩⟩
  · by_cases e : b = a
    · rw [e, upd_same]
      exact fun z => nomatch z
    · rw [upd_ne e]
      exact A.tr b h
  · by_cases e : b = a
    · rw [e, upd_same]
      exact fun z => nomatch z
    · rw [upd_ne e]
      exact A.ft b h
  · by_cases e : m = n
    · subst e
      rw [List.getElem?_set_self hl] at h
      have hq : o' = q := Option.some.inj (Option.some.inj h)
      subst hq
      obtain ⟨b, h1, h2, h3⟩ := A.ob m o hn
      rw [ha] at h1
      cases h1
      exact ⟨a, ha, h2, hu⟩
    · rw [List.getElem?_set_ne (Ne.symm e)] at h
      obtain ⟨b, h1, h2, h3⟩ := A.ob m q h
      have hab : b ≠ a := fun z => e (nd_ix A.nd h1 (by rw [z]; exact ha))
      exact ⟨b, h1, h2, h3.up ev (upd_ne hab) fun b f hb => upd_ne fun z => (A.po b _ hb).2.2.2 (by rw [z]; exact List.mem_of_getElem? ha)⟩
  · have e : b ≠ a := fun e => by
      subst e
      exact (A.pd b h).2.2 (List.mem_of_getElem? ha)
    rw [upd_ne e]
    exact (A.pd b h).1
  · obtain ⟨b, h1, h2, h3⟩ := A.ob n o hn
    rw [ha] at h1
    cases h1
    obtain ⟨ps, p1, p2, p3⟩ := A.tt q hq
    refine ⟨ps, ?_, p2, fun pos cv hc => ?_⟩
    · rw [upd_ne fun z => h3.ne_tbl (z ▸ p1)]
      exact p1
    · obtain ⟨c, c1, c2⟩ := p3 pos cv hc
      exact ⟨c, c1, by rw [upd_ne fun z => h3.ne_ext (z ▸ c2)]; exact c2⟩
/-- an object is from now on plain -/
theorem Abs.freeze {n : Nat} {xs : List P} (A : Abs K W s H) (hn : s[n]? = some (some (.lst xs))) (ha : W.io[n]? = some a) : Ev W H (W.keep a) H ∧ Abs K (W.keep a) (s.set n none) H ∧ PV K (W.keep a).fr H (.ref a) (.lst xs) := by
  obtain ⟨b, h1, h2, vs, h3, h4⟩ := A.ob n _ hn
  rw [ha] at h1
  cases h1
  have ev : Ev W H (W.keep a) H := ⟨⟨[], by simp [Wd.keep]⟩, fun _ h => Or.inl h, fun _ _ _ h => h, fun _ _ h => h, fun _ _ _ h => h, fun _ h => h, fun _ _ _ h => h, _root_.rfl, fun _ _ h => h⟩
  refine ⟨ev, ⟨by rw [List.length_set]; exact A.len, A.nd, A.tr, fun b h => ?_, fun m q h => ?_, fun b h => ⟨(A.pd b h).1, fun z => ?_, (A.pd b h).2.2⟩, A.tt, fun b ps h => ⟨fun z => z.elim (A.tn b ps h).1 fun e => (A.tn b ps h).2.2 (by rw [e]; exact List.mem_of_getElem? ha), (A.tn b ps h).2⟩, fun b q h => ⟨(A.po b q h).1, fun z => z.elim (A.po b q h).2.1 fun e => (A.po b q h).2.2.2 (by rw [e]; exact List.mem_of_getElem? ha), (A.po b q h).2.2⟩⟩, .lst (Or.inr _root_.rfl) h3 (PVs.up ev h4)⟩
  · rcases h with h | h
    · exact A.ft b h
    · rw [h, h3]
      exact fun z => nomatch z
  · have e : m ≠ n := fun e => by
      subst e
      rw [List.getElem?_set_self (List.getElem?_eq_some_iff.mp hn).1] at h
      cases h
    rw [List.getElem?_set_ne (Ne.symm e)] at h
    obtain ⟨b, g1, g2, g3⟩ := A.ob m q h
    refine ⟨b, g1, fun z => ?_, g3.up ev _root_.rfl fun _ _ _ => _root_.rfl⟩
    rcases z with z | z
    · exact g2 z
    · exact e (nd_ix A.nd g1 (by rw [z]; exact ha))
  · rcases z with z | z
    · exact (A.pd b h).2.1 z
    · exact (A.pd b h).2.2 (by rw [z]; exact List.mem_of_getElem? ha)
/-- the older objects bear no name of a newer one -/
structure Keeps (s s' : S) : Prop where
  le : s.length ≤ s'.length
  dic : ∀ (i : Nat) (kvs : List (Key × D)), i < s.length → s'[i]? = some (some (.dic kvs)) → s[i]? = s'[i]? ∨ ∀ kv ∈ kvs, ∀ m, kv.2 = .obj m → m < s.length
  row : ∀ (i : Nat) (ds : List D), i < s.length → s'[i]? = some (some (.row ds)) → s[i]? = s'[i]? ∨ ∀ d ∈ ds, ∀ m, d = .obj m → m < s.length
  tpl : ∀ (i : Nat) (ds : List D), i < s.length → s'[i]? = some (some (.tpl ds)) → s[i]? = s'[i]? ∨ ∀ d ∈ ds, ∀ m, d = .obj m → m < s.length
theorem Keeps.self : Keeps s s := ⟨Nat.le_refl _, fun _ _ _ _ => Or.inl rfl, fun _ _ _ _ => Or.inl rfl, fun _ _ _ _ => Or.inl rfl⟩
theorem Keeps.more (r : S) : Keeps s (s ++ r) := ⟨by rw [List.length_append]; omega, fun i _ h _ => Or.inl (by rw [List.getElem?_append_left h]), fun i _ h _ => Or.inl (by rw [List.getElem?_append_left h]), fun i _ h _ => Or.inl (by rw [List.getElem?_append_left h])⟩
theorem DV.old {n : Nat} {r : List Addr} (h : DV K W' H v d) (hr : W'.io = W.io ++ r) (hd : ∀ m, d = .obj m → m < W.io.length) : DV K ⟨W.io, W'.fr, W'.pv, W'.tb, W'.ow⟩ H v d := by
  cases d with
  | p x => exact h
  | obj m =>
    obtain ⟨a, h1, h2⟩ := h
    rw [hr, List.getElem?_append_left (hd m rfl)] at h1
    exact ⟨a, h1, h2⟩
/-- what a def made and did not hand back is forgotten -/
theorem Abs.cut {s' : S} (A : Abs K W s H) (e : Ev W H W' H') (A' : Abs K W' s' H') (k : Keeps s s') : Abs K ⟨W.io, W'.fr, W'.pv, W'.tb, W'.ow⟩ (s'.take s.length) H' := by
  obtain ⟨r, hr⟩ := e.io
  obtain ⟨k1, k2, k3, k4⟩ := k
  refine ⟨by rw [List.length_take, A.len]; omega, A.nd, fun a h => A'.tr a (by rw [hr]; exact List.mem_append_left _ h), A'.ft, fun n o h => ?_, fun a h => ⟨(A'.pd a h).1, (A'.pd a h).2.1, fun z => (A'.pd a h).2.2 (by rw [hr]; exact List.mem_append_left _ z)⟩, A'.tt, fun a ps h => ⟨(A'.tn a ps h).1, (A'.tn a ps h).2.1, fun z => (A'.tn a ps h).2.2 (by rw [hr]; exact List.mem_append_left _ z)⟩, fun b q h => ⟨(A'.po b q h).1, (A'.po b q h).2.1, (A'.po b q h).2.2.1, fun z => (A'.po b q h).2.2.2 (by rw [hr]; exact List.mem_append_left _ z)⟩⟩
  have hn : n < s.length := by
    have h4 := (List.getElem?_eq_some_iff.mp h).1
    simp at h4
    omega
  rw [List.getElem?_take_of_lt hn] at h
  obtain ⟨a, h1, h2, h3⟩ := A'.ob n o h
  rw [hr, List.getElem?_append_left (by rw [A.len]; exact hn)] at h1
  refine ⟨a, h1, h2, ?_⟩
  cases o with
  | lst xs => exact h3
  | ins c fs => exact h3
  | own c fs => exact h3
  | dic kvs =>
    obtain ⟨ws, h4, h5⟩ := h3
    refine ⟨ws, h4, ?_⟩
    have low : ∀ kv ∈ kvs, ∀ m, kv.2 = .obj m → m < W.io.length := by
      rcases k2 n kvs hn h with z | z
      · rw [h] at z
        obtain ⟨b, g1, _, ws2, _, g5⟩ := A.ob n _ z
        intro kv hk m hm
        have key : ∀ {us : List (Key × V)} {qs : List (Key × D)}, Paired (fun (p : Key × V) (q : Key × D) => p.1 = q.1 ∧ DV K W H p.2 q.2) us qs → kv ∈ qs → m < W.io.length := by
          intro us qs hp
          induction hp with
          | nil => intro h; cases h
          | cons hh _ ih =>
            intro hq
            rcases List.mem_cons.mp hq with e1 | e1
            · obtain ⟨_, h7⟩ := hh
              rw [← e1, hm] at h7
              obtain ⟨c, h8, _⟩ := h7
              exact (List.getElem?_eq_some_iff.mp h8).1
            · exact ih e1
        exact key g5 hk
      · intro kv hk m hm
        rw [A.len]
        exact z kv hk m hm
    have go : ∀ {us : List (Key × V)} {qs : List (Key × D)}, Paired (fun (p : Key × V) (q : Key × D) => p.1 = q.1 ∧ DV K W' H' p.2 q.2) us qs → (∀ kv ∈ qs, ∀ m, kv.2 = .obj m → m < W.io.length) → Paired (fun (p : Key × V) (q : Key × D) => p.1 = q.1 ∧ DV K ⟨W.io, W'.fr, W'.pv, W'.tb, W'.ow⟩ H' p.2 q.2) us qs := by
      intro us qs hp
      induction hp with
      | nil => intro _; exact .nil
      | cons hh _ ih =>
        intro hq
        exact .cons ⟨hh.1, DV.old (n := 0) hh.2 hr (hq _ List.mem_cons_self)⟩ (ih fun kv h => hq kv (List.mem_cons_of_mem _ h))
    exact go h5 low
  | row ds =>
    obtain ⟨vs, h4, h5⟩ := h3
    refine ⟨vs, h4, ?_⟩
    have low : ∀ d ∈ ds, ∀ m, d = .obj m → m < W.io.length := by
      rcases k3 n ds hn h with z | z
      · rw [h] at z
        obtain ⟨b, g1, _, vs2, _, g5⟩ := A.ob n _ z
        intro d hk m hm
        have key : ∀ {us : List V} {qs : List D}, DVs K W H us qs → d ∈ qs → m < W.io.length := by
          intro us qs hp
          induction hp with
          | nil => intro h; cases h
          | cons hh _ ih =>
            intro hq
            rcases List.mem_cons.mp hq with e1 | e1
            · rw [← e1, hm] at hh
              obtain ⟨c, h8, _⟩ := hh
              exact (List.getElem?_eq_some_iff.mp h8).1
            · exact ih e1
        exact key g5 hk
      · intro d hk m hm
        rw [A.len]
        exact z d hk m hm
    have go : ∀ {us : List V} {qs : List D}, DVs K W' H' us qs → (∀ d ∈ qs, ∀ m, d = .obj m → m < W.io.length) → DVs K ⟨W.io, W'.fr, W'.pv, W'.tb, W'.ow⟩ H' us qs := by
      intro us qs hp
      induction hp with
      | nil => intro _; exact .nil
      | cons hh _ ih =>
        intro hq
        exact .cons (DV.old (n := 0) hh hr (hq _ List.mem_cons_self)) (ih fun d h => hq d (List.mem_cons_of_mem _ h))
    exact go h5 low
  | tpl ds =>
    obtain ⟨vs, h4, h5⟩ := h3
    refine ⟨vs, h4, ?_⟩
    have low : ∀ d ∈ ds, ∀ m, d = .obj m → m < W.io.length := by
      rcases k4 n ds hn h with z | z
      · rw [h] at z
        obtain ⟨b, g1, _, vs2, _, g5⟩ := A.ob n _ z
        intro d hk m hm
        have key : ∀ {us : List V} {qs : List D}, DVs K W H us qs → d ∈ qs → m < W.io.length := by
          intro us qs hp
          induction hp with
          | nil => intro h; cases h
          | cons hh _ ih =>
            intro hq
            rcases List.mem_cons.mp hq with e1 | e1
            · rw [← e1, hm] at hh
              obtain ⟨c, h8, _⟩ := hh
              exact (List.getElem?_eq_some_iff.mp h8).1
            · exact ih e1
        exact key g5 hk
      · intro d hk m hm
        rw [A.len]
        exact z d hk m hm
    have go : ∀ {us : List V} {qs : List D}, DVs K W' H' us qs → (∀ d ∈ qs, ∀ m, d = .obj m → m < W.io.length) → DVs K ⟨W.io, W'.fr, W'.pv, W'.tb, W'.ow⟩ H' us qs := by
      intro us qs hp
      induction hp with
      | nil => intro _; exact .nil
      | cons hh _ ih =>
        intro hq
        exact .cons (DV.old (n := 0) hh hr (hq _ List.mem_cons_self)) (ih fun d h => hq d (List.mem_cons_of_mem _ h))
    exact go h5 low
theorem Ev.cut {W' : Wd} (e : Ev W H W' H') : Ev W H ⟨W.io, W'.fr, W'.pv, W'.tb, W'.ow⟩ H' := ⟨⟨[], by simp⟩, e.fr, e.fk, e.tk, e.zk, e.pv, e.pk, e.tb, e.ow⟩
def Wd.hide (W : Wd) (p : Addr) : Wd := ⟨W.io, W.fr, fun a => W.pv a ∨ a = p, W.tb, W.ow⟩
def Wd.show (W : Wd) (p : Addr) : Wd := ⟨W.io, W.fr, fun a => W.pv a ∧ a ≠ p, W.tb, W.ow⟩
theorem Abs.hide (A : Abs K W s H) (hl : ∃ vs, H p = some (.lst vs)) (hf : ¬ W.fr p) (hi : p ∉ W.io) (ho : W.ow p = none) : Abs K (W.hide p) s H := by
  have up : ∀ {v d}, DV K W H v d → DV K (W.hide p) H v d := fun {v d} q => by cases d <;> exact q
  obtain ⟨vs, hv⟩ := hl
  have h : H p ≠ none := by
    rw [hv]
    exact fun z => nomatch z
  refine ⟨A.len, A.nd, A.tr, A.ft, fun n o hn => ?_, fun a ha => ?_, A.tt, fun b ps hb => ⟨(A.tn b ps hb).1, fun z => z.elim (A.tn b ps hb).2.1 fun e => ?_, (A.tn b ps hb).2.2⟩, fun b q h => ⟨(A.po b q h).1, (A.po b q h).2.1, fun z => z.elim (A.po b q h).2.2.1 fun e => (by
    have h : W.ow b = some q := h
    rw [e, ho] at h
    cases h), (A.po b q h).2.2.2⟩⟩
  · obtain ⟨a, h1, h2, h3⟩ := A.ob n o hn
    refine ⟨a, h1, h2, ?_⟩
    cases o with
    | lst xs => exact h3
    | dic kvs =>
      obtain ⟨ws, h4, h5⟩ := h3
      exact ⟨ws, h4, Paired.mapP h5 fun p q z => ⟨z.1, up z.2⟩⟩
    | row ds =>
      obtain ⟨vs, h4, h5⟩ := h3
      exact ⟨vs, h4, Paired.mapP h5 fun p q z => up z⟩
    | tpl ds =>
      obtain ⟨vs, h4, h5⟩ := h3
      exact ⟨vs, h4, Paired.mapP h5 fun p q z => up z⟩
    | ins c fs => exact h3
    | own c fs => exact h3
  · rcases ha with ha | ha
    · exact A.pd a ha
    · rw [ha]
      exact ⟨⟨vs, hv⟩, hf, hi⟩
  · rw [e, hv] at hb
    cases hb
theorem Ev.hide : Ev W H (W.hide p) H := ⟨⟨[], by simp [Wd.hide]⟩, fun _ h => h, fun _ _ _ h => h, fun _ _ h => h, fun _ _ _ h => h, fun _ h => Or.inl h, fun _ _ _ h => h, _root_.rfl, fun _ _ h => h⟩
/-- an item more -/
theorem Ev.grow {u : HO} (e : Ev (W.hide p) H W' H') (hp : ¬ W.pv p) (A' : Abs K W' s H') (hl : ∃ vs, H' p = some (.lst vs)) : Ev W H (W'.show p) (upd H' p u) := by
  obtain ⟨vs, hv⟩ := hl
  have pp : W'.pv p := e.pv p (Or.inr _root_.rfl)
  have nf := (A'.pd p pp).2.1
  have nt : ∀ xs, H' p ≠ some (.tup xs) := fun xs z => by
    rw [hv] at z
    cases z
  have nz : ∀ q r, H' p ≠ some (.frz q r) := fun q r z => by
    rw [hv] at z
    cases z
  refine ⟨e.io, e.fr, fun b q hb h => ?_, fun b xs h => ?_, fun b q r h => ?_, fun b h => ⟨e.pv b (Or.inl h), fun z => hp (z ▸ h)⟩, fun b q hb h => ?_, e.tb, e.ow⟩
  · have ne : b ≠ p := fun z => by
      subst z
      exact nf (e.fr b hb)
    rw [upd_ne ne]
    exact e.fk b q hb h
  · have g := e.tk b xs h
    have ne : b ≠ p := fun z => by
      subst z
      exact nt xs g
    rw [upd_ne ne]
    exact g
  · have g := e.zk b q r h
    have ne : b ≠ p := fun z => by
      subst z
      exact nz q r g
    rw [upd_ne ne]
    exact g
  · have ne : b ≠ p := fun z => by
      subst z
      exact hp hb
    rw [upd_ne ne]
    exact e.pk b q (Or.inl hb) h
theorem Abs.grow {u : HO} (A : Abs K W s H) (pp : W.pv p) (hl : ∃ vs, H p = some (.lst vs)) (no : ∀ ps, u ≠ .tbl ps := by intro _ z; cases z) : Ev (W.show p) H (W.show p) (upd H p u) ∧ Abs K (W.show p) s (upd H p u) := by
  obtain ⟨vs, hv⟩ := hl
  obtain ⟨n1, n2, n3⟩ := A.pd p pp
  have ev : Ev (W.show p) H (W.show p) (upd H p u) := by
    refine ⟨⟨[], by simp⟩, fun _ h => h, fun b q hb h => ?_, fun b xs h => ?_, fun b q r h => ?_, fun _ h => h, fun b q hb h => ?_, _root_.rfl, fun _ _ h => h⟩
    · have ne : b ≠ p := fun z => by
        subst z
        exact n2 hb
      rw [upd_ne ne]
      exact h
    · have ne : b ≠ p := fun z => by
        subst z
        rw [hv] at h
        cases h
      rw [upd_ne ne]
      exact h
    · have ne : b ≠ p := fun z => by
        subst z
        rw [hv] at h
        cases h
      rw [upd_ne ne]
      exact h
    · rw [upd_ne hb.2]
      exact h
  have dn : ∀ {v d}, DV K W H v d → DV K (W.show p) H v d := fun {v d} q => by cases d <;> exact q
  refine ⟨ev, ⟨A.len, A.nd, fun a ha => ?_, fun a ha => ?_, fun n o hn => ?_, fun a ha => ⟨?_, (A.pd a ha.1).2⟩, tabs_put A.tt (fun _ z => by rw [hv] at z; cases z) (fun _ z => by rw [hv] at z; cases z), fun b ps h => ⟨(A.tn b ps (tbl_new h no).2).1, fun z => (A.tn b ps (tbl_new h no).2).2.1 z.1, (A.tn b ps (tbl_new h no).2).2.2⟩, fun b q h => ⟨by rw [upd_ne fun z => (A.po b q h).2.2.1 (by rw [z]; exact pp)]; exact (A.po b q h).1, (A.po b q h).2.1, fun z => (A.po b q h).2.2.1 z.1, (A.po b q h).2.2.2⟩⟩⟩
  · have ne : a ≠ p := fun z => by
      subst z
      exact n3 ha
    rw [upd_ne ne]
    exact A.tr a ha
  · have ne : a ≠ p := fun z => by
      subst z
      exact n2 ha
    rw [upd_ne ne]
    exact A.ft a ha
  · obtain ⟨a, h1, h2, h3⟩ := A.ob n o hn
    have ne : a ≠ p := fun z => by
      subst z
      exact n3 (List.mem_of_getElem? h1)
    refine ⟨a, h1, h2, OV.up ev (upd_ne ne) (fun b f hb => upd_ne fun z => (A.po b _ hb).2.2.1 (by rw [z]; exact pp)) ?_⟩
    cases o with
    | lst xs => exact h3
    | dic kvs =>
      obtain ⟨ws, h4, h5⟩ := h3
      exact ⟨ws, h4, Paired.mapP h5 fun p q z => ⟨z.1, dn z.2⟩⟩
    | row ds =>
      obtain ⟨vs, h4, h5⟩ := h3
      exact ⟨vs, h4, Paired.mapP h5 fun p q z => dn z⟩
    | tpl ds =>
      obtain ⟨vs, h4, h5⟩ := h3
      exact ⟨vs, h4, Paired.mapP h5 fun p q z => dn z⟩
    | ins c fs => exact h3
    | own c fs => exact h3
  · rw [upd_ne ha.2]
    exact (A.pd a ha.1).1
end
end CW
end
section
set_option maxRecDepth 100000
set_option maxHeartbeats 2000000
namespace CW
open PySem PySem.Spec PyProof.Rows L2
structure Cf where
  pg : Program
  w : World
  K : PySem.W.Frag
  mg : Str → Option Value
  base : Heap
  /-- the rows run with the guards known: repr asks for it, a lambda's body doesn't tell it -/
  rg : Bool
  /-- what more is known of a context in which a def's own rows run -/
  ex : Cx → Prop
  /-- the tables of the defs that make lambdas -/
  tb : List (Addr × Str)
  /-- the code object and the name of the def that runs, where it is asked for -/
  cq : Option (Value × Str)
/-- what is known wherever a def's body, or a comprehension's block, runs -/
structure Okx (C : Cf) (k : Nat) (X : Cx) : Prop where
  pr : X.prog = C.pg
  ew : X.w = C.w
  eK : X.K = C.K
  em : X.mg = C.mg
  eb : X.base = C.base
  calm : X.calm = true
  rm : Room k X.A
  gd : C.rg = true → X.A.guards = some []
/-- the scope that runs, by the written one: a captured name may be a cell of the def around -/
structure Lik (sc es : Scope) : Prop where
  loc : ∀ x, sc.names.lookup x = some .local → es.names.lookup x = some .local
  cel : ∀ x, sc.names.lookup x = some .cell → es.names.lookup x = some .cell
  fre : ∀ x, sc.names.lookup x = some .free → es.names.lookup x = some .cell ∨ es.names.lookup x = some .free
  glo : ∀ x, sc.names.lookup x = some .globalImplicit → es.names.lookup x = some .globalImplicit
theorem Lik.rfl {sc : Scope} : Lik sc sc := ⟨fun _ h => h, fun _ h => h, fun _ h => Or.inr h, fun _ h => h⟩
theorem Lik.vis {sc es : Scope} {x : Str} (l : Lik sc es) (h : Vis sc x) : Vis es x := by
  rcases h with h | h | h
  · exact Or.inl (l.loc x h)
  · exact Or.inr (Or.inl (l.cel x h))
  · rcases l.fre x h with h | h
    · exact Or.inr (Or.inl h)
    · exact Or.inr (Or.inr h)
theorem Lik.lo {sc es : Scope} {x : Str} (l : Lik sc es) (h : Loc sc x) : Loc es x := by
  rcases h with h | h
  · exact Or.inl (l.loc x h)
  · exact Or.inr (l.cel x h)
structure Cok (C : Cf) (sc : Scope) (N : List Str) (k : Nat) (X : Cx) : Prop extends Okx C k X where
  nN : X.N = N
  nd : N.Nodup
  eL : Lik sc X.env.scope
  po : PassesOwn (model X.prog X.w) X.A X.env X.xe
  fc : ∀ x, sc.names.lookup x = some .cell → X.fn x = true
  cq : ∀ v q, C.cq = some (v, q) → X.env.code = v ∧ X.env.qual = q
/-- a def's own body -/
structure Cod (C : Cf) (sc : Scope) (N : List Str) (k : Nat) (X : Cx) : Prop extends Cok C sc N k X where
  eS : X.env.scope = sc
  sk : X.stack = X.env :: X.outer
  fm : X.env.frame = some X.env.locals
  nx : X.ex = []
  cx : C.ex X
structure ER (C : Cf) (W : Wd) (H : Hp) (σ : L2.St) (ρ : En) : Prop where
  len : σ.length = ρ.length
  «at» : ∀ (i : Nat) (d : D), ρ[i]? = some (some d) → ∃ v, σ[i]? = some (some v) ∧ DV C.K W H v d
  tb : W.tb = C.tb
def Po (K : PySem.W.Frag) (W : Wd) (H : Hp) (Q : VK) : D → S → Prop := fun d s => ∀ W' H' v, Ev W H W' H' → DV K W' H' v d → Abs K W' s H' → Q v H'
def PoA (K : PySem.W.Frag) (W : Wd) (H : Hp) (Q : List V → Hp → Prop) : List D → S → Prop := fun ds s => ∀ W' H' vs, Ev W H W' H' → DVs K W' H' vs ds → Abs K W' s H' → Q vs H'
def PoT (K : PySem.W.Frag) (W : Wd) (H : Hp) (Q : Bool → Hp → Prop) : Bool → S → Prop := fun b s => ∀ W' H', Ev W H W' H' → Abs K W' s H' → Q b H'
theorem ER.up {C : Cf} {W W' : Wd} {H H' : Hp} {σ : L2.St} {ρ : En} (h : ER C W H σ ρ) (e : Ev W H W' H') : ER C W' H' σ ρ := ⟨h.len, fun i d z => by
  obtain ⟨v, h1, h2⟩ := h.at i d z
  exact ⟨v, h1, h2.up e⟩, e.tb.trans h.tb⟩
theorem Po.up {K : PySem.W.Frag} {W W' : Wd} {H H' : Hp} {Q : VK} {d : D} {s : S} (e : Ev W H W' H') (h : Po K W H Q d s) : Po K W' H' Q d s := fun W2 H2 v e2 => h W2 H2 v (e.trans e2)
theorem PoT.up {K : PySem.W.Frag} {W W' : Wd} {H H' : Hp} {Q : Bool → Hp → Prop} {d : Bool} {s : S} (e : Ev W H W' H') (h : PoT K W H Q d s) : PoT K W' H' Q d s := fun W2 H2 e2 => h W2 H2 (e.trans e2)
abbrev EF := En → M D
abbrev AF := En → M (List D)
abbrev TF := En → M Bool
/-- an expression does m -/
def SE (C : Cf) (sc : Scope) (N : List Str) (k : Nat) (e : Expr) (m : EF) : Prop :=
  ∀ X, Cok C sc N k X → ∃ t, PE X e t ∧ ∀ σ H W s ρ Q, ER C W H σ ρ → Abs C.K W s H → Good (m ρ s) (Po C.K W H Q) → t σ H Q
def SA (C : Cf) (sc : Scope) (N : List Str) (k : Nat) (es : List Expr) (m : AF) : Prop :=
  ∀ X, Cok C sc N k X → ∃ t, PA X es t ∧ ∀ σ H W s ρ Q, ER C W H σ ρ → Abs C.K W s H → Good (m ρ s) (PoA C.K W H Q) → t σ H Q
def ST (C : Cf) (sc : Scope) (N : List Str) (k : Nat) (e : Expr) (m : TF) : Prop :=
  ∀ X, Cok C sc N k X → ∃ t, PT X e t ∧ ∀ σ H W s ρ Q, ER C W H σ ρ → Abs C.K W s H → Good (m ρ s) (PoT C.K W H Q) → t σ H Q
/-- a test within and, or -/
def SW (C : Cf) (sc : Scope) (N : List Str) (k : Nat) (e : Expr) (m : TF) : Prop :=
  ∀ X, Cok C sc N k X → ∃ t, PW X e t ∧ ∀ σ H W s ρ Q, ER C W H σ ρ → Abs C.K W s H → Good (m ρ s) (PoT C.K W H Q) → t σ H Q
section
variable {C : Cf} {sc : Scope} {N : List Str} {k : Nat} {pos : Pos} {e a b : Expr} {m ma mb : EF}
def vE (i : Nat) : EF := fun ρ s => match ρ[i]? with
  | some (some d) => .ok d s
  | _ => .bad
def cE (x : P) : EF := fun _ s => .ok (.p x) s
theorem s_v (i : Nat) {x : Str} (hN : N[i]? = some x := by rfl) (hv : Vis sc x := by first | exact Or.inl rfl | exact Or.inr (Or.inl rfl) | exact Or.inr (Or.inr rfl)) (hd : (x == ("__debug__" : Str)) = false := by decide)
    (hcd : (x == ("__classdict__" : Str)) = false := by decide) : SE C sc N k (.Name x pos) (vE i) := fun X ok => by
  refine ⟨_, pe_var (i := i) (by rw [ok.nN]; exact hN) (ok.eL.vis hv) hd hcd, fun σ H W s ρ Q er A g => ?_⟩
  unfold vE at g
  split at g
  · rename_i d hd
    obtain ⟨v, h1, h2⟩ := er.at i d hd
    exact ⟨v, h1, g W H v Ev.rfl h2 A⟩
  · exact g.elim
theorem s_int {i : Int} {j : Nat} : SE C sc N k (.Constant (.int i) j pos) (cE (.int i)) := fun X ok => ⟨_, pe_int, fun σ H W s ρ Q er A g => g W H _ Ev.rfl (PV.int i) A⟩
theorem s_bl {i : Bool} {j : Nat} : SE C sc N k (.Constant (.bool i) j pos) (cE (.bl i)) := fun X ok => ⟨_, pe_bl, fun σ H W s ρ Q er A g => g W H _ Ev.rfl (PV.bl i) A⟩
theorem s_non {j : Nat} : SE C sc N k (.Constant .none j pos) (cE .non) := fun X ok => ⟨_, pe_non, fun σ H W s ρ Q er A g => g W H _ Ev.rfl PV.non A⟩
def GlS (sc : Scope) (x : Str) : Prop := sc.names.lookup x = some .globalImplicit
theorem GlS.of {X : Cx} {x : Str} (h : GlS sc x) (ok : Cok C sc N k X) : Gl X x := by
  exact ok.eL.glo x h
/-- a module's constant -/
theorem s_glob {x : Str} {v : V} {u : Value} {z : P} (hm : C.mg x = some u) (r : RelV v u) (hz : ∀ F H, PV C.K F H v z) (hg : GlS sc x := by rfl) (hd : (x == ("__debug__" : Str)) = false := by decide) : SE C sc N k (.Name x pos) (cE z) := fun X ok => by
  refine ⟨_, pe_glob (hg.of ok) (by rw [ok.em]; exact hm) r hd, fun σ H W s ρ Q er A g => ?_⟩
  exact g W H v Ev.rfl (hz _ _) A
/-- a two-place operation on values does g -/
def OpS (C : Cf) (k : Nat) (f : Value → Value → Sem Value) (g : D → D → M D) : Prop :=
  ∀ X, Okx C k X → ∃ r, OpR X f r ∧ ∀ W s H x y dx dy Q, DV C.K W H x dx → DV C.K W H y dy → Abs C.K W s H → Good (g dx dy s) (Po C.K W H Q) → r x y H Q
def op2 (g : D → D → M D) (ma mb : EF) : EF := fun ρ => bnd (ma ρ) fun x => bnd (mb ρ) fun y => g x y
theorem two {t u : TE} {R : V → V → Hp → Prop} {σ : L2.St} {H : Hp} {W : Wd} {s : S} {ρ : En} {g : D → D → M D} {Q : VK}
    (ha : ∀ σ H W s ρ Q, ER C W H σ ρ → Abs C.K W s H → Good (ma ρ s) (Po C.K W H Q) → t σ H Q) (hb : ∀ σ H W s ρ Q, ER C W H σ ρ → Abs C.K W s H → Good (mb ρ s) (Po C.K W H Q) → u σ H Q)
    (er : ER C W H σ ρ) (A : Abs C.K W s H) (h : Good (op2 g ma mb ρ s) (Po C.K W H Q))
    (hR : ∀ W' H' s' x y dx dy, Ev W H W' H' → DV C.K W' H' x dx → DV C.K W' H' y dy → Abs C.K W' s' H' → Good (g dx dy s') (Po C.K W' H' Q) → R x y H') : t σ H fun x H1 => u σ H1 fun y H2 => R x y H2 := by
  refine ha σ H W s ρ _ er A (h.bnd.mono fun dx s1 h1 W1 H1 x e1 r1 A1 => ?_)
  refine hb σ H1 W1 s1 ρ _ (er.up e1) A1 (h1.bnd.mono fun dy s2 h2 W2 H2 y e2 r2 A2 => ?_)
  exact hR W2 H2 s2 x y dx dy (e1.trans e2) (r1.up e2) r2 A2 (h2.mono fun d s z => z.up (e1.trans e2))
theorem s_bin {op : Operator} {g : D → D → M D} (ho : OpS C k (binaryOp op) g) (ha : SE C sc N k a ma) (hb : SE C sc N k b mb) : SE C sc N k (.BinOp a op b pos) (op2 g ma mb) := fun X ok => by
  obtain ⟨r, h1, h2⟩ := ho X ok.toOkx
  obtain ⟨ta, pa, qa⟩ := ha X ok
  obtain ⟨tb, pb, qb⟩ := hb X ok
  exact ⟨_, pe_op h1 pa pb, fun σ H W s ρ Q er A g => two qa qb er A g fun W' H' s' x y dx dy e rx ry A' g' => h2 W' s' H' x y dx dy Q rx ry A' g'⟩
theorem s_cmp {op : CmpOp} {g : D → D → M D} (ho : OpS C k (compareOp op) g) (ha : SE C sc N k a ma) (hb : SE C sc N k b mb) (hm : behindInMarks op b = false := by first | exact nomark _ | rfl) : SE C sc N k (.Compare a [op] [b] pos) (op2 g ma mb) := fun X ok => by
  obtain ⟨r, h1, h2⟩ := ho X ok.toOkx
  obtain ⟨ta, pa, qa⟩ := ha X ok
  obtain ⟨tb, pb, qb⟩ := hb X ok
  exact ⟨_, pe_cmpR h1 pa pb hm, fun σ H W s ρ Q er A g => two qa qb er A g fun W' H' s' x y dx dy e rx ry A' g' => h2 W' s' H' x y dx dy Q rx ry A' g'⟩
def chn (g h : D → D → M D) (ma mb mc : EF) : EF := fun ρ => bnd (ma ρ) fun x => bnd (mb ρ) fun y => bnd (g x y) fun c => match c with
  | .p (.bl true) => bnd (mc ρ) fun z => h y z
  | .p (.bl false) => ret (.p (.bl false))
  | _ => bad
theorem chn_go {t u v : TE} {r r' : R2} {mc : EF} {g h : D → D → M D} {σ : L2.St} {H : Hp} {W : Wd} {s : S} {ρ : En} {Q : VK}
    (ha : ∀ σ H W s ρ Q, ER C W H σ ρ → Abs C.K W s H → Good (ma ρ s) (Po C.K W H Q) → t σ H Q) (hb : ∀ σ H W s ρ Q, ER C W H σ ρ → Abs C.K W s H → Good (mb ρ s) (Po C.K W H Q) → u σ H Q)
    (hc : ∀ σ H W s ρ Q, ER C W H σ ρ → Abs C.K W s H → Good (mc ρ s) (Po C.K W H Q) → v σ H Q)
    (h1 : ∀ W s H x y dx dy Q, DV C.K W H x dx → DV C.K W H y dy → Abs C.K W s H → Good (g dx dy s) (Po C.K W H Q) → r x y H Q) (h2 : ∀ W s H x y dx dy Q, DV C.K W H x dx → DV C.K W H y dy → Abs C.K W s H → Good (h dx dy s) (Po C.K W H Q) → r' x y H Q)
    (er : ER C W H σ ρ) (A : Abs C.K W s H) (G : Good (chn g h ma mb mc ρ s) (Po C.K W H Q)) : tChain r r' t u v σ H Q := by
  refine ha σ H W s ρ _ er A (G.bnd.mono fun dx s1 z1 W1 H1 x e1 r1 A1 => ?_)
  refine hb σ H1 W1 s1 ρ _ (er.up e1) A1 (z1.bnd.mono fun dy s2 z2 W2 H2 y e2 r2 A2 => ?_)
  refine h1 W2 s2 H2 x y dx dy _ (r1.up e2) r2 A2 (z2.bnd.mono fun c s3 z3 W3 H3 z e3 r3 A3 => ?_)
  cases c with
  | obj n => exact z3.elim
  | p c =>
    cases r3 with
    | bl c =>
      refine ⟨c, rfl, ?_⟩
      cases c with
      | true =>
        refine iteT (hc σ H3 W3 s3 ρ _ (er.up (e1.trans (e2.trans e3))) A3 (z3.bnd.mono fun dz s4 z4 W4 H4 y' e4 r4 A4 => ?_))
        exact h2 W4 s4 H4 y y' dy dz Q (r2.up (e3.trans e4)) r4 A4 (z4.mono fun _ _ q => q.up (e1.trans (e2.trans (e3.trans e4))))
      | false => exact iteF (z3 W3 H3 _ (e1.trans (e2.trans e3)) (.bl false) A3)
    | _ => exact z3.elim
/-- a value that must be a truth -/
def tB (m : EF) : TF := fun ρ => bnd (m ρ) fun d => match d with
  | .p (.bl b) => ret b
  | _ => bad
theorem tB_go {t : TE} {σ : L2.St} {H : Hp} {W : Wd} {s : S} {ρ : En} {Q : Bool → Hp → Prop}
    (ha : ∀ σ H W s ρ Q, ER C W H σ ρ → Abs C.K W s H → Good (ma ρ s) (Po C.K W H Q) → t σ H Q) (er : ER C W H σ ρ) (A : Abs C.K W s H) (h : Good (tB ma ρ s) (PoT C.K W H Q)) : t σ H fun x H1 => ∃ c, x = .bl c ∧ Q c H1 := by
  refine ha σ H W s ρ _ er A (h.bnd.mono fun d s1 h1 W1 H1 x e1 r1 A1 => ?_)
  cases d with
  | obj n => exact h1.elim
  | p z =>
    cases z with
    | bl c =>
      cases r1
      exact ⟨c, rfl, h1 W1 H1 e1 A1⟩
    | _ => exact h1.elim
theorem t_cmp {op : CmpOp} {g : D → D → M D} (ho : OpS C k (compareOp op) g) (ha : SE C sc N k a ma) (hb : SE C sc N k b mb) (hm : behindInMarks op b = false := by first | exact nomark _ | rfl) : ST C sc N k (.Compare a [op] [b] pos) (tB (op2 g ma mb)) := fun X ok => by
  obtain ⟨r, h1, h2⟩ := ho X ok.toOkx
  obtain ⟨ta, pa, qa⟩ := ha X ok
  obtain ⟨tb, pb, qb⟩ := hb X ok
  exact ⟨_, pt_cmpR h1 pa pb hm, fun σ H W s ρ Q er A g => tB_go (t := tOp r ta tb) (fun σ H W s ρ Q er A g => two qa qb er A g fun W' H' s' x y dx dy e rx ry A' g' => h2 W' s' H' x y dx dy Q rx ry A' g') er A g⟩
theorem t_chain {op op' : CmpOp} {g h : D → D → M D} {c : Expr} {mc : EF} (ho : OpS C k (compareOp op) g) (ho' : OpS C k (compareOp op') h) (ha : SE C sc N k a ma) (hb : SE C sc N k b mb) (hc : SE C sc N k c mc)
    (hm : lastMarks [op, op'] [b, c] = false := by with_unfolding_all rfl) : ST C sc N k (.Compare a [op, op'] [b, c] pos) (tB (chn g h ma mb mc)) := fun X ok => by
  obtain ⟨r, h1, h2⟩ := ho X ok.toOkx
  obtain ⟨r', h1', h2'⟩ := ho' X ok.toOkx
  obtain ⟨ta, pa, qa⟩ := ha X ok
  obtain ⟨tb, pb, qb⟩ := hb X ok
  obtain ⟨tc, pc, qc⟩ := hc X ok
  exact ⟨_, pt_chain h1 h1' pa pb pc hm, fun σ H W s ρ Q er A g => tB_go (t := tChain r r' ta tb tc) (fun σ H W s ρ Q er A g => chn_go qa qb qc h2 h2' er A g) er A g⟩
/-- the truth of a value -/
def truD : D → M Bool
  | .p .non => ret false
  | .p (.bl b) => ret b
  | .p (.int i) => ret (i != 0)
  | .p (.lst xs) => ret (!xs.isEmpty)
  | .p (.con xs) => ret (!xs.isEmpty)
  | .p (.tup xs) => ret (!xs.isEmpty)
  | .p (.str x) => fun s => if x.length ≤ sizeLine then .ok ((x.length : Int) != 0) s else .bad
  | .obj n => fun s => match s[n]? with
    | some (some (.lst xs)) => .ok (!xs.isEmpty) s
    | some (some (.dic kvs)) => .ok (!kvs.isEmpty) s
    | _ => .bad
  | _ => bad
def tT (m : EF) : TF := fun ρ => bnd (m ρ) truD
theorem PVs.emp {K : PySem.W.Frag} {F : Addr → Prop} {H : Hp} {vs : List V} {xs : List P} (h : PVs K F H vs xs) : (!vs.isEmpty) = !xs.isEmpty := by
  cases h <;> rfl
theorem Paired.emp {α β : Type} {f : α → β → Prop} {vs : List α} {xs : List β} (h : Paired f vs xs) : (!vs.isEmpty) = !xs.isEmpty := by
  cases h <;> rfl
theorem tT_go {t : TE} {σ : L2.St} {H : Hp} {W : Wd} {s : S} {ρ : En} {Q : Bool → Hp → Prop}
    (ha : ∀ σ H W s ρ Q, ER C W H σ ρ → Abs C.K W s H → Good (ma ρ s) (Po C.K W H Q) → t σ H Q) (er : ER C W H σ ρ) (A : Abs C.K W s H) (h : Good (tT ma ρ s) (PoT C.K W H Q)) : t σ H fun x H1 => ∃ c, TruV C.K x H1 c ∧ Q c H1 := by
  refine ha σ H W s ρ _ er A (h.bnd.mono fun d s1 h1 W1 H1 x e1 r1 A1 => ?_)
  cases d with
  | obj n =>
    obtain ⟨a, h4, rfl⟩ := r1
    unfold truD at h1
    dsimp only at h1
    split at h1
    · rename_i xs hs
      obtain ⟨a', h5, _, vs, h6, h7⟩ := A1.ob n _ hs
      rw [h4] at h5
      cases h5
      exact ⟨_, Or.inl ⟨vs, SqL.of h6, rfl⟩, by rw [h7.emp]; exact h1 W1 H1 e1 A1⟩
    · rename_i kvs hs
      obtain ⟨a', h5, _, vs, h6, h7⟩ := A1.ob n _ hs
      rw [h4] at h5
      cases h5
      exact ⟨_, Or.inr (Or.inr ⟨vs, h6, rfl⟩), by rw [Paired.emp h7]; exact h1 W1 H1 e1 A1⟩
    · exact h1.elim
  | p z =>
    cases r1 with
    | non => exact ⟨_, rfl, h1 W1 H1 e1 A1⟩
    | bl c => exact ⟨_, rfl, h1 W1 H1 e1 A1⟩
    | int c => exact ⟨_, rfl, h1 W1 H1 e1 A1⟩
    | str c =>
      unfold truD at h1
      dsimp only at h1
      split at h1
      · rename_i hl
        exact ⟨_, ⟨hl, rfl⟩, h1 W1 H1 e1 A1⟩
      · exact h1.elim
    | ty c => exact h1.elim
    | ref c => exact h1.elim
    | emp _ _ => exact h1.elim
    | exn _ _ _ _ => exact h1.elim
    | exf _ _ _ _ _ _ => exact h1.elim
    | cls _ => exact h1.elim
    | lam _ _ => exact h1.elim
    | dct _ _ _ => exact h1.elim
    | tup hq hr => exact ⟨_, Or.inr (Or.inl ⟨_, hq, rfl⟩), by rw [hr.emp]; exact h1 W1 H1 e1 A1⟩
    | lst hf hq hr => exact ⟨_, Or.inl ⟨_, SqL.of hq, rfl⟩, by rw [hr.emp]; exact h1 W1 H1 e1 A1⟩
    | con hq hr => exact ⟨_, Or.inl ⟨_, hq.sql, rfl⟩, by rw [hr.emp]; exact h1 W1 H1 e1 A1⟩
theorem t_val (ha : SE C sc N k a ma) (he : ∀ (env : Env) whole, isTrue a env whole = (do let v ← whole; standAt a.pos; holding [v] (truthy v)) := by intro _ _; rfl) : ST C sc N k a (tT ma) := fun X ok => by
  obtain ⟨ta, pa, qa⟩ := ha X ok
  refine ⟨_, pt_truth pa (he X.env), fun σ H W s ρ Q er A g => ?_⟩
  rw [ok.eK]
  exact tT_go qa er A g
def andT (ma mb : TF) : TF := fun ρ => bnd (ma ρ) fun c => if c = true then mb ρ else ret false
def orT (ma mb : TF) : TF := fun ρ => bnd (ma ρ) fun c => if c = true then ret true else mb ρ
def notT (ma : TF) : TF := fun ρ => bnd (ma ρ) fun c => ret (!c)
section
variable {ta tb : TF} {rest : List Expr}
theorem w_or1 (ha : ST C sc N k a ta) : SW C sc N k (.BoolOp .Or [a] pos) ta := fun X ok => by
  obtain ⟨t, p, q⟩ := ha X ok
  exact ⟨_, pw_or1 p, q⟩
theorem w_or (ha : ST C sc N k a ta) (hb : SW C sc N k (.BoolOp .Or (b :: rest) pos) tb) : SW C sc N k (.BoolOp .Or (a :: b :: rest) pos) (orT ta tb) := fun X ok => by
  obtain ⟨t, p, q⟩ := ha X ok
  obtain ⟨u, p', q'⟩ := hb X ok
  refine ⟨_, pw_or p p', fun σ H W s ρ Q er A g => ?_⟩
  refine q σ H W s ρ _ er A (g.bnd.mono fun c s1 h1 W1 H1 e1 A1 => ?_)
  cases c with
  | true => exact iteT (h1 W1 H1 e1 A1)
  | false => exact iteF (q' σ H1 W1 s1 ρ Q (er.up e1) A1 (Good.mono h1 fun _ _ z => z.up e1))
theorem t_w (h : SW C sc N k a ta) : ST C sc N k a ta := fun X ok => by
  obtain ⟨t, p, q⟩ := h X ok
  exact ⟨_, p.pt, q⟩
theorem t_not (ha : ST C sc N k a ta) : ST C sc N k (.UnaryOp .Not a pos) (notT ta) := fun X ok => by
  obtain ⟨t, p, q⟩ := ha X ok
  refine ⟨_, pt_not p, fun σ H W s ρ Q er A g => ?_⟩
  exact q σ H W s ρ _ er A (g.bnd.mono fun c s1 h1 W1 H1 e1 A1 => h1 W1 H1 e1 A1)
def ifE (t : TF) (ma mb : EF) : EF := fun ρ => bnd (t ρ) fun c => if c = true then ma ρ else mb ρ
theorem s_if {c : Expr} (hc : ST C sc N k c ta) (ha : SE C sc N k a ma) (hb : SE C sc N k b mb) : SE C sc N k (.IfExp c a b pos) (ifE ta ma mb) := fun X ok => by
  obtain ⟨t, p, q⟩ := hc X ok
  obtain ⟨u, p', q'⟩ := ha X ok
  obtain ⟨v, p2, q2⟩ := hb X ok
  refine ⟨_, pe_ifExp p p' p2, fun σ H W s ρ Q er A g => ?_⟩
  refine q σ H W s ρ _ er A (g.bnd.mono fun c s1 h1 W1 H1 e1 A1 => ?_)
  cases c with
  | true => exact iteT (q' σ H1 W1 s1 ρ Q (er.up e1) A1 (Good.mono h1 fun _ _ z => z.up e1))
  | false => exact iteF (q2 σ H1 W1 s1 ρ Q (er.up e1) A1 (Good.mono h1 fun _ _ z => z.up e1))
def andE (ma mb : EF) : EF := fun ρ => bnd (ma ρ) fun d => match d with
  | .p (.bl c) => if c = true then mb ρ else ret (.p (.bl false))
  | _ => bad
def orE (ma mb : EF) : EF := fun ρ => bnd (ma ρ) fun d => match d with
  | .p (.bl c) => if c = true then ret (.p (.bl true)) else mb ρ
  | _ => bad
def notE (ma : EF) : EF := fun ρ => bnd (ma ρ) fun d => match d with
  | .p (.bl c) => ret (.p (.bl (!c)))
  | _ => bad
theorem s_one {op} (ha : SE C sc N k a ma) : SE C sc N k (.BoolOp op [a] pos) ma := fun X ok => by
  obtain ⟨t, p, q⟩ := ha X ok
  exact ⟨_, pe_one p, q⟩
theorem s_and (ha : SE C sc N k a ma) (hb : SE C sc N k (.BoolOp .And (b :: rest) pos) mb) : SE C sc N k (.BoolOp .And (a :: b :: rest) pos) (andE ma mb) := fun X ok => by
  obtain ⟨t, p, q⟩ := ha X ok
  obtain ⟨u, p', q'⟩ := hb X ok
  refine ⟨_, pe_and p p', fun σ H W s ρ Q er A g => ?_⟩
  refine q σ H W s ρ _ er A (g.bnd.mono fun c s1 h1 W1 H1 x e1 r1 A1 => ?_)
  cases c with
  | obj n => exact h1.elim
  | p z =>
    cases r1 with
    | bl c =>
      refine ⟨c, rfl, ?_⟩
      cases c with
      | true => exact iteT (q' σ H1 W1 s1 ρ Q (er.up e1) A1 (Good.mono h1 fun _ _ z => z.up e1))
      | false => exact iteF (h1 W1 H1 _ e1 (.bl false) A1)
    | _ => exact h1.elim
theorem s_not (ha : SE C sc N k a ma) : SE C sc N k (.UnaryOp .Not a pos) (notE ma) := fun X ok => by
  obtain ⟨t, p, q⟩ := ha X ok
  refine ⟨_, pe_not p, fun σ H W s ρ Q er A g => ?_⟩
  refine q σ H W s ρ _ er A (g.bnd.mono fun c s1 h1 W1 H1 x e1 r1 A1 => ?_)
  cases c with
  | obj n => exact h1.elim
  | p z =>
    cases r1 with
    | bl c => exact ⟨c, rfl, h1 W1 H1 _ e1 (.bl _) A1⟩
    | _ => exact h1.elim
end
def negD : D → M D
  | .p (.int i) => ret (.p (.int (-i)))
  | _ => bad
def op1 (g : D → M D) (ma : EF) : EF := fun ρ => bnd (ma ρ) g
theorem s_neg (ha : SE C sc N k a ma) : SE C sc N k (.UnaryOp .USub a pos) (op1 negD ma) := fun X ok => by
  obtain ⟨t, p, q⟩ := ha X ok
  refine ⟨_, pe_un un_neg p, fun σ H W s ρ Q er A g => ?_⟩
  refine q σ H W s ρ _ er A (g.bnd.mono fun c s1 h1 W1 H1 x e1 r1 A1 => ?_)
  cases c with
  | obj n => exact h1.elim
  | p z =>
    cases r1 with
    | int c => exact ⟨c, rfl, h1 W1 H1 _ e1 (.int _) A1⟩
    | _ => exact h1.elim
def evA : List EF → AF
  | [] => fun _ s => .ok [] s
  | m :: r => fun ρ => bnd (m ρ) fun d => bnd (evA r ρ) fun ds => ret (d :: ds)
theorem evA_len : ∀ (ms : List EF) {ρ : En} {s s' : S} {ds : List D}, evA ms ρ s = .ok ds s' → ds.length = ms.length
  | [], ρ, s, s', ds, h => by
    unfold evA at h
    cases h
    rfl
  | m :: r, ρ, s, s', ds, h => by
    simp only [evA, bnd] at h
    cases h1 : m ρ s with
    | bad =>
      rw [h1] at h
      cases h
    | exn _ _ =>
      rw [h1] at h
      cases h
    | ok d s1 =>
      rw [h1] at h
      simp only at h
      cases h2 : evA r ρ s1 with
      | bad =>
        rw [h2] at h
        cases h
      | exn _ _ =>
        rw [h2] at h
        cases h
      | ok es s2 =>
        rw [h2] at h
        cases h
        exact congrArg (· + 1) (evA_len r h2)
theorem Good.len {ms : List EF} {ρ : En} {s : S} {Q : List D → S → Prop} (h : Good (evA ms ρ s) Q) : Good (evA ms ρ s) fun ds s' => ds.length = ms.length ∧ Q ds s' := by
  cases e : evA ms ρ s with
  | ok ds s' =>
    rw [e] at h
    exact ⟨evA_len ms e, h⟩
  | bad =>
    rw [e] at h
    exact h
  | exn _ _ =>
    rw [e] at h
    exact h
abbrev SAs (C : Cf) (sc : Scope) (N : List Str) (k : Nat) (es : List Expr) (ms : List EF) : Prop := SA C sc N k es (evA ms)
theorem a_nil : SAs C sc N k [] [] := fun X ok => ⟨_, pa_nil, fun σ H W s ρ Q er A g => g W H [] Ev.rfl .nil A⟩
theorem a_cons {es : List Expr} {r : List EF} (ha : SE C sc N k a ma) (hr : SAs C sc N k es r) (he : ∀ env, starEach (a :: es) env = (false, eval a env) :: starEach es env := by intro _; rfl) : SAs C sc N k (a :: es) (ma :: r) := fun X ok => by
  obtain ⟨t, p, q⟩ := ha X ok
  obtain ⟨u, p', q'⟩ := hr X ok
  refine ⟨_, pa_cons p p' (he X.env), fun σ H W s ρ Q er A g => ?_⟩
  refine q σ H W s ρ _ er A ((Good.bnd g).mono fun d s1 h1 W1 H1 x e1 r1 A1 => ?_)
  refine q' σ H1 W1 s1 ρ _ (er.up e1) A1 ((Good.bnd h1).mono fun ds s2 h2 W2 H2 xs e2 r2 A2 => ?_)
  exact h2 W2 H2 (x :: xs) (e1.trans e2) (.cons (r1.up e2) r2) A2
end
end CW
end
section
set_option maxRecDepth 100000
set_option maxHeartbeats 2000000
namespace CW
open PySem PySem.Spec PyProof.Rows L2
def plain : List D → Option (List P)
  | [] => some []
  | .p x :: r => (plain r).map (x :: ·)
  | .obj _ :: _ => none
theorem plain_eq : ∀ {ds : List D} {xs : List P}, plain ds = some xs → ds = xs.map D.p
  | [], xs, h => by
    cases h
    rfl
  | .p x :: r, xs, h => by
    unfold plain at h
    cases e : plain r with
    | none =>
      rw [e] at h
      cases h
    | some ys =>
      rw [e] at h
      have h' := Option.some.inj h
      subst h'
      rw [plain_eq e]
      rfl
  | .obj _ :: _, xs, h => by cases h
section
variable {C : Cf} {sc : Scope} {N : List Str} {k : Nat} {pos : Pos} {e a b : Expr} {m ma mb : EF} {es : List Expr} {ms : List EF}
def tupE (ms : List EF) : EF := fun ρ => bnd (evA ms ρ) fun ds s => match plain ds with
  | some xs => .ok (.p (.tup xs)) s
  | none => .bad
theorem s_tup {x1} (h : SAs C sc N k es ms) (hl : ms.length ≤ sizeLine := by decide) : SE C sc N k (.Tuple es x1 pos) (tupE ms) := fun X ok => by
  obtain ⟨t, p, q⟩ := h X ok
  refine ⟨_, pe_tup p, fun σ H W s ρ Q er A g => ?_⟩
  refine q σ H W s ρ _ er A (g.bnd.len.mono fun ds s1 ⟨z, h1⟩ W1 H1 vs e1 r1 A1 => ?_)
  split at h1
  · rename_i xs hx
    have hx' := plain_eq hx
    subst hx'
    refine ⟨by rw [Paired.length r1, z]; exact hl, fun o ho => ?_⟩
    have r2 : PVs C.K W1.fr (upd H1 o (.tup vs)) vs xs := PVs.up (Ev.new ho) (DVs.plain r1)
    exact h1 W1 _ _ (e1.trans (Ev.new ho)) (PV.tup (SqT.of upd_same) r2) (A1.new ho)
  · exact h1.elim
/-- a list that will not be changed -/
def lstE (ms : List EF) : EF := fun ρ => bnd (evA ms ρ) fun ds s => match plain ds with
  | some xs => .ok (.p (.lst xs)) s
  | none => .bad
theorem keep_go {W W1 : Wd} {H H1 : Hp} {s : S} {xs : List P} {vs : List V} {Q : VK} {o : Addr} (e : Ev W H W1 H1) (A : Abs C.K W1 s H1) (r : PVs C.K W1.fr H1 vs xs) (g : Po C.K W H Q (.p (.lst xs)) s) (ho : H1 o = none) : Q (.ref o) (upd H1 o (.lst vs)) := by
  have ev : Ev W1 H1 (W1.keep o) (upd H1 o (.lst vs)) := Ev.keep ho
  exact g _ _ _ (e.trans ev) (PV.lst (Or.inr rfl) upd_same (PVs.up ev r)) (A.keep ho)
theorem s_lst (h : SAs C sc N k es ms) (hl : ms.length ≤ sizeLine := by decide) : SE C sc N k (.List es pos) (lstE ms) := fun X ok => by
  obtain ⟨t, p, q⟩ := h X ok
  refine ⟨_, pe_lst p, fun σ H W s ρ Q er A g => ?_⟩
  refine q σ H W s ρ _ er A (g.bnd.len.mono fun ds s1 ⟨z, h1⟩ W1 H1 vs e1 r1 A1 => ?_)
  split at h1
  · rename_i xs hx
    have hx' := plain_eq hx
    subst hx'
    exact ⟨by rw [Paired.length r1, z]; exact hl, fun o ho => keep_go e1 A1 (DVs.plain r1) h1 ho⟩
  · exact h1.elim
/-- a list that may be changed -/
def newL (xs : List P) : M D := fun s => .ok (.obj s.length) (s ++ [some (.lst xs)])
def lsoE (ms : List EF) : EF := fun ρ => bnd (evA ms ρ) fun ds s => match plain ds with
  | some xs => newL xs s
  | none => .bad
theorem new_go {W W1 : Wd} {H H1 : Hp} {s : S} {xs : List P} {vs : List V} {Q : VK} {o : Addr} (e : Ev W H W1 H1) (A : Abs C.K W1 s H1) (r : PVs C.K W1.fr H1 vs xs) (g : Good (newL xs s) (Po C.K W H Q)) (ho : H1 o = none) : Q (.ref o) (upd H1 o (.lst vs)) := by
  have ev : Ev W1 H1 (W1.add o) (upd H1 o (.lst vs)) := Ev.add ho
  exact g _ _ _ (e.trans ev) ⟨o, A.nobj ho, rfl⟩ (A.add ho ⟨vs, upd_same, PVs.up ev r⟩)
theorem s_lso (h : SAs C sc N k es ms) (hl : ms.length ≤ sizeLine := by decide) : SE C sc N k (.List es pos) (lsoE ms) := fun X ok => by
  obtain ⟨t, p, q⟩ := h X ok
  refine ⟨_, pe_lst p, fun σ H W s ρ Q er A g => ?_⟩
  refine q σ H W s ρ _ er A (g.bnd.len.mono fun ds s1 ⟨z, h1⟩ W1 H1 vs e1 r1 A1 => ?_)
  split at h1
  · rename_i xs hx
    have hx' := plain_eq hx
    subst hx'
    exact ⟨by rw [Paired.length r1, z]; exact hl, fun o ho => new_go e1 A1 (DVs.plain r1) h1 ho⟩
  · exact h1.elim
/-- the items of a list, changing or not -/
def its : D → S → Option (List P)
  | .p (.lst xs), _ => some xs
  | .p (.con xs), _ => some xs
  | .obj n, s => match s[n]? with
    | some (some (.lst xs)) => some xs
    | _ => none
  | _, _ => none
/-- .. of a list of our own -/
def itm : D → S → Option (List P)
  | .p (.lst xs), _ => some xs
  | .obj n, s => match s[n]? with
    | some (some (.lst xs)) => some xs
    | _ => none
  | _, _ => none
theorem itm_at {W : Wd} {H : Hp} {s : S} {v : V} {d : D} {xs : List P} (r : DV C.K W H v d) (A : Abs C.K W s H) (h : itm d s = some xs) : ∃ a vs, v = .ref a ∧ H a = some (.lst vs) ∧ PVs C.K W.fr H vs xs := by
  cases d with
  | obj n =>
    unfold itm at h
    dsimp only at h
    split at h
    · rename_i ys hs
      cases h
      obtain ⟨a, h1, _, vs, h2, h3⟩ := A.ob n _ hs
      obtain ⟨a', h4, rfl⟩ := r
      rw [h1] at h4
      cases h4
      exact ⟨a, vs, rfl, h2, h3⟩
    · cases h
  | p z =>
    cases r with
    | lst hf hq hr =>
      cases h
      exact ⟨_, _, rfl, hq, hr⟩
    | _ => cases h
theorem its_sq {W : Wd} {H : Hp} {s : S} {v : V} {d : D} {xs : List P} (r : DV C.K W H v d) (A : Abs C.K W s H) (h : its d s = some xs) : ∃ a vs, v = .ref a ∧ SqL C.K H a vs ∧ PVs C.K W.fr H vs xs := by
  cases d with
  | obj n =>
    unfold its at h
    dsimp only at h
    split at h
    · rename_i ys hs
      cases h
      obtain ⟨a, h1, _, vs, h2, h3⟩ := A.ob n _ hs
      obtain ⟨a', h4, rfl⟩ := r
      rw [h1] at h4
      cases h4
      exact ⟨a, vs, rfl, SqL.of h2, h3⟩
    · cases h
  | p z =>
    cases r with
    | lst hf hq hr =>
      cases h
      exact ⟨_, _, rfl, SqL.of hq, hr⟩
    | con hq hr =>
      cases h
      exact ⟨_, _, rfl, hq.sql, hr⟩
    | _ => cases h
theorem PVs.atI {K : PySem.W.Frag} {F : Addr → Prop} {H : Hp} {vs : List V} {xs : List P} {i : Int} {x : P} (h : PVs K F H vs xs) (e : L2.atI xs i = some x) : ∃ v, L2.atI vs i = some v ∧ PV K F H v x := by
  unfold L2.atI at e ⊢
  rw [h.len]
  cases hj : ixN xs.length i with
  | none =>
    rw [hj] at e
    cases e
  | some j =>
    rw [hj] at e
    exact h.get e
/-- list, tuple or text by an index -/
def ixD (x y : D) : M D := fun s => match y with
  | .p (.int i) => match x with
    | .p (.tup xs) => match L2.atI xs i with
      | some z => .ok (.p z) s
      | none => .bad
    | .p (.str z) => match L2.atI z.cps.toList i with
      | some c => if z.length ≤ sizeLine then .ok (.p (.str ⟨#[c]⟩)) s else .bad
      | none => .bad
    | x => match its x s with
      | some xs => match L2.atI xs i with
        | some z => .ok (.p z) s
        | none => .bad
      | none => .bad
  | _ => .bad
theorem ixD_go {W : Wd} {H : Hp} {s : S} {x y : V} {dx dy : D} {Q : VK} (rx : DV C.K W H x dx) (ry : DV C.K W H y dy) (A : Abs C.K W s H) (g : Good (ixD dx dy s) (Po C.K W H Q)) : rIx C.K x y H Q := by
  unfold ixD at g
  split at g
  · rename_i i
    cases ry
    split at g
    · rename_i xs
      split at g
      · rename_i z hz
        cases rx with
        | tup hq hr =>
          obtain ⟨v, h1, h2⟩ := hr.atI hz
          exact Or.inr (Or.inl ⟨_, _, _, _, rfl, rfl, hq, h1, g W H v Ev.rfl h2 A⟩)
      · exact g.elim
    · rename_i z
      split at g
      · rename_i c hc
        split at g
        · rename_i hl
          cases rx
          exact Or.inr (Or.inr ⟨z, i, c, rfl, rfl, hl, hc, g W H _ Ev.rfl (PV.str _) A⟩)
        · exact g.elim
      · exact g.elim
    · split at g
      · rename_i xs hx
        split at g
        · rename_i z hz
          obtain ⟨a, vs, rfl, hq, hr⟩ := its_sq rx A hx
          obtain ⟨v, h1, h2⟩ := hr.atI hz
          exact Or.inl ⟨_, _, _, _, rfl, rfl, hq, h1, g W H v Ev.rfl h2 A⟩
        · exact g.elim
      · exact g.elim
  · exact g.elim
theorem s_ix (ha : SE C sc N k a ma) (hb : SE C sc N k b mb) (hs : PlainIx b := by exact fun _ _ => rfl) : SE C sc N k (.Subscript a b pos) (op2 ixD ma mb) := fun X ok => by
  obtain ⟨ta, pa, qa⟩ := ha X ok
  obtain ⟨tb, pb, qb⟩ := hb X ok
  refine ⟨_, pe_ix ix_seq pa pb hs, fun σ H W s ρ Q er A g => ?_⟩
  rw [ok.eK]
  exact two qa qb er A g fun W' H' s' x y dx dy e rx ry A' g' => ixD_go rx ry A' g'
def keyD : D → Option Key
  | .p (.int i) => some (.inl i)
  | .p (.str x) => some (.inr x)
  | _ => none
def lookD (kvs : List (Key × D)) (q : Key) : Option D := (kvs.find? fun kv => decide (kv.1 = q)).map (·.2)
def putD (kvs : List (Key × D)) (q : Key) (v : D) : List (Key × D) :=
  if (kvs.any fun kv => decide (kv.1 = q)) = true then kvs.map (fun kv => if kv.1 = q then (kv.1, v) else kv) else kvs ++ [(q, v)]
def dctD : D → S → Option (List (Key × D))
  | .obj n, s => match s[n]? with
    | some (some (.dic kvs)) => some kvs
    | _ => none
  | _, _ => none
def dgetD (x y : D) : M D := fun s => match dctD x s, keyD y with
  | some kvs, some q => match lookD kvs q with
    | some d => .ok d s
    | none => .bad
  | _, _ => .bad
/-- {"a": x, ..} -/
def mkD (l : List (Key × D)) (acc : List (Key × D)) : List (Key × D) := l.foldl (fun acc kd => putD acc kd.1 kd.2) acc
def dicE (ks : List Str) (ms : List EF) : EF := fun ρ s => bnd (evA ms ρ) (fun ds s2 => match s2[s.length]? with
  | some (some (.dic [])) => .ok (.obj s.length) (s2.set s.length (some (.dic (mkD ((ks.map Sum.inr).zip ds) []))))
  | _ => .bad) (s ++ [some (.dic [])])
end
end CW
end
section
set_option maxRecDepth 100000
set_option maxHeartbeats 2000000
namespace CW
open PySem PySem.Spec PyProof.Rows L2
section
variable {C : Cf} {k : Nat}
def mulOk (i j : Int) : Prop := i.natAbs.log2 + j.natAbs.log2 < 1000000 ∨ i.natAbs < 2 ^ 64 ∨ j.natAbs < 2 ^ 64
instance (i j : Int) : Decidable (mulOk i j) := by unfold mulOk; exact inferInstance
theorem mulOk.ok {i j : Int} (h : mulOk i j) : IntMulOk i j := by
  rcases h with h | h | h
  · exact CMulW.ok h
  · exact .of_left (intBits_le_64 (by omega) (by omega))
  · exact .of_right (intBits_le_64 (by omega) (by omega))
def divOk (i j : Int) : Prop := j ≠ 0 ∧ Builtin.divisionGoesByPylong i j = false
instance (i j : Int) : Decidable (divOk i j) := by unfold divOk; exact inferInstance
def powOk (i j : Int) : Prop := 0 ≤ j ∧ j ≤ 1000000 ∧ i.natAbs < 2 ^ 64
instance (i j : Int) : Decidable (powOk i j) := by unfold powOk; exact inferInstance
/-- int and int -/
def ii (c : Int → Int → Bool) (g : Int → Int → P) (x y : D) : M D := fun s => match x, y with
  | .p (.int i), .p (.int j) => if c i j = true then .ok (.p (g i j)) s else .bad
  | _, _ => .bad
def yes : Int → Int → Bool := fun _ _ => true
theorem ii_go {W : Wd} {H : Hp} {s : S} {x y : V} {dx dy : D} {Q : D → S → Prop} {c : Int → Int → Bool} {g : Int → Int → P} (rx : DV C.K W H x dx) (ry : DV C.K W H y dy) (h : Good (ii c g dx dy s) Q) : ∃ i j, x = .int i ∧ y = .int j ∧ c i j = true ∧ Q (.p (g i j)) s := by
  unfold ii at h
  split at h
  · split at h
    · rename_i hc
      cases rx
      cases ry
      exact ⟨_, _, rfl, rfl, hc, h⟩
    · exact h.elim
  · exact h.elim
def subD := ii yes fun i j => .int (i - j)
def modD := ii (fun _ j => j != 0) fun i j => .int (i.fmod j)
def divD := ii (fun i j => decide (divOk i j)) fun i j => .int (i.fdiv j)
def powD := ii (fun i j => decide (powOk i j)) fun i j => .int (i ^ j.toNat)
def ltD := ii yes fun i j => .bl (decide (i < j))
def leD := ii yes fun i j => .bl (decide (i ≤ j))
def gtD := ii yes fun i j => .bl (decide (j < i))
def geD := ii yes fun i j => .bl (decide (j ≤ i))
theorem o_sub : OpS C k (binaryOp .Sub) subD := fun X ok => ⟨_, op_sub, fun W s H x y dx dy Q rx ry A g => by
  obtain ⟨i, j, rfl, rfl, _, q⟩ := ii_go rx ry g
  exact ⟨i, j, rfl, rfl, q W H _ Ev.rfl (PV.int _) A⟩⟩
theorem o_mod : OpS C k (binaryOp .Mod) modD := fun X ok => ⟨_, op_modN, fun W s H x y dx dy Q rx ry A g => by
  obtain ⟨i, j, rfl, rfl, c, q⟩ := ii_go rx ry g
  exact ⟨i, j, rfl, rfl, by simpa using c, q W H _ Ev.rfl (PV.int _) A⟩⟩
theorem o_div : OpS C k (binaryOp .FloorDiv) divD := fun X ok => ⟨_, (opI (C := divOk) (g := fun i j => i.fdiv j) fun i j _ _ _ _ _ hc q => floordiv_int hc.1 q (Or.inl hc.2)), fun W s H x y dx dy Q rx ry A g => by
  obtain ⟨i, j, rfl, rfl, c, q⟩ := ii_go rx ry g
  exact ⟨i, j, rfl, rfl, of_decide_eq_true c, q W H _ Ev.rfl (PV.int _) A⟩⟩
theorem o_pow : OpS C k (binaryOp .Pow) powD := fun X ok => ⟨_, op_pow, fun W s H x y dx dy Q rx ry A g => by
  obtain ⟨i, j, rfl, rfl, c, q⟩ := ii_go rx ry g
  have c2 : powOk i j := of_decide_eq_true c
  exact ⟨i, j, rfl, rfl, c2, q W H _ Ev.rfl (PV.int _) A⟩⟩
theorem o_lt : OpS C k (compareOp .Lt) ltD := fun X ok => ⟨_, op_lt, fun W s H x y dx dy Q rx ry A g => by
  obtain ⟨i, j, rfl, rfl, c, q⟩ := ii_go rx ry g
  exact ⟨i, j, rfl, rfl, q W H _ Ev.rfl (PV.bl _) A⟩⟩
theorem o_le : OpS C k (compareOp .LtE) leD := fun X ok => ⟨_, op_le, fun W s H x y dx dy Q rx ry A g => by
  obtain ⟨i, j, rfl, rfl, c, q⟩ := ii_go rx ry g
  exact ⟨i, j, rfl, rfl, q W H _ Ev.rfl (PV.bl _) A⟩⟩
theorem o_gt : OpS C k (compareOp .Gt) gtD := fun X ok => ⟨_, op_gt, fun W s H x y dx dy Q rx ry A g => by
  obtain ⟨i, j, rfl, rfl, c, q⟩ := ii_go rx ry g
  exact ⟨i, j, rfl, rfl, q W H _ Ev.rfl (PV.bl _) A⟩⟩
theorem o_ge : OpS C k (compareOp .GtE) geD := fun X ok => ⟨_, op_ge, fun W s H x y dx dy Q rx ry A g => by
  obtain ⟨i, j, rfl, rfl, c, q⟩ := ii_go rx ry g
  exact ⟨i, j, rfl, rfl, q W H _ Ev.rfl (PV.bl _) A⟩⟩
/-- fr: the new list is plain (true) or may be changed (false) -/
def mkL (fr : Bool) (xs : List P) : M D := if fr = true then ret (.p (.lst xs)) else newL xs
theorem mkL_go {W W1 : Wd} {H H1 : Hp} {s : S} {fr : Bool} {xs : List P} {vs : List V} {Q : VK} {o : Addr} (e : Ev W H W1 H1) (A : Abs C.K W1 s H1) (r : PVs C.K W1.fr H1 vs xs) (g : Good (mkL fr xs s) (Po C.K W H Q)) (ho : H1 o = none) : Q (.ref o) (upd H1 o (.lst vs)) := by
  unfold mkL at g
  cases fr with
  | true => exact keep_go e A r (by rw [if_pos rfl] at g; exact g) ho
  | false => exact new_go e A r (by rw [if_neg Bool.false_ne_true] at g; exact g) ho
def addD (fr : Bool) (x y : D) : M D := fun s => match x, y with
  | .p (.int i), .p (.int j) => .ok (.p (.int (i + j))) s
  | .p (.str a), .p (.str b) => if a.length + b.length ≤ sizeLine then .ok (.p (.str (a ++ b))) s else .bad
  | .p (.tup xs), .p (.tup ys) => if xs.length + ys.length ≤ sizeLine then .ok (.p (.tup (xs ++ ys))) s else .bad
  | x, y => match its x s, its y s with
    | some xs, some ys => if xs.length + ys.length ≤ sizeLine then mkL fr (xs ++ ys) s else .bad
    | _, _ => .bad
/-- list + list, whatever lists they are -/
def rCatSq (K : PySem.W.Frag) : R2 := fun x y H Q => ∃ l b xs zs, x = .ref l ∧ y = .ref b ∧ SqL K H l xs ∧ SqL K H b zs ∧ xs.length + zs.length ≤ sizeLine ∧ ∀ p, H p = none → Q (.ref p) (upd H p (.lst (xs ++ zs)))
theorem op_catSq {X : Cx} : OpR X (binaryOp .Add) (rCatSq X.K) := by
  intro pins s σ H x y v u Q I rx ry h
  obtain ⟨l, b, xs, zs, rfl, rfl, hL, hB, hz, q⟩ := h
  cases rx
  cases ry
  obtain ⟨its1, r1, p1, z1⟩ := I.list hL
  obtain ⟨its2, r2, p2, z2⟩ := I.list hB
  obtain ⟨⟨cls, dd, data, sl⟩, ho, hc, n, hd⟩ := p1.isList
  obtain ⟨⟨cls2, dd2, data2, sl2⟩, ho2, hc2, n2, hd2⟩ := p2.isList
  simp only at hc hd hc2 hd2
  subst hc hd hc2 hd2
  have l1 := r1.length
  have l2 := r2.length
  refine concat_meets ⟨_, ho, rfl⟩ ⟨_, ho2, rfl⟩ noFill_list_add seq_list_add PySem.F.slot_list_add PySem.F.entry_list_add (PySem.F.args_list_add_2 _ _) (list_addW l b its1.toArray its2.toArray n n2 dd dd2 sl sl2 (by rw [List.size_toArray, List.size_toArray]; omega)) ⟨ho, ho2, ?_⟩
  have ea : its1.toArray ++ its2.toArray = (its1 ++ its2).toArray := by simp
  rw [ea]
  exact ⟨.ref _, _, I.lnew (t' := s.toks) (r1.append r2) (by rw [List.length_append]; omega), rfl, q _ I.fresh⟩
theorem o_add (fr : Bool) : OpS C k (binaryOp .Add) (addD fr) := fun X ok => by
  refine ⟨_, OpR.or op_add (OpR.or op_add_str (OpR.or (op_catA (X := X)) op_catSq)), fun W s H x y dx dy Q rx ry A g => ?_⟩
  rw [ok.eK]
  unfold addD at g
  split at g
  · cases rx
    cases ry
    exact Or.inl ⟨_, _, rfl, rfl, g W H _ Ev.rfl (PV.int _) A⟩
  · split at g
    · rename_i hl
      cases rx
      cases ry
      exact Or.inr (Or.inl ⟨_, _, rfl, rfl, hl, g W H _ Ev.rfl (PV.str _) A⟩)
    · exact g.elim
  · split at g
    · rename_i hl
      cases rx with
      | tup h1 h2 =>
        cases ry with
        | tup h3 h4 =>
          refine Or.inr (Or.inr (Or.inl ⟨_, _, _, _, rfl, rfl, h1, h3, by rw [h2.len, h4.len]; exact hl, fun z => ?_, fun _ z => ?_, fun _ z p hp => ?_⟩))
          · subst z
            cases h2
            exact g W H _ Ev.rfl (PV.tup h3 h4) A
          · subst z
            cases h4
            rename_i xs _ _
            exact g W H _ Ev.rfl (PV.tup h1 (by rw [List.append_nil]; exact h2)) A
          · exact g W _ _ (Ev.new hp) (PV.tup (SqT.of upd_same) (PVs.up (Ev.new hp) (h2.app h4))) (A.new hp)
    · exact g.elim
  · split at g
    · rename_i xs ys e1 e2
      split at g
      · rename_i hl
        obtain ⟨a, vs, rfl, h1, h2⟩ := its_sq rx A e1
        obtain ⟨b, us, rfl, h3, h4⟩ := its_sq ry A e2
        exact Or.inr (Or.inr (Or.inr ⟨a, b, vs, us, rfl, rfl, h1, h3, by rw [h2.len, h4.len]; exact hl, fun p hp => mkL_go Ev.rfl A (h2.app h4) g hp⟩))
      · exact g.elim
    · exact g.elim
theorem PVs.flat {K : PySem.W.Frag} {F : Addr → Prop} {H : Hp} {vs : List V} {xs : List P} (h : PVs K F H vs xs) : ∀ n, PVs K F H (List.replicate n vs).flatten (List.replicate n xs).flatten
  | 0 => .nil
  | n + 1 => by
    rw [List.replicate_succ, List.replicate_succ, List.flatten_cons, List.flatten_cons]
    exact h.app (PVs.flat h n)
def mulD (fr : Bool) (x y : D) : M D := fun s => match x, y with
  | .p (.int i), .p (.int j) => if mulOk i j then .ok (.p (.int (i * j))) s else .bad
  | .p (.tup xs), .p (.int n) => if xs ≠ [] ∧ 2 ≤ n ∧ n ≤ 1000 ∧ xs.length ≤ 1000 then .ok (.p (.tup (List.replicate n.toNat xs).flatten)) s else .bad
  | x, .p (.int n) => match itm x s with
    | some xs => if -(2 ^ 63) ≤ n ∧ n < 2 ^ 63 ∧ xs.length * n.toNat ≤ sizeLine then mkL fr (List.replicate n.toNat xs).flatten s else .bad
    | none => .bad
  | _, _ => .bad
theorem o_mul (fr : Bool) : OpS C k (binaryOp .Mult) (mulD fr) := fun X ok => by
  refine ⟨_, OpR.or (opI (C := mulOk) (g := fun i j => i * j) fun i j _ _ _ _ _ hc q => mul_int q hc.ok) (OpR.or op_rep (op_repT (X := X))), fun W s H x y dx dy Q rx ry A g => ?_⟩
  unfold mulD at g
  rw [ok.eK]
  split at g
  · split at g
    · rename_i hc
      cases rx
      cases ry
      exact Or.inl ⟨_, _, rfl, rfl, hc, g W H _ Ev.rfl (PV.int _) A⟩
    · exact g.elim
  · split at g
    · rename_i xs n hl
      cases rx with
      | tup h1 h2 =>
        cases ry
        refine Or.inr (Or.inr ⟨_, _, _, rfl, rfl, h1, fun z => ?_, hl.2.1, hl.2.2.1, by rw [h2.len]; exact hl.2.2.2, fun p hp => ?_⟩)
        · subst z
          cases h2
          exact hl.1 rfl
        · exact g W _ _ (Ev.new hp) (PV.tup (SqT.of upd_same) (PVs.up (Ev.new hp) (h2.flat _))) (A.new hp)
    · exact g.elim
  · split at g
    · rename_i xs e1
      split at g
      · rename_i hl
        obtain ⟨a, vs, rfl, h1, h2⟩ := itm_at rx A e1
        cases ry
        exact Or.inr (Or.inl ⟨a, _, vs, rfl, rfl, h1, hl.1, hl.2.1, by rw [h2.len]; exact hl.2.2, fun p hp => mkL_go Ev.rfl A (h2.flat _) g hp⟩)
      · exact g.elim
    · exact g.elim
  · exact g.elim
mutual
def toPy : P → Option PyData
  | .non => some .none
  | .bl b => some (.bool b)
  | .int i => some (.int i)
  | .str x => some (.str x)
  | .tup xs => (toPys xs).map .tuple
  | .lst xs => (toPys xs).map .list
  | .con xs => (toPys xs).map .list
  | .ty _ => none
  | .ref _ => none
  | .emp => none
  | .exn _ => none
  | .exf _ _ _ => none
  | .cls _ => none
  | .lam _ _ _ => none
  | .dct _ _ => none
def toPys : List P → Option (List PyData)
  | [] => some []
  | x :: r => match toPy x, toPys r with
    | some d, some ds => some (d :: ds)
    | _, _ => none
end
def toPyD : D → S → Option PyData
  | .p x, _ => toPy x
  | .obj n, s => match s[n]? with
    | some (some (.lst xs)) => (toPys xs).map .list
    | _ => none
mutual
theorem PV.dp {K : PySem.W.Frag} {F : Addr → Prop} {H : Hp} : ∀ {v : V} {x : P} {d : PyData}, PV K F H v x → toPy x = some d → Dp K H v d
  | _, _, _, .non, e => by
    cases e
    exact .non
  | _, _, _, .bl b, e => by
    cases e
    exact .bl b
  | _, _, _, .int b, e => by
    cases e
    exact .int b
  | _, _, _, .str b, e => by
    cases e
    exact .str b
  | _, _, _, .ty b, e => by cases e
  | _, _, _, .ref b, e => by cases e
  | _, _, _, .emp _ _, e => by cases e
  | _, _, _, .exn _ _ _ _, e => by cases e
  | _, _, _, .exf _ _ _ _ _ _, e => by cases e
  | _, _, _, .cls _, e => by cases e
  | _, _, _, .lam _ _, e => by cases e
  | _, _, _, .dct _ _ _, e => by cases e
  | _, _, d, .tup (xs := xs) h r, e => by
    unfold toPy at e
    cases q : toPys xs with
    | none =>
      rw [q] at e
      cases e
    | some ds =>
      rw [q] at e
      cases e
      exact .tup h (PVs.dp r q)
  | _, _, d, .lst (xs := xs) _ h r, e => by
    unfold toPy at e
    cases q : toPys xs with
    | none =>
      rw [q] at e
      cases e
    | some ds =>
      rw [q] at e
      cases e
      exact .lst (SqL.of h) (PVs.dp r q)
  | _, _, d, .con (xs := xs) h r, e => by
    unfold toPy at e
    cases q : toPys xs with
    | none =>
      rw [q] at e
      cases e
    | some ds =>
      rw [q] at e
      cases e
      exact .lst h.sql (PVs.dp r q)
theorem PVs.dp {K : PySem.W.Frag} {F : Addr → Prop} {H : Hp} : ∀ {vs : List V} {xs : List P} {ds : List PyData}, PVs K F H vs xs → toPys xs = some ds → DpAll K H vs ds
  | _, _, _, .nil, e => by
    unfold toPys at e
    cases e
    exact .nil
  | _, _, ds, .cons (x := x) (xs := xs) h r, e => by
    unfold toPys at e
    cases q1 : toPy x with
    | none =>
      rw [q1] at e
      cases e
    | some d =>
      cases q2 : toPys xs with
      | none =>
        rw [q1, q2] at e
        cases e
      | some es =>
        rw [q1, q2] at e
        cases e
        exact .cons (PV.dp h q1) (PVs.dp r q2)
end
theorem DV.dp {W : Wd} {H : Hp} {s : S} {v : V} {d : D} {z : PyData} (r : DV C.K W H v d) (A : Abs C.K W s H) (h : toPyD d s = some z) : Dp C.K H v z := by
  cases d with
  | p x => exact PV.dp r h
  | obj n =>
    unfold toPyD at h
    dsimp only at h
    split at h
    · rename_i xs hs
      obtain ⟨a, h1, _, vs, h2, h3⟩ := A.ob n _ hs
      obtain ⟨a', h4, rfl⟩ := r
      rw [h1] at h4
      cases h4
      cases q : toPys xs with
      | none =>
        rw [q] at h
        cases h
      | some ds =>
        rw [q] at h
        cases h
        exact .lst (SqL.of h2) (PVs.dp h3 q)
    · cases h
def eqD (neg : Bool) (x y : D) : M D := fun s => match toPyD x s, toPyD y s with
  | some d, some e => if SeqAt.shaped d = true ∧ SeqAt.shaped e = true then .ok (.p (.bl (if neg = true then !PyData.eqv d e else PyData.eqv d e))) s else .bad
  | _, _ => .bad
theorem u64 {X : Cx} (hr : Room k X.A) : X.A.units + 64 < cLine := by have := hr.un; omega
theorem o_eq : OpS C k (compareOp .Eq) (eqD false) := fun X ok => by
  refine ⟨_, op_eqD (u64 ok.rm), fun W s H x y dx dy Q rx ry A g => ?_⟩
  unfold eqD at g
  split at g
  · rename_i d e h1 h2
    split at g
    · rename_i hs
      rw [ok.eK]
      exact ⟨d, e, DV.dp rx A h1, DV.dp ry A h2, hs.1, hs.2, g W H _ Ev.rfl (PV.bl _) A⟩
    · exact g.elim
  · exact g.elim
theorem o_ne : OpS C k (compareOp .NotEq) (eqD true) := fun X ok => by
  refine ⟨_, op_neD (u64 ok.rm), fun W s H x y dx dy Q rx ry A g => ?_⟩
  unfold eqD at g
  split at g
  · rename_i d e h1 h2
    split at g
    · rename_i hs
      rw [ok.eK]
      exact ⟨d, e, DV.dp rx A h1, DV.dp ry A h2, hs.1, hs.2, g W H _ Ev.rfl (PV.bl _) A⟩
    · exact g.elim
  · exact g.elim
/-- is None -/
def isN (neg : Bool) (x y : D) : M D := fun s => match y with
  | .p .non => match x with
    | .p .non => .ok (.p (.bl (!neg))) s
    | _ => .ok (.p (.bl neg)) s
  | _ => .bad
theorem isN_go {neg : Bool} {W : Wd} {H : Hp} {s : S} {x y : V} {dx dy : D} {Q : VK} (rx : DV C.K W H x dx) (ry : DV C.K W H y dy) (A : Abs C.K W s H) (g : Good (isN neg dx dy s) (Po C.K W H Q)) : y = .non ∧ Q (.bl (if decide (x = .non) = true then !neg else neg)) H := by
  unfold isN at g
  split at g
  · cases ry
    refine ⟨rfl, ?_⟩
    split at g
    · cases rx
      exact g W H _ Ev.rfl (PV.bl _) A
    · rename_i hx
      have hne : x ≠ .non := fun z => by
        subst z
        cases dx with
        | obj n =>
          obtain ⟨a, _, e⟩ := rx
          cases e
        | p z =>
          cases rx
          exact hx rfl
      rw [decide_eq_false hne]
      exact g W H _ Ev.rfl (PV.bl _) A
  · exact g.elim
theorem o_is : OpS C k (compareOp .Is) (isN false) := fun X ok => ⟨_, op_isN, fun W s H x y dx dy Q rx ry A g => by
  obtain ⟨h1, h2⟩ := isN_go rx ry A g
  refine ⟨h1, ?_⟩
  by_cases e : x = .non
  · rw [decide_eq_true e] at h2 ⊢
    exact h2
  · rw [decide_eq_false e] at h2 ⊢
    exact h2⟩
theorem o_isnot : OpS C k (compareOp .IsNot) (isN true) := fun X ok => ⟨_, op_notN, fun W s H x y dx dy Q rx ry A g => by
  obtain ⟨h1, h2⟩ := isN_go rx ry A g
  refine ⟨h1, ?_⟩
  by_cases e : x = .non
  · rw [decide_eq_true e] at h2 ⊢
    exact h2
  · rw [decide_eq_false e] at h2 ⊢
    exact h2⟩
end
end CW
end
section
set_option maxRecDepth 100000
set_option maxHeartbeats 2000000
namespace CW
open PySem PySem.Spec PyProof.Rows L2
abbrev Dig (K : PySem.W.Frag) : Prop := PySem.W.nsIn K cStatics "sys.int_max_str_digits" = some none
mutual
/-- no dict, no whole number of more than 8000 bits -/
def wideP : PyData → Bool
  | .int i => decide (i.natAbs.log2 < 8000)
  | .list ds => wideL ds
  | .tuple ds => wideL ds
  | .dict _ => false
  | .none => true
  | .bool _ => true
  | .str _ => true
def wideL : List PyData → Bool
  | [] => true
  | d :: ds => wideP d && wideL ds
end
theorem wideL_all : ∀ {ds : List PyData}, (∀ d ∈ ds, wideP d = true) → wideL ds = true
  | [], _ => by simp [wideL]
  | d :: ds, h => by simp [wideL, h d List.mem_cons_self, wideL_all (ds := ds) fun x hx => h x (List.mem_cons_of_mem _ hx)]
section
variable {prog : Program} {w : World} {K : PySem.W.Frag} {h0 : Heap}
theorem dig_none {M : Model} {A : Around} {E : Value → Shared → Prop} {st : Shared} {i : Int} {Q : Option Nat → Shared → Prop} (kin : K.In h0) (dg : Dig K)
    (kp : ∀ b o, h0.get? b = some o → st.heap.get? b = some o) (hi : i.natAbs.log2 < 8000) (q : Q none st) : wpAny M A (Builtin.overDigitLimit? i) Q E st := by
  unfold Builtin.overDigitLimit?
  by_cases sm : i.natAbs.log2 < 1920
  · rw [if_pos sm]
    exact wpAny_pure q
  · rw [if_neg sm]
    unfold Builtin.intMaxStrDigits
    refine wpAny_bind (wpAny_bind (PySem.W.looks_nsIn kin dg A _ E st kp (wpAny_pure ?_)))
    dsimp only
    have few : ¬ (i.natAbs.log2 / 30 + 1 > 1000) := by omega
    have low : (4300 == 0 || decide (i.natAbs.log2 < 3 * 4300)) = true := by
      have : i.natAbs.log2 < 3 * 4300 := by omega
      simp [this]
    rw [if_neg few, if_pos low]
    exact wpAny_pure q
theorem int_txt {A : Around} {E : Value → Shared → Prop} {st : Shared} {i : Int} {t : Tok} {Q : Value → Shared → Prop} (kin : K.In h0) (dg : Dig K)
    (kp : ∀ b o, h0.get? b = some o → st.heap.get? b = some o) (hi : i.natAbs.log2 < 8000) (q : ∀ u k, Q (.str (toString i) u) { st with toks := k }) :
    wpAny (model prog w) A (call (.builtin "int.__repr__") [.int i t]) Q E st := by
  have hl : (Str.ofString (toString i)).length ≤ sizeLine := by
    have z := int_text_length_le (k := 8000) (by decide) hi
    rw [PySem.ofString_length, sizeLine_eq]
    omega
  apply wpAny_call_entry (hT := typeIs_int st i t) (h := F.slot_int_repr) (hb := F.entry_int_repr) (ha := F.args_int_repr_1 _)
  unfold Builtin.«int.__repr__»
  show wpAny _ _ (do let over ← Builtin.overDigitLimit? i; _) _ _ st
  exact wpAny_bind (dig_none kin dg kp hi (wpAny_bind (wpAny_mkStr (wpAny_pure ⟨_, rfl, q _ _⟩) hl)))
theorem reprK_int {bs : List Addr} {n : Nat} {i : Int} {t : Tok} (kin : K.In h0) (dg : Dig K) (hi : i.natAbs.log2 < 8000) : ReprK prog w bs h0 n (.int i t) (toString i) := by
  intro base hb A g E st Q _ _ hu kp q
  rw [pyReprUnder_leaf (Nat.le_trans (Nat.le_add_right _ _) hb) (by intro a z; cases z)]
  unfold pyRepr
  exact wpAny_bind (wpAny_pyReprObj_slot (Nat.lt_of_le_of_lt (Nat.le_add_right _ _) hu) (typeIs_int st i t) F.slot_int_repr.toG (int_txt kin dg kp hi fun u k => ⟨_, u, rfl, wpAny_pure (q st.heap k fun _ _ z => z)⟩))
mutual
theorem wideK (kin : K.In h0) (dg : Dig K) : ∀ {v : Value} {d : PyData} {bs : List Addr}, Reads h0 v d bs → wideP d = true → d.shown.length ≤ sizeLine → ∃ cs, ReadAtMost h0 d.depth cs ∧ ReprK prog w cs h0 d.depth v d.shown
  | _, _, _, .none, _, _ => by
    refine ⟨[], (fun _ z => nomatch z), ?_⟩
    simp only [PyData.shown]
    exact .of_is ReprIs.none _ _ _
  | _, _, _, .bool b, _, _ => by
    refine ⟨[], (fun _ z => nomatch z), ?_⟩
    simp only [PyData.shown]
    exact .of_is (ReprIs.bool b) _ _ _
  | _, _, _, .int i t, hw, _ => by
    refine ⟨[], (fun _ z => nomatch z), ?_⟩
    simp only [PyData.shown]
    exact reprK_int kin dg (by simpa [wideP] using hw)
  | _, _, _, .str x t, _, hz => by
    refine ⟨[], (fun _ z => nomatch z), ?_⟩
    simp only [PyData.shown] at hz ⊢
    exact .of_is (ReprIs.str x t hz) _ _ _
  | _, _, _, .list (a := p) (vs := ⟨us⟩) (xs := ds) o1 o2 o3 o4, hw, hz => by
    have len : (listText (PyData.shownAll ds)).length ≤ sizeLine := by simpa only [PyData.shown] using hz
    obtain ⟨cs, c1, c2⟩ := wideKs kin dg o4 (by simpa [wideP] using hw) fun t m => Nat.le_trans (listText_mem_le m) len
    have whole : Reads h0 (.ref p) (.list ds) _ := .list o1 o2 o3 o4
    have out : p ∉ cs := not_mem_of_deeper whole (by simp only [PyData.depth]; omega) c1
    refine ⟨p :: cs, ReadAtMost.cons whole (by simp only [PyData.depth]; omega) c1, ?_⟩
    simp only [PyData.depth, PyData.shown]
    match us, o3, o4, c2 with
    | [], o3, o4, _ =>
      have z : ds = [] := by
        have o4 : ReadsAll h0 [] ds _ := o4
        cases o4
        rfl
      subst z
      simp only [PyData.shownAll, listText_nil]
      exact ReprK.listEmpty o1 o2 o3
    | u :: us, o3, _, c2 => exact ReprK.list o1 o2 o3 out (by simpa using c2.length_eq) fun j y z => c2.item j y (by simpa using z)
  | _, _, _, .tuple (a := p) (xs := ds) o1 o2 o3 o4, hw, hz => by
    have len : (tupleText (PyData.shownAll ds)).length ≤ sizeLine := by simpa only [PyData.shown] using hz
    obtain ⟨cs, c1, c2⟩ := wideKs kin dg o4 (by simpa [wideP] using hw) fun t m => Nat.le_trans (tupleText_mem_le m) len
    have whole : Reads h0 (.ref p) (.tuple ds) _ := .tuple o1 o2 o3 o4
    have out : p ∉ cs := not_mem_of_deeper whole (by simp only [PyData.depth]; omega) c1
    refine ⟨p :: cs, ReadAtMost.cons whole (by simp only [PyData.depth]; omega) c1, ?_⟩
    simp only [PyData.depth, PyData.shown]
    exact ReprK.tuple o1 o2 o3 out c2
  | _, _, _, .dict _ _ _ _ _, hw, _ => by simp [wideP] at hw
theorem wideKs (kin : K.In h0) (dg : Dig K) : ∀ {us : List Value} {ds : List PyData} {bs : List Addr}, ReadsAll h0 us ds bs → wideL ds = true → (∀ t ∈ PyData.shownAll ds, t.length ≤ sizeLine) →
    ∃ cs, ReadAtMost h0 (PyData.depthAll ds) cs ∧ ReprAllK prog w cs h0 (PyData.depthAll ds) us (PyData.shownAll ds)
  | _, _, _, .nil, _, _ => by
    refine ⟨[], (fun _ z => nomatch z), ?_⟩
    simp only [PyData.shownAll]
    exact .nil
  | _, _, _, .cons (d := d) (ds := ds) r1 r2, hw, hz => by
    have hw' : wideP d = true ∧ wideL ds = true := by simpa [wideL] using hw
    obtain ⟨cs, c1, c2⟩ := wideK kin dg r1 hw'.1 (hz _ (by simp [PyData.shownAll]))
    obtain ⟨es, e1, e2⟩ := wideKs kin dg r2 hw'.2 fun t m => hz t (by simp [PyData.shownAll, m])
    refine ⟨cs ++ es, ?_, ?_⟩
    · simp only [PyData.depthAll]
      exact (c1.mono (Nat.le_max_left _ _)).append (e1.mono (Nat.le_max_right _ _))
    · simp only [PyData.depthAll, PyData.shownAll]
      refine .cons ?_ (e2.more_le (fun b m => List.mem_append_right cs m) (Nat.le_max_right _ _))
      exact (c2.more fun b m => List.mem_append_left es m).level_le (Nat.le_max_left _ _)
end
/-- repr(..) of a list or a tuple -/
theorem repr_wide {A : Around} {E : Value → Shared → Prop} {st : Shared} {Q : Value → Shared → Prop} {p : Addr} {d : PyData} {bs : List Addr} (kin : K.In st.heap) (dg : Dig K) (rd : Reads st.heap (.ref p) d bs) (hw : wideP d = true)
    (hz : d.shown.length ≤ sizeLine) (hg : A.guards = some []) (hu : A.units + (d.depth + 1) < cLine) (q : ∀ h1 u k, (∀ b o, st.heap.get? b = some o → h1.get? b = some o) → Q (.str d.shown u) { st with heap := h1, toks := k }) :
    wpAny (model prog w) A (call (.builtin "repr") [.ref p]) Q E st := by
  cases rd with
  | list o1 o2 o3 o4 =>
    rename_i o us n ds cs0
    obtain ⟨us⟩ := us
    have len : (listText (PyData.shownAll ds)).length ≤ sizeLine := by simpa only [PyData.shown] using hz
    obtain ⟨cs, c1, c2⟩ := wideKs (prog := prog) (w := w) kin dg o4 (by simpa [wideP] using hw) fun t m => Nat.le_trans (listText_mem_le m) len
    have out : p ∉ cs := not_mem_of_deeper (.list o1 o2 o3 o4) (by simp only [PyData.depth]; omega) c1
    simp only [PyData.depth] at hu
    simp only [PyData.shown] at q
    refine call_repr_slot (by omega) ⟨o, o1, o2⟩ F.slot_list_repr.toG ?_
    match us, o3, o4, c2 with
    | [], o3, o4, _ =>
      have z : ds = [] := by
        have o4 : ReadsAll st.heap [] ds _ := o4
        cases o4
        rfl
      subst z
      simp only [PyData.shownAll, listText_nil] at q
      exact call_list_repr_empty ⟨o, o1, o2⟩ o1 o3 ⟨_, _, rfl, q st.heap _ _ fun _ _ z => z⟩
    | u :: us, o3, _, c2 =>
      exact call_list_reprK o1 o2 o3 out (by simpa using c2.length_eq) (fun j y z => c2.item j y (by simpa using z)) (show A.in1.guards = some [] from hg) (fun b _ => Clear.nil b) (by show A.units + 1 + _ < cLine; omega) (fun _ _ z => z) (fun h1 u k kp => ⟨_, _, rfl, q h1 u k kp⟩) len
  | tuple o1 o2 o3 o4 =>
    rename_i o us n ds
    have len : (tupleText (PyData.shownAll ds)).length ≤ sizeLine := by simpa only [PyData.shown] using hz
    obtain ⟨cs, c1, c2⟩ := wideKs (prog := prog) (w := w) kin dg o4 (by simpa [wideP] using hw) fun t m => Nat.le_trans (tupleText_mem_le m) len
    have out : p ∉ cs := not_mem_of_deeper (.tuple o1 o2 o3 o4) (by simp only [PyData.depth]; omega) c1
    simp only [PyData.depth] at hu
    simp only [PyData.shown] at q
    refine call_repr_slot (by omega) ⟨o, o1, o2⟩ F.slot_tuple_repr ?_
    exact call_tuple_reprK o1 o2 o3 out c2 (show A.in1.guards = some [] from hg) (fun b _ => Clear.nil b) (by show A.units + 1 + _ < cLine; omega) (fun _ _ z => z) (fun h1 u k kp => ⟨_, _, rfl, q h1 u k kp⟩) len
  | dict _ _ _ _ _ => simp [wideP] at hw
/-- repr(..) of a whole number -/
theorem repr_wint {A : Around} {E : Value → Shared → Prop} {st : Shared} {Q : Value → Shared → Prop} {i : Int} {t : Tok} (kin : K.In st.heap) (dg : Dig K) (hi : i.natAbs.log2 < 8000) (hu : A.units + 1 < cLine)
    (q : ∀ u k, Q (.str (toString i) u) { st with toks := k }) : wpAny (model prog w) A (call (.builtin "repr") [.int i t]) Q E st :=
  call_repr_slot hu (typeIs_int st i t) F.slot_int_repr.toG (int_txt kin dg (fun _ _ z => z) hi fun u k => ⟨_, u, rfl, q u k⟩)
end
/-- a def's promise, for every around without a repr in work -/
structure Fn (C : Cf) (k : Nat) (f : Addr) (fd : FuncData) (ps : List Str) (sp : Sp) : Prop where
  len : ∀ vs H Q E, sp vs H Q E → vs.length = ps.length
  run : ∀ (A : Around) (outer : List Env) (s : Shared) (H : Hp) (args : Args) (us : List Value) (vs : List V) (Q : VK) (E : XK),
    Room k A → (C.rg = true → A.guards = some []) → Env0 C.pg C.w C.K C.mg C.base A outer s H → BindsTo s fd args (ps.zip us) → Vals vs us → sp vs H Q E →
      codeAny (model C.pg C.w) A (.call (.ref f) args) (CR CX0 outer C.pg C.w H s Q E) s
theorem Fn.mono {C : Cf} {j k : Nat} {f : Addr} {fd : FuncData} {ps : List Str} {sp : Sp} (F : Fn C j f fd ps sp) (h : j ≤ k) : Fn C k f fd ps sp :=
  ⟨F.len, fun A outer s H args us vs Q E hr => F.run A outer s H args us vs Q E (hr.mono h)⟩
/-- what m does, as a promise -/
def spM (C : Cf) (n : Nat) (m : List D → M D) : Sp := fun vs H Q _ => vs.length = n ∧ ∃ W s ds, DVs C.K W H vs ds ∧ W.tb = C.tb ∧ Abs C.K W s H ∧ Good (m ds s) (Po C.K W H Q)
section
variable {C : Cf} {sc : Scope} {N : List Str} {k : Nat} {pos p2 : Pos} {e a b : Expr} {ma mb : EF} {es : List Expr} {ms : List EF}
/-- a call of f with values -/
theorem run_call {X : Cx} {j : Nat} {f : Addr} {fd : FuncData} {ps : List Str} {sp : Sp} {pins : List (Addr × Obj)} {σ : L2.St} {H : Hp} {s : Shared} {Q : VK} {us : List Value} {vs : List V} (F : Fn C j f fd ps sp) (ok : Okx C j X) (hb : Binds C.K fd ps []) (I : Inv X pins σ H s) (r : Vals vs us)
    (h : sp vs H Q E0) : wpAny (model X.prog X.w) X.A (call (.ref f) us) (EP X pins σ Q) X.xe s := by
  have hl : us.length = ps.length := by rw [← r.length]; exact F.len _ _ _ _ h
  have e0 := I.env0
  have kin := I.kIn
  rw [ok.pr, ok.ew, ok.eK, ok.em, ok.eb] at e0
  rw [ok.eK] at kin
  have hbt := hb s us kin (by rw [List.append_nil]; exact hl)
  rw [List.append_nil] at hbt
  have run := F.run X.A X.stack s H ⟨us, []⟩ us vs Q E0 ok.rm ok.gd e0 hbt r h
  rw [← ok.pr, ← ok.ew] at run
  refine wpAny_call (codeAny_mono run fun q s' hq => ?_)
  match q, hq with
  | .error _, hq => exact hq.elim
  | .ok (.ret u), hq => exact I.after hq
/-- f(..) of a global def -/
def calE (m : List D → M D) (ms : List EF) : EF := fun ρ => bnd (evA ms ρ) m
theorem s_call {x : Str} {j : Nat} {f : Addr} {fd : FuncData} {ps : List Str} {m : List D → M D} {n : Nat} (F : Fn C j f fd ps (spM C n m)) (hj : j ≤ k) (hm : C.mg x = some (.ref f)) (hk : PySem.W.keepIn C.K (.ref f) = true) (hb : Binds C.K fd ps [])
    (ha : SAs C sc N k (e :: es) ms) (hg : GlS sc x := by rfl) (hn : ms.length = n := by rfl) (hd : (x == ("__debug__" : Str)) = false := by decide)
    (he : ∀ env, starEach (e :: es) env = (false, eval e env) :: starEach es env := by intro _; rfl) (hp : ∀ env, (backTo pos (starEach es env)).any (·.1) = false := by intro _; rfl) :
    SE C sc N k (.Call (.Name x p2) (e :: es) [] pos) (calE m ms) := fun X ok => by
  obtain ⟨t, p, q⟩ := ha X ok
  refine ⟨fun σ H Q => t σ H fun vs H1 => spM C n m vs H1 Q E0, ⟨fun pins s σ H Q I h => ?_⟩, fun σ H W s ρ Q er A g => ?_⟩
  · refine wpAny_Call_Name_kw (ld_glob I (hg.of ok) (by rw [ok.em]; exact hm) ?_ hd)
    refine PySem.W.callWith_K (h₀ := X.base) I.ok.mod.kin (by rw [ok.eK]; exact hk) (thn (p.run pos pins s σ H _ I h) fun us s1 ⟨vs, H1, I1, r, q1⟩ => ⟨I1.kIn, ?_⟩) (he X.env) (hp X.env)
    have ok' : Okx C k X := ok.toOkx
    exact run_call (F.mono hj) ok' hb I1 r q1
  · refine q σ H W s ρ _ er A (g.bnd.len.mono fun ds s1 ⟨z, h1⟩ W1 H1 vs e1 r1 A1 => ?_)
    exact ⟨by rw [Paired.length r1, z]; exact hn, W1, s1, ds, r1, (er.up e1).tb, A1, h1.mono fun _ _ w => w.up e1⟩
/-- a call of a built-in value does g -/
def CaS (C : Cf) (k : Nat) (f : Value) (g : List D → M D) : Prop :=
  ∀ X, Okx C k X → ∃ r, CallR X f r ∧ ∀ W s H xs ds Q, DVs C.K W H xs ds → Abs C.K W s H → Good (g ds s) (Po C.K W H Q) → r xs H Q
theorem s_bf {x : Str} {id : String} {g : List D → M D} (hc : CaS C k (.builtin id) g) (hm : C.mg x = none) (hv : bootBuiltins x = some (.builtin id)) (ha : SAs C sc N k (e :: es) ms) (hg : GlS sc x := by rfl) (hn : x ≠ "__name__" := by decide) (hd : (x == ("__debug__" : Str)) = false := by decide)
    (he : ∀ env, starEach (e :: es) env = (false, eval e env) :: starEach es env := by intro _; rfl) (hp : ∀ env, (backTo pos (starEach es env)).any (·.1) = false := by intro _; rfl) :
    SE C sc N k (.Call (.Name x p2) (e :: es) [] pos) (calE g ms) := fun X ok => by
  obtain ⟨t, p, q⟩ := ha X ok
  obtain ⟨r, h1, h2⟩ := hc X ok.toOkx
  refine ⟨_, pe_callB h1 (hg.of ok) (by rw [ok.em]; exact hm) hv p hn hd (he X.env) (hp X.env), fun σ H W s ρ Q er A g => ?_⟩
  refine q σ H W s ρ _ er A (g.bnd.mono fun ds s1 z W1 H1 vs e1 r1 A1 => ?_)
  exact h2 W1 s1 H1 vs ds Q r1 A1 (Good.mono z fun _ _ w => w.up e1)
theorem s_bt {x : Str} {id : String} {g : List D → M D} (hc : CaS C k (.type id) g) (hm : C.mg x = none) (hv : bootBuiltins x = some (.type id)) (ha : SAs C sc N k (e :: es) ms) (hg : GlS sc x := by rfl) (hn : x ≠ "__name__" := by decide) (hd : (x == ("__debug__" : Str)) = false := by decide)
    (he : ∀ env, starEach (e :: es) env = (false, eval e env) :: starEach es env := by intro _; rfl) (hp : ∀ env, (backTo pos (starEach es env)).any (·.1) = false := by intro _; rfl) :
    SE C sc N k (.Call (.Name x p2) (e :: es) [] pos) (calE g ms) := fun X ok => by
  obtain ⟨t, p, q⟩ := ha X ok
  obtain ⟨r, h1, h2⟩ := hc X ok.toOkx
  refine ⟨_, pe_callTy h1 (hg.of ok) (by rw [ok.em]; exact hm) hv p hn hd (he X.env) (hp X.env), fun σ H W s ρ Q er A g => ?_⟩
  refine q σ H W s ρ _ er A (g.bnd.mono fun ds s1 z W1 H1 vs e1 r1 A1 => ?_)
  exact h2 W1 s1 H1 vs ds Q r1 A1 (Good.mono z fun _ _ w => w.up e1)
theorem dvs1 {W : Wd} {H : Hp} {xs : List V} {d : D} (r : DVs C.K W H xs [d]) : ∃ x, xs = [x] ∧ DV C.K W H x d := by
  match xs, r with
  | [x], .cons h .nil => exact ⟨x, rfl, h⟩
theorem dvs2 {W : Wd} {H : Hp} {xs : List V} {d d' : D} (r : DVs C.K W H xs [d, d']) : ∃ x y, xs = [x, y] ∧ DV C.K W H x d ∧ DV C.K W H y d' := by
  match xs, r with
  | [x, y], .cons h (.cons h' .nil) => exact ⟨x, y, rfl, h, h'⟩
def absD : List D → M D := fun ds s => match ds with
  | [.p (.int i)] => .ok (.p (.int (if i < 0 then -i else i))) s
  | _ => .bad
theorem c_abs : CaS C k (.builtin "abs") absD := fun X ok => ⟨_, call_abs, fun W s H xs ds Q r A g => by
  unfold absD at g
  split at g
  · obtain ⟨x, rfl, h⟩ := dvs1 r
    cases h
    exact ⟨_, rfl, g W H _ Ev.rfl (PV.int _) A⟩
  · exact g.elim⟩
def lenD : List D → M D := fun ds s => match ds with
  | [.p (.tup xs)] => .ok (.p (.int xs.length)) s
  | [.p (.str x)] => if x.length ≤ sizeLine then .ok (.p (.int x.length)) s else .bad
  | [d] => match its d s with
    | some xs => .ok (.p (.int xs.length)) s
    | none => .bad
  | _ => .bad
theorem c_len : CaS C k (.builtin "len") lenD := fun X ok => ⟨_, call_len, fun W s H xs ds Q r A g => by
  unfold lenD at g
  rw [ok.eK]
  split at g
  · obtain ⟨x, rfl, h⟩ := dvs1 r
    cases h with
    | tup h1 h2 => exact ⟨_, _, rfl, Or.inr ⟨_, h1, rfl⟩, by rw [h2.len]; exact g W H _ Ev.rfl (PV.int _) A⟩
  · split at g
    · rename_i hl
      obtain ⟨x, rfl, h⟩ := dvs1 r
      cases h
      exact ⟨_, _, rfl, ⟨hl, rfl⟩, g W H _ Ev.rfl (PV.int _) A⟩
    · exact g.elim
  · split at g
    · rename_i hx
      obtain ⟨x, rfl, h⟩ := dvs1 r
      obtain ⟨a, vs, rfl, h1, h2⟩ := its_sq h A hx
      exact ⟨_, _, rfl, Or.inl ⟨_, h1, rfl⟩, by rw [h2.len]; exact g W H _ Ev.rfl (PV.int _) A⟩
    · exact g.elim
  · exact g.elim⟩
def maxD : List D → M D := fun ds s => match ds with
  | [.p (.int i), .p (.int j)] => .ok (.p (.int (if j > i then j else i))) s
  | _ => .bad
theorem c_max : CaS C k (.builtin "max") maxD := fun X ok => ⟨_, call_max2 ok.calm, fun W s H xs ds Q r A g => by
  unfold maxD at g
  split at g
  · obtain ⟨x, y, rfl, h, h'⟩ := dvs2 r
    cases h
    cases h'
    exact ⟨_, _, rfl, g W H _ Ev.rfl (PV.int _) A⟩
  · exact g.elim⟩
def intD : List D → M D := fun ds s => match ds with
  | [.p (.int i)] => .ok (.p (.int i)) s
  | [.p (.bl b)] => .ok (.p (.int (if b = true then 1 else 0))) s
  | _ => .bad
/-- a row of truths -/
def blsOf : List P → Option (List Bool)
  | [] => some []
  | .bl b :: r => (blsOf r).map (b :: ·)
  | _ :: _ => none
theorem blsOf_eq : ∀ {xs : List P} {bs : List Bool}, blsOf xs = some bs → xs = bs.map P.bl
  | [], bs, h => by
    cases h
    rfl
  | x :: r, bs, h => by
    cases x with
    | bl b =>
      unfold blsOf at h
      cases e : blsOf r with
      | none =>
        rw [e] at h
        cases h
      | some cs =>
        rw [e] at h
        have h' := Option.some.inj h
        subst h'
        rw [blsOf_eq e]
        rfl
    | _ => cases h
def allD : List D → M D := fun ds s => match ds with
  | [d] => match its d s with
    | some xs => match blsOf xs with
      | some bs => .ok (.p (.bl (bs.all id))) s
      | none => .bad
    | none => .bad
  | _ => .bad
theorem c_all : CaS C k (.builtin "all") allD := fun X ok => ⟨_, cr_all ok.calm, fun W s H xs ds Q r A g => by
  unfold allD at g
  rw [ok.eK]
  split at g
  · split at g
    · rename_i ys hx
      split at g
      · rename_i bs hb
        obtain ⟨x, rfl, h⟩ := dvs1 r
        obtain ⟨a, vs, rfl, h1, h2⟩ := its_sq h A hx
        have hy := blsOf_eq hb
        subst hy
        have hv := h2.bls
        subst hv
        exact ⟨_, bs, rfl, h1, g W H _ Ev.rfl (PV.bl _) A⟩
      · exact g.elim
    · exact g.elim
  · exact g.elim⟩
/-- tuple(x) of a list or a tuple; list(x), plain or not -/
def tupD : List D → M D := fun ds s => match ds with
  | [.p (.tup xs)] => .ok (.p (.tup xs)) s
  | [d] => match its d s with
    | some xs => .ok (.p (.tup xs)) s
    | none => .bad
  | _ => .bad
theorem c_tup : CaS C k (.type "tuple") tupD := fun X ok => ⟨_, call_tuple_of, fun W s H xs ds Q r A g => by
  unfold tupD at g
  rw [ok.eK]
  split at g
  · obtain ⟨x, rfl, h⟩ := dvs1 r
    cases h with
    | tup h1 h2 => exact ⟨_, _, rfl, Or.inr ⟨h1, g W H _ Ev.rfl (PV.tup h1 h2) A⟩⟩
  · split at g
    · rename_i hx
      obtain ⟨x, rfl, h⟩ := dvs1 r
      obtain ⟨a, vs, rfl, h1, h2⟩ := its_sq h A hx
      exact ⟨_, _, rfl, Or.inl ⟨h1, fun l hl => g W _ _ (Ev.new hl) (PV.tup (SqT.of upd_same) (PVs.up (Ev.new hl) h2)) (A.new hl)⟩⟩
    · exact g.elim
  · exact g.elim⟩
def tyD : D → S → Option String
  | .p .non, _ => some "NoneType"
  | .p (.bl _), _ => some "bool"
  | .p (.int _), _ => some "int"
  | .p (.str _), _ => some "str"
  | .p (.tup _), _ => some "tuple"
  | .p (.lst _), _ => some "list"
  | .p .emp, _ => some "dict"
  | .obj n, s => match s[n]? with
    | some (some (.lst _)) => some "list"
    | some (some (.dic _)) => some "dict"
    | _ => none
  | _, _ => none
theorem tyX {W : Wd} {H : Hp} {s : S} {v : V} {d : D} {z : String} (r : DV C.K W H v d) (A : Abs C.K W s H) (h : tyD d s = some z) : TyX C.K H v (.type z) := by
  cases d with
  | obj n =>
    unfold tyD at h
    dsimp only at h
    split at h
    · rename_i xs hs
      cases h
      obtain ⟨a, h1, _, vs, h2, h3⟩ := A.ob n _ hs
      obtain ⟨a', h4, rfl⟩ := r
      rw [h1] at h4
      cases h4
      exact .base (.lst h2)
    · rename_i xs hs
      cases h
      obtain ⟨a, h1, _, vs, h2, h3⟩ := A.ob n _ hs
      obtain ⟨a', h4, rfl⟩ := r
      rw [h1] at h4
      cases h4
      exact .base (.dK h2)
    · cases h
  | p x =>
    cases r with
    | non =>
      cases h
      exact .base .non
    | bl b =>
      cases h
      exact .base (.bl b)
    | int b =>
      cases h
      exact .base (.int b)
    | str b =>
      cases h
      exact .base (.str b)
    | lst hf h1 h2 =>
      cases h
      exact .base (.lst h1)
    | emp hf h1 =>
      cases h
      exact .base (.dK h1)
    | tup h1 h2 =>
      cases h
      rcases h1 with (h1 | ⟨o, h1⟩) | ⟨o, its, n, h1, hc, _⟩
      · exact .base (.tup h1)
      · exact .fTuple h1
      · exact .kTuple h1 hc
    | _ => cases h
def isiD : List D → M D := fun ds s => match ds with
  | [d, .p (.ty c)] => match tyD d s with
    | some z => match kitB z c with
      | some b => .ok (.p (.bl b)) s
      | none => .bad
    | none => .bad
  | _ => .bad
theorem c_isi : CaS C k (.builtin "isinstance") isiD := fun X ok => ⟨_, call_isi, fun W s H xs ds Q r A g => by
  unfold isiD at g
  rw [ok.eK]
  split at g
  · split at g
    · rename_i hz
      split at g
      · rename_i hb
        obtain ⟨x, y, rfl, h, h'⟩ := dvs2 r
        cases h'
        exact ⟨_, _, _, _, _, rfl, .ty _, tyX h A hz, kit_ty hb, g W H _ Ev.rfl (PV.bl _) A⟩
      · exact g.elim
    · exact g.elim
  · exact g.elim⟩
/-- a built-in class's name as a value -/
theorem s_bty {x : Str} {id : String} (hm : C.mg x = none) (hv : bootBuiltins x = some (.type id)) (hg : GlS sc x := by rfl) (hn : x ≠ "__name__" := by decide) (hd : (x == ("__debug__" : Str)) = false := by decide) : SE C sc N k (.Name x pos) (cE (.ty id)) := fun X ok => by
  refine ⟨_, pe_bltn (hg.of ok) (by rw [ok.em]; exact hm) hv (v := .ty id) rfl hn hd, fun σ H W s ρ Q er A g => ?_⟩
  exact g W H _ Ev.rfl (PV.ty _) A
def shwD : List D → M D := fun ds s => match ds with
  | [d] => match toPyD d s with
    | some z => if wideP z = true ∧ z.depth ≤ 60 ∧ z.shown.length ≤ sizeLine then .ok (.p (.str z.shown)) s else .bad
    | none => .bad
  | _ => .bad
def rShw (K : PySem.W.Frag) : List V → Hp → VK → Prop := fun xs H Q => ∃ x z, xs = [x] ∧ Dp K H x z ∧ wideP z = true ∧ z.depth ≤ 60 ∧ z.shown.length ≤ sizeLine ∧ Q (.str z.shown) H
theorem call_shw {X : Cx} (hg : X.A.guards = some []) (hr : Room k X.A) (dg : Dig X.K) : CallR X (.builtin "repr") (rShw X.K) := by
  intro pins s σ H xs us Q I r h
  obtain ⟨x, z, rfl, hd, h1, h3, h4, q⟩ := h
  obtain ⟨u, rfl, ru⟩ := vals1 r
  have hu := hr.un
  have kin := I.kIn
  have seq : ∀ a, u = .ref a → wpAny (model X.prog X.w) X.A (call (.builtin "repr") [u]) (EP X pins σ Q) X.xe s := fun a e => by
    obtain ⟨as, rd⟩ := Dp.reads I z x u hd ru
    subst e
    exact repr_wide kin dg rd h1 h4 hg (by omega) (fun h' u tk hk => ⟨.str z.shown, H, I.kept hk, ⟨_, rfl⟩, q⟩)
  cases hd with
  | non =>
    cases ru
    exact PySem.P.repr_of_none ⟨.str _, H, I.tok _, ⟨_, rfl⟩, q⟩
  | bl b =>
    cases ru
    exact PySem.P.repr_of_bool ⟨.str _, H, I.tok _, ⟨_, rfl⟩, by
      have e : PyData.shown (.bool b) = ((if b then "True" else "False" : Str)) := by cases b <;> rfl
      rw [e] at q
      exact q⟩
  | int i =>
    obtain ⟨t, rfl⟩ := ru
    exact repr_wint kin dg (of_decide_eq_true h1) (by omega) fun u k => ⟨.str _, H, I.tok k, ⟨_, rfl⟩, q⟩
  | str y =>
    obtain ⟨t, rfl⟩ := ru
    exact PySem.P.repr_of_str ⟨.str _, H, I.tok _, ⟨_, rfl⟩, q⟩ h4
  | lst _ _ => exact seq _ ru
  | tup _ _ => exact seq _ ru
theorem c_shw (hrg : C.rg = true) (dg : Dig C.K) : CaS C k (.builtin "repr") shwD := fun X ok => ⟨_, call_shw (ok.gd hrg) ok.rm (by rw [ok.eK]; exact dg), fun W s H xs ds Q r A g => by
  unfold shwD at g
  rw [ok.eK]
  split at g
  · split at g
    · rename_i z hz
      split at g
      · rename_i hc
        obtain ⟨x, rfl, h⟩ := dvs1 r
        exact ⟨x, z, rfl, DV.dp h A hz, hc.1, hc.2.1, hc.2.2, g W H _ Ev.rfl (PV.str _) A⟩
      · exact g.elim
    · exact g.elim
  · exact g.elim⟩
end
end CW
end
section
set_option maxRecDepth 100000
set_option maxHeartbeats 2000000
namespace CW
open PySem PySem.Spec PyProof.Rows L2
inductive Fl where
  | nx (ρ : En) | rt (d : D) | bk (ρ : En) | ct (ρ : En)
abbrev SF := En → M Fl
abbrev GF := D → En → M En
def PoR (C : Cf) (W : Wd) (H : Hp) (Q : L2.St → Hp → Prop) : En → S → Prop := fun ρ s => ∀ W' H' σ, Ev W H W' H' → ER C W' H' σ ρ → Abs C.K W' s H' → Q σ H'
def PoF (C : Cf) (W : Wd) (H : Hp) (D : Ends) : Fl → S → Prop := fun f s => match f with
  | .nx ρ => PoR C W H D.nx ρ s
  | .rt d => Po C.K W H D.rt d s
  | .bk ρ => PoR C W H D.bk ρ s
  | .ct ρ => PoR C W H D.ct ρ s
theorem PoR.up {C : Cf} {W W' : Wd} {H H' : Hp} {Q : L2.St → Hp → Prop} {d : En} {s : S} (e : Ev W H W' H') (h : PoR C W H Q d s) : PoR C W' H' Q d s := fun W2 H2 v e2 => h W2 H2 v (e.trans e2)
theorem PoF.up {C : Cf} {W W' : Wd} {H H' : Hp} {D : Ends} {f : Fl} {s : S} (e : Ev W H W' H') (h : PoF C W H D f s) : PoF C W' H' D f s := by
  cases f with
  | nx ρ => exact PoR.up e h
  | rt d => exact Po.up e h
  | bk ρ => exact PoR.up e h
  | ct ρ => exact PoR.up e h
def SS (C : Cf) (sc : Scope) (N : List Str) (k : Nat) (st : Stmt) (m : SF) : Prop :=
  ∀ X, Cod C sc N k X → ∃ t, PS X st t ∧ ∀ D σ H W s ρ, ER C W H σ ρ → Abs C.K W s H → Good (m ρ s) (PoF C W H D) → t D σ H
def SB (C : Cf) (sc : Scope) (N : List Str) (k : Nat) (st : List Stmt) (m : SF) : Prop :=
  ∀ X, Cod C sc N k X → ∃ t, PSs X st t ∧ ∀ D σ H W s ρ, ER C W H σ ρ → Abs C.K W s H → Good (m ρ s) (PoF C W H D) → t D σ H
/-- but for the places pl nothing is stored -/
def Agr (pl : List Nat) (σ σ' : L2.St) : Prop := σ'.length = σ.length ∧ ∀ j, j ∉ pl → σ'[j]? = σ[j]?
theorem Agr.rfl {pl : List Nat} {σ : L2.St} : Agr pl σ σ := ⟨_root_.rfl, fun _ _ => _root_.rfl⟩
theorem Agr.trans {pl pl' : List Nat} {σ σ' σ2 : L2.St} (h : Agr pl σ σ') (g : Agr pl' σ' σ2) : Agr (pl ++ pl') σ σ2 := ⟨g.1.trans h.1, fun j hj => by
  rw [g.2 j fun z => hj (List.mem_append_right _ z), h.2 j fun z => hj (List.mem_append_left _ z)]⟩
def PoG (C : Cf) (W : Wd) (H : Hp) (pl : List Nat) (σ : L2.St) (Q : L2.St → Hp → Prop) : En → S → Prop := fun ρ s => ∀ W' H' σ', Ev W H W' H' → ER C W' H' σ' ρ → Abs C.K W' s H' → Agr pl σ σ' → Q σ' H'
theorem PoR.g {C : Cf} {W : Wd} {H : Hp} {pl : List Nat} {σ : L2.St} {Q : L2.St → Hp → Prop} {ρ : En} {s : S} (h : PoR C W H Q ρ s) : PoG C W H pl σ Q ρ s := fun W' H' σ' e er A _ => h W' H' σ' e er A
def SG (C : Cf) (sc : Scope) (N : List Str) (k : Nat) (tg : Expr) (g : GF) (pl : List Nat) : Prop :=
  ∀ X, Cok C sc N k X → ∃ t, PG X tg t ∧ ∀ v d σ H W s ρ Q, DV C.K W H v d → ER C W H σ ρ → Abs C.K W s H → Good (g d ρ s) (PoG C W H pl σ Q) → t v σ H Q
def SGs (C : Cf) (sc : Scope) (N : List Str) (k : Nat) (ts : List Expr) (g : List P → En → M En) (pl : List Nat) : Prop :=
  ∀ X, Cok C sc N k X → ∃ t, PGs X ts t ∧ ∀ vs xs σ H W s ρ Q, PVs C.K W.fr H vs xs → ER C W H σ ρ → Abs C.K W s H → Good (g xs ρ s) (PoG C W H pl σ Q) → t vs σ H Q
theorem ER.put {C : Cf} {W : Wd} {H : Hp} {σ : L2.St} {ρ : En} {v : V} {d : D} (h : ER C W H σ ρ) (r : DV C.K W H v d) (i : Nat) : ER C W H (σ.set i (some v)) (ρ.set i (some d)) := by
  refine ⟨by rw [List.length_set, List.length_set]; exact h.len, fun j e hj => ?_, h.tb⟩
  by_cases q : i = j
  · subst q
    have hl : i < ρ.length := by
      have z := (List.getElem?_eq_some_iff.mp hj).1
      rw [List.length_set] at z
      exact z
    rw [List.getElem?_set_self hl] at hj
    cases hj
    exact ⟨v, List.getElem?_set_self (by rw [h.len]; exact hl), r⟩
  · rw [List.getElem?_set_ne q] at hj
    rw [List.getElem?_set_ne q]
    exact h.at j e hj
theorem ER.wipe {C : Cf} {W : Wd} {H : Hp} {σ : L2.St} {ρ : En} (h : ER C W H σ ρ) (i : Nat) : ER C W H (σ.set i none) (ρ.set i none) := by
  refine ⟨by rw [List.length_set, List.length_set]; exact h.len, fun j e hj => ?_, h.tb⟩
  by_cases q : i = j
  · subst q
    have hl : i < ρ.length := by
      have z := (List.getElem?_eq_some_iff.mp hj).1
      rw [List.length_set] at z
      exact z
    rw [List.getElem?_set_self hl] at hj
    cases hj
  · rw [List.getElem?_set_ne q] at hj
    rw [List.getElem?_set_ne q]
    exact h.at j e hj
section
variable {C : Cf} {sc : Scope} {N : List Str} {k : Nat} {pos p2 : Pos} {e a b tg : Expr} {m ma mb : EF} {es : List Expr} {ms : List EF} {st : Stmt} {sts : List Stmt} {f g : SF}
def setG (i : Nat) : GF := fun d ρ s => .ok (ρ.set i (some d)) s
theorem Cok.hf {X : Cx} {x : Str} (ok : Cok C sc N k X) (hx : Loc sc x) : X.fn x = true ∨ X.env.scope.names.lookup x = some .local := by
  rcases hx with h | h
  · exact Or.inr (ok.eL.loc x h)
  · exact Or.inl (ok.fc x h)
theorem g_name (i : Nat) {x : Str} (hi : N[i]? = some x := by rfl) (hx : Loc sc x := by first | exact Or.inl rfl | exact Or.inr rfl) : SG C sc N k (.Name x pos) (setG i) [i] := fun X ok => by
  refine ⟨_, pg_name (by rw [ok.nN]; exact ok.nd) (by rw [ok.nN]; exact hi) (ok.eL.lo hx) (ok.hf hx), fun v d σ H W s ρ Q r er A g => ?_⟩
  refine g W H _ Ev.rfl (er.put r i) A ⟨by rw [List.length_set], fun j hj => ?_⟩
  rw [List.getElem?_set_ne fun z => hj (by rw [z]; exact List.mem_singleton_self _)]
def nilG : List P → En → M En := fun xs ρ s => match xs with
  | [] => .ok ρ s
  | _ => .bad
def consG (g : GF) (r : List P → En → M En) : List P → En → M En := fun xs ρ => match xs with
  | x :: xs => bnd (g (.p x) ρ) fun ρ' => r xs ρ'
  | [] => bad
theorem gs_nil : SGs C sc N k [] nilG [] := fun X ok => by
  refine ⟨_, pgs_nil, fun vs xs σ H W s ρ Q r er A g => ?_⟩
  cases r with
  | nil => exact ⟨rfl, g W H _ Ev.rfl er A Agr.rfl⟩
  | cons _ _ => exact g.elim
theorem gs_cons {ts : List Expr} {h : GF} {r : List P → En → M En} {pl pl' : List Nat} (h1 : SG C sc N k tg h pl) (h2 : SGs C sc N k ts r pl') (hs : ∀ env, (assignEach (tg :: ts) env).map (·.2) = assign tg env :: (assignEach ts env).map (·.2) := by intro _; rfl) : SGs C sc N k (tg :: ts) (consG h r) (pl ++ pl') := fun X ok => by
  obtain ⟨t, p, q⟩ := h1 X ok
  obtain ⟨u, p', q'⟩ := h2 X ok
  refine ⟨_, pgs_cons p p' (hs X.env), fun vs xs σ H W s ρ Q rv er A g => ?_⟩
  cases rv with
  | nil => exact g.elim
  | cons hv hr =>
    refine ⟨_, _, rfl, q _ _ σ H W s ρ _ (show DV C.K W H _ (.p _) from hv) er A (Good.mono (Good.bnd g) fun ρ1 s1 h1 W1 H1 σ1 e1 er1 A1 ag => ?_)⟩
    exact q' _ _ σ1 H1 W1 s1 ρ1 Q (PVs.up e1 hr) er1 A1 (Good.mono h1 fun _ _ z W2 H2 σ2 e2 er2 A2 ag2 => z W2 H2 σ2 (e1.trans e2) er2 A2 (ag.trans ag2))
/-- (a, b, ..) = a tuple, a list -/
def tupG (n : Nat) (g : List P → En → M En) : GF := fun d ρ s => match d with
  | .p (.tup xs) => if xs.length = n then g xs ρ s else .bad
  | d => match its d s with
    | some xs => if xs.length = n then g xs ρ s else .bad
    | none => .bad
theorem pg_or {X : Cx} {t u : TG} (h1 : PG X tg t) (h2 : PG X tg u) : PG X tg (fun v σ H Q => t v σ H Q ∨ u v σ H Q) := ⟨fun pins s σ H v w Q I r q => by
  rcases q with q | q
  · exact h1.run pins s σ H v w Q I r q
  · exact h2.run pins s σ H v w Q I r q⟩
theorem g_tup {ts : List Expr} {j n : Nat} {r : List P → En → M En} {pl : List Nat} (h : SGs C sc N k ts r pl) (hn : ∀ env, (assignEach ts env).length = n := by intro _; rfl) (hst : ∀ env, (assignEach ts env).findIdx? (·.1) = none := by intro _; rfl) : SG C sc N k (.Tuple ts j pos) (tupG n r) pl := fun X ok => by
  obtain ⟨t, p, q⟩ := h X ok
  refine ⟨_, pg_or (pg_tup ok.calm p (hn X.env) (hst X.env)) (pg_lst ok.calm p (hn X.env) (hst X.env)), fun v d σ H W s ρ Q rv er A g => ?_⟩
  rw [ok.eK]
  unfold tupG at g
  split at g
  · split at g
    · rename_i hl
      cases rv with
      | tup h1 h2 => exact Or.inl ⟨_, _, rfl, h1, by rw [h2.len]; exact hl, q _ _ σ H W s ρ Q h2 er A g⟩
    · exact g.elim
  · split at g
    · rename_i hx
      split at g
      · rename_i hl
        obtain ⟨a, vs, rfl, h1, h2⟩ := its_sq rv A hx
        exact Or.inr ⟨_, _, rfl, h1, by rw [h2.len]; exact hl, q _ _ σ H W s ρ Q h2 er A g⟩
      · exact g.elim
    · exact g.elim
def nopF : SF := fun ρ s => .ok (.nx ρ) s
def seqF (f g : SF) : SF := fun ρ => bnd (f ρ) fun r => match r with
  | .nx ρ' => g ρ'
  | r => ret r
theorem b_nil : SB C sc N k [] nopF := fun X ok => ⟨_, pss_nil, fun D σ H W s ρ er A g => g W H σ Ev.rfl er A⟩
theorem b_one (h : SS C sc N k st f) : SB C sc N k [st] f := fun X ok => by
  obtain ⟨t, p, q⟩ := h X ok
  exact ⟨_, pss_one p, q⟩
theorem b_cons (h : SS C sc N k st f) (h2 : SB C sc N k sts g) : SB C sc N k (st :: sts) (seqF f g) := fun X ok => by
  obtain ⟨t, p, q⟩ := h X ok
  obtain ⟨u, p', q'⟩ := h2 X ok
  refine ⟨_, pss_cons p p', fun D σ H W s ρ er A G => ?_⟩
  refine q { D with nx := u D } σ H W s ρ er A ((Good.bnd G).mono fun r s1 h1 => ?_)
  cases r with
  | nx ρ' => exact fun W1 H1 σ1 e1 er1 A1 => q' D σ1 H1 W1 s1 ρ' er1 A1 (Good.mono h1 fun _ _ z => z.up e1)
  | rt d => exact h1
  | bk ρ' => exact h1
  | ct ρ' => exact h1
/-- a statement that is not come to -/
def noF : SF := fun _ _ => .bad
theorem x_never : SS C sc N k st noF := fun X ok => ⟨_, ps_never, fun D σ H W s ρ er A g => g.elim⟩
def retF (m : EF) : SF := fun ρ => bnd (m ρ) fun d => ret (.rt d)
theorem x_ret (h : SE C sc N k e m) : SS C sc N k (.Return (some e) pos) (retF m) := fun X ok => by
  obtain ⟨t, p, q⟩ := h X ok.toCok
  exact ⟨_, ps_ret p, fun D σ H W s ρ er A g => q σ H W s ρ _ er A ((Good.bnd g).mono fun _ _ z => z)⟩
def expF (m : EF) : SF := fun ρ => bnd (m ρ) fun _ => ret (.nx ρ)
theorem x_exp (h : SE C sc N k e m) (hs : ∀ env, swapsWith e none pos.line env = pure false := by intro _; rfl) : SS C sc N k (.Expr e pos) (expF m) := fun X ok => by
  obtain ⟨t, p, q⟩ := h X ok.toCok
  refine ⟨_, ps_expr p (hs X.env), fun D σ H W s ρ er A g => ?_⟩
  exact q σ H W s ρ _ er A ((Good.bnd g).mono fun d s1 z W1 H1 v e1 r1 A1 => z W1 H1 σ e1 (er.up e1) A1)
def iffF (t : TF) (f g : SF) : SF := fun ρ => bnd (t ρ) fun c => if c = true then f ρ else g ρ
theorem x_if {c : Expr} {ys ns : List Stmt} {t : TF} (hc : ST C sc N k c t) (hy : SB C sc N k ys f) (hn : SB C sc N k ns g) : SS C sc N k (.If c ys ns pos) (iffF t f g) := fun X ok => by
  obtain ⟨t, p, q⟩ := hc X ok.toCok
  obtain ⟨u, p', q'⟩ := hy X ok
  obtain ⟨v, p2, q2⟩ := hn X ok
  refine ⟨_, ps_if p p' p2, fun D σ H W s ρ er A G => ?_⟩
  refine q σ H W s ρ _ er A ((Good.bnd G).mono fun c s1 h1 W1 H1 e1 A1 => ?_)
  cases c with
  | true => exact iteT (q' D σ H1 W1 s1 ρ (er.up e1) A1 (Good.mono h1 fun _ _ z => z.up e1))
  | false => exact iteF (q2 D σ H1 W1 s1 ρ (er.up e1) A1 (Good.mono h1 fun _ _ z => z.up e1))
def asgF (m : EF) (g : GF) : SF := fun ρ => bnd (m ρ) fun d => bnd (g d ρ) fun ρ' => ret (.nx ρ')
theorem x_asg {h : GF} {pl : List Nat} (he : SE C sc N k e m) (hg : SG C sc N k tg h pl) (hs : ∀ env : Env, env.scope = sc → swapsWithSole [tg] e pos.line env = pure false := by intro _ _; rfl) (hw : ∀ env : Env, env.scope = sc → swappedStores [tg] e env = pure none := by intro _ _; rfl)
    (h1 : ∀ env, (assignEach [tg] env).map (·.2) = [assign tg env] := by intro _; rfl) : SS C sc N k (.Assign [tg] e pos) (asgF m h) := fun X ok => by
  obtain ⟨t, p, q⟩ := he X ok.toCok
  obtain ⟨u, p', q'⟩ := hg X ok.toCok
  refine ⟨_, ps_asg p p' (hs X.env ok.eS) (hw X.env ok.eS) (h1 X.env), fun D σ H W s ρ er A g => ?_⟩
  refine q σ H W s ρ _ er A ((Good.bnd g).mono fun d s1 z W1 H1 v e1 r1 A1 => ?_)
  refine q' v d σ H1 W1 s1 ρ _ r1 (er.up e1) A1 ((Good.bnd z).mono fun ρ' s2 z2 W2 H2 σ2 e2 er2 A2 _ => ?_)
  exact z2 W2 H2 σ2 (e1.trans e2) er2 A2
/-- a, b = x, y with plain local names -/
def parF (i j : Nat) (ms : List EF) : SF := fun ρ => bnd (evA ms ρ) fun ds s => match ds with
  | [x, y] => .ok (.nx ((ρ.set i (some x)).set j (some y))) s
  | _ => .bad
theorem x_par (i j : Nat) {x y : Str} {px py pt : Pos} {kt k2 : Nat} {pt2 : Pos} (ha : SAs C sc N k [a, b] ms) (hi : N[i]? = some x := by rfl) (hj : N[j]? = some y := by rfl) (hij : i ≠ j := by decide) (hx : sc.names.lookup x = some .local := by rfl) (hy : sc.names.lookup y = some .local := by rfl)
    (hw : ∀ env : Env, env.scope = sc → swappedStores [.Tuple [.Name x px, .Name y py] kt pt] (.Tuple [a, b] k2 pt2) env = pure (some [x, y])) (hs : ∀ env, swapsWithSole [.Tuple [.Name x px, .Name y py] kt pt] (.Tuple [a, b] k2 pt2) pos.line env = pure false := by intro _; rfl) :
    SS C sc N k (.Assign [.Tuple [.Name x px, .Name y py] kt pt] (.Tuple [a, b] k2 pt2) pos) (parF i j ms) := fun X ok => by
  obtain ⟨t, p, q⟩ := ha X ok.toCok
  refine ⟨_, ps_par ok.calm (by rw [ok.nN]; exact ok.nd) (by rw [ok.nN]; exact hi) (by rw [ok.nN]; exact hj) hij (by rw [ok.eS]; exact hx) (by rw [ok.eS]; exact hy) p (hw X.env ok.eS) (hs X.env), fun D σ H W s ρ er A g => ?_⟩
  refine q σ H W s ρ _ er A ((Good.bnd g).mono fun ds s1 z W1 H1 vs e1 r1 A1 => ?_)
  split at z
  · obtain ⟨x', y', rfl, r2, r3⟩ := dvs2 r1
    exact ⟨_, _, rfl, z W1 H1 _ e1 (((er.up e1).put r2 i).put r3 j) A1⟩
  · exact z.elim
def par3F (i j l : Nat) (ms : List EF) : SF := fun ρ => bnd (evA ms ρ) fun ds s => match ds with
  | [x, y, z] => .ok (.nx (((ρ.set i (some x)).set j (some y)).set l (some z))) s
  | _ => .bad
theorem dvs3 {W : Wd} {H : Hp} {xs : List V} {d d' d2 : D} (r : DVs C.K W H xs [d, d', d2]) : ∃ x y z, xs = [x, y, z] ∧ DV C.K W H x d ∧ DV C.K W H y d' ∧ DV C.K W H z d2 := by
  match xs, r with
  | [x, y, z], .cons h (.cons h' (.cons h2 .nil)) => exact ⟨x, y, z, rfl, h, h', h2⟩
def augF (i : Nat) (g : D → D → M D) (m : EF) : SF := fun ρ s => match ρ[i]? with
  | some (some d) => bnd (m ρ) (fun y => bnd (g d y) fun z => ret (.nx (ρ.set i (some z)))) s
  | _ => .bad
theorem x_aug (i : Nat) {x : Str} {op : Operator} {h : D → D → M D} (ho : OpS C k (inplaceOp op) h) (he : SE C sc N k e m) (hi : N[i]? = some x := by rfl) (hx : Loc sc x := by first | exact Or.inl rfl | exact Or.inr rfl) : SS C sc N k (.AugAssign (.Name x p2) op e pos) (augF i h m) := fun X ok => by
  obtain ⟨t, p, q⟩ := he X ok.toCok
  obtain ⟨r, p1, q1⟩ := ho X ok.toOkx
  refine ⟨_, ps_aug (ti := r) (by rw [ok.nN]; exact ok.nd) (by rw [ok.nN]; exact hi) (by rw [ok.eS]; exact hx) p p1 (ok.toCok.hf hx), fun D σ H W s ρ er A g => ?_⟩
  unfold augF at g
  split at g
  · rename_i d hd
    obtain ⟨v, hv, rv⟩ := er.at i d hd
    refine ⟨v, hv, q σ H W s ρ _ er A ((Good.bnd g).mono fun y s1 z W1 H1 u e1 r1 A1 => ?_)⟩
    refine q1 W1 s1 H1 v u d y _ (rv.up e1) r1 A1 ((Good.bnd z).mono fun c s2 z2 W2 H2 w e2 r2 A2 => ?_)
    exact z2 W2 H2 _ (e1.trans e2) (((er.up e1).up e2).put r2 i) A2
  · exact g.elim
/-- xs[i] = v -/
def lputF (mo mi mv : EF) : SF := fun ρ => bnd (mv ρ) fun v => bnd (mo ρ) fun d => bnd (mi ρ) fun i s => match d, v, i with
  | .obj n, .p x, .p (.int z) => match s[n]? with
    | some (some (.lst xs)) => match ixN xs.length z with
      | some j => .ok (.nx ρ) (s.set n (some (.lst (xs.set j x))))
      | none => .bad
    | _ => .bad
  | _, _, _ => .bad
theorem x_lput {o i value : Expr} {p3 : Pos} {mo mi mv : EF} (ho : SE C sc N k o mo) (hi : SE C sc N k i mi) (hv : SE C sc N k value mv) (hs : ∀ env : Env, env.scope = sc → swapsWithSole [.Subscript o i p3] value pos.line env = pure false := by intro _ _; rfl)
    (hw : ∀ env : Env, swappedStores [.Subscript o i p3] value env = pure none := by intro _; rfl) (h1 : ∀ env, (assignEach [.Subscript o i p3] env).map (·.2) = [assign (.Subscript o i p3) env] := by intro _; rfl)
    (ha : ∀ env v, assign (.Subscript o i p3) env v = (do
      let ov ← holding [v] (eval o env)
      let iv ← holding [v, ov] (eval i env)
      standAt p3
      holding [v, ov, iv] (setItem ov iv v)
      release [v, ov, iv] []) := by intro _ _; rfl) : SS C sc N k (.Assign [.Subscript o i p3] value pos) (lputF mo mi mv) := fun X ok => by
  obtain ⟨t1, p1, q1⟩ := ho X ok.toCok
  obtain ⟨t2, p2, q2⟩ := hi X ok.toCok
  obtain ⟨t3, p3, q3⟩ := hv X ok.toCok
  refine ⟨_, ps_asg p3 (pg_sub p1 p2 set_list (ha X.env)) (hs X.env ok.eS) (hw X.env) (h1 X.env), fun D σ H W s ρ er A g => ?_⟩
  refine q3 σ H W s ρ _ er A ((Good.bnd g).mono fun v s1 z W1 H1 vv e1 r1 A1 => ?_)
  refine q1 σ H1 W1 s1 ρ _ (er.up e1) A1 ((Good.bnd z).mono fun d s2 z2 W2 H2 vd e2 r2 A2 => ?_)
  refine q2 σ H2 W2 s2 ρ _ ((er.up e1).up e2) A2 ((Good.bnd z2).mono fun i s3 z3 W3 H3 vi e3 r3 A3 => ?_)
  split at z3
  · rename_i n x iz
    split at z3
    · rename_i xs hx
      split at z3
      · rename_i j hj
        cases r3
        obtain ⟨a, h4, rfl⟩ := r2.up e3
        obtain ⟨a', h5, _, vs, h6, h7⟩ := A3.ob n _ hx
        rw [h4] at h5
        cases h5
        have ev : Ev W3 H3 W3 (upd H3 a (.lst (vs.set j vv))) := Ev.put (o' := .lst []) A3 hx h4
        refine ⟨a, vs, _, j, rfl, rfl, h6, by rw [h7.len]; exact hj, z3 W3 _ _ (((e1.trans e2).trans e3).trans ev) ((((er.up e1).up e2).up e3).up ev) (A3.put hx h4 ⟨_, upd_same, PVs.put ?_ j (PVs.up ev h7)⟩)⟩
        exact PV.up ev (PV.up e3 (PV.up e2 r1))
      · exact z3.elim
    · exact z3.elim
  · exact z3.elim
end
end CW
end
section
set_option maxRecDepth 100000
set_option maxHeartbeats 2000000
namespace CW
open PySem PySem.Spec PyProof.Rows L2
section
variable {C : Cf} {sc : Scope} {N : List Str} {k : Nat} {pos p2 apos cpos : Pos} {e a b c o tg : Expr} {m ma mb mo : EF} {es : List Expr} {ms : List EF} {st : Stmt} {sts : List Stmt} {f g : SF}
theorem x_par3 (i j l : Nat) {x y z : Str} {px py pz pt : Pos} {kt k2 : Nat} {pt2 : Pos} (ha : SAs C sc N k [a, b, c] ms) (hi : N[i]? = some x := by rfl) (hj : N[j]? = some y := by rfl) (hl : N[l]? = some z := by rfl) (hij : i ≠ j := by decide) (hil : i ≠ l := by decide) (hjl : j ≠ l := by decide)
    (hx : sc.names.lookup x = some .local := by rfl) (hy : sc.names.lookup y = some .local := by rfl) (hz : sc.names.lookup z = some .local := by rfl)
    (hw : ∀ env : Env, env.scope = sc → swappedStores [.Tuple [.Name x px, .Name y py, .Name z pz] kt pt] (.Tuple [a, b, c] k2 pt2) env = pure (some [x, y, z])) (hs : ∀ env, swapsWithSole [.Tuple [.Name x px, .Name y py, .Name z pz] kt pt] (.Tuple [a, b, c] k2 pt2) pos.line env = pure false := by intro _; rfl) :
    SS C sc N k (.Assign [.Tuple [.Name x px, .Name y py, .Name z pz] kt pt] (.Tuple [a, b, c] k2 pt2) pos) (par3F i j l ms) := fun X ok => by
  obtain ⟨t, p, q⟩ := ha X ok.toCok
  refine ⟨_, ps_par3 ok.calm (by rw [ok.nN]; exact ok.nd) (by rw [ok.nN]; exact hi) (by rw [ok.nN]; exact hj) (by rw [ok.nN]; exact hl) hij hil hjl (by rw [ok.eS]; exact hx) (by rw [ok.eS]; exact hy) (by rw [ok.eS]; exact hz) p (hw X.env ok.eS) (hs X.env), fun D σ H W s ρ er A g => ?_⟩
  refine q σ H W s ρ _ er A ((Good.bnd g).mono fun ds s1 w W1 H1 vs e1 r1 A1 => ?_)
  split at w
  · obtain ⟨x', y', z', rfl, r2, r3, r4⟩ := dvs3 r1
    exact ⟨_, _, _, rfl, w W1 H1 _ e1 ((((er.up e1).put r2 i).put r3 j).put r4 l) A1⟩
  · exact w.elim
theorem obj_lst {W : Wd} {H : Hp} {s : S} {v : V} {n : Nat} {xs : List P} (r : DV C.K W H v (.obj n)) (A : Abs C.K W s H) (h : s[n]? = some (some (.lst xs))) : ∃ a vs, W.io[n]? = some a ∧ v = .ref a ∧ H a = some (.lst vs) ∧ PVs C.K W.fr H vs xs := by
  obtain ⟨a, h4, rfl⟩ := r
  obtain ⟨a', h5, _, vs, h6, h7⟩ := A.ob n _ h
  rw [h4] at h5
  cases h5
  exact ⟨a, vs, h4, rfl, h6, h7⟩
/-- a method of a list does g -/
def MtS (C : Cf) (k : Nat) (id : String) (g : D → List D → M D) : Prop :=
  ∀ X, Okx C k X → ∃ r, MtR X id r ∧ ∀ W s H x d xs ds Q, DV C.K W H x d → DVs C.K W H xs ds → Abs C.K W s H → Good (g d ds s) (Po C.K W H Q) → r x xs H Q
def metE (g : D → List D → M D) (mo : EF) (ms : List EF) : EF := fun ρ => bnd (mo ρ) fun d s => match its d s with
  | some _ => bnd (evA ms ρ) (g d) s
  | none => .bad
theorem s_met {name : Str} {id : String} {g : D → List D → M D} (pa : PlainAttrs "list") (slot : Slot "list" name id) (hty : typeOf (.builtin id) = pure (.type "method_descriptor")) (hm : MtS C k id g) (ho : SE C sc N k o mo) (ha : SAs C sc N k (e :: es) ms)
    (hb : ∀ env, attributeBase o name env (eval o env) = eval o env := by intro _; rfl)
    (hf : ∀ env, ((backTo cpos (starEach (e :: es) env)).all (fun x => !x.1) && (backToKw cpos (keywordEach [] env)).all (fun x => x.1.isSome) && decide ((e :: es).length + ([] : List Keyword).length + (if ([] : List Keyword).isEmpty then 0 else 1) < 30)) = true := by intro _; rfl)
    (hl : (apos.endLine == cpos.line) = true := by rfl) (hs : ∀ env, starEach (e :: es) env = (false, eval e env) :: starEach es env := by intro _; rfl) (hp : ∀ env, (backTo cpos (starEach es env)).any (·.1) = false := by intro _; rfl) :
    SE C sc N k (.Call (.Attribute o name apos) (e :: es) [] cpos) (metE g mo ms) := fun X ok => by
  obtain ⟨t1, p1, q1⟩ := ho X ok
  obtain ⟨t2, p2, q2⟩ := ha X ok
  obtain ⟨r, p3, q3⟩ := hm X ok.toOkx
  refine ⟨_, pe_bm pa slot hty p3 p1 p2 (hb X.env) (hf X.env) hl (hs X.env) (hp X.env), fun σ H W s ρ Q er A G => ?_⟩
  refine q1 σ H W s ρ _ er A ((Good.bnd G).mono fun d s1 z W1 H1 v e1 r1 A1 => ?_)
  split at z
  · rename_i xs hx
    obtain ⟨a, vs, rfl, h1, h2⟩ := its_sq r1 A1 hx
    refine ⟨by rw [ok.eK]; exact Or.inl ⟨rfl, _, h1⟩, q2 σ H1 W1 s1 ρ _ (er.up e1) A1 ((Good.bnd z).mono fun ds s2 z2 W2 H2 us e2 r2 A2 => ?_)⟩
    exact q3 W2 s2 H2 _ d us ds Q (r1.up e2) r2 A2 (Good.mono z2 fun _ _ w => w.up (e1.trans e2))
  · exact z.elim
theorem put_go {W : Wd} {H : Hp} {s : S} {n : Nat} {a : Addr} {xs ys : List P} {us : List V} {Q : VK} {v : V} {d : D} (A : Abs C.K W s H) (hn : s[n]? = some (some (.lst xs))) (ha : W.io[n]? = some a) (r : PVs C.K W.fr H us ys) (rv : DV C.K W H v d)
    (g : Good (.ok d (s.set n (some (.lst ys)))) (Po C.K W H Q)) : Q v (upd H a (.lst us)) := by
  have ev : Ev W H W (upd H a (.lst us)) := Ev.put (o' := .lst []) A hn ha
  exact g W _ _ ev (rv.up ev) (A.put hn ha ⟨_, upd_same, PVs.up ev r⟩)
def appD : D → List D → M D := fun d ds s => match d, ds with
  | .obj n, [.p x] => match s[n]? with
    | some (some (.lst xs)) => if xs.length < sizeLine then .ok (.p .non) (s.set n (some (.lst (xs ++ [x])))) else .bad
    | _ => .bad
  | _, _ => .bad
theorem m_app : MtS C k "list.append" appD := fun X ok => ⟨_, mt_append, fun W s H x d xs ds Q rx r A g => by
  unfold appD at g
  split at g
  · split at g
    · rename_i hn
      split at g
      · rename_i hl
        obtain ⟨a, vs, ha, rfl, h1, h2⟩ := obj_lst rx A hn
        obtain ⟨y, rfl, hy⟩ := dvs1 r
        exact ⟨a, vs, y, rfl, rfl, h1, by rw [h2.len]; exact hl, put_go A hn ha (h2.app (.cons hy .nil)) (d := .p .non) PV.non g⟩
      · exact g.elim
    · exact g.elim
  · exact g.elim⟩
def whN : Nat → TF → SF → SF
  | 0, _, _ => fun _ _ => .bad
  | n + 1, c, b => fun ρ => bnd (c ρ) fun t => if t = true then bnd (b ρ) (fun r => match r with
    | .nx ρ' => whN n c b ρ'
    | .ct ρ' => whN n c b ρ'
    | .bk ρ' => ret (.nx ρ')
    | .rt d => ret (.rt d)) else ret (.nx ρ)
open Classical in
noncomputable def whF (c : TF) (b : SF) : SF := fun ρ s => if h : ∃ n, whN n c b ρ s ≠ .bad then whN (choose h) c b ρ s else .bad
theorem x_while {cnd : Expr} {body : List Stmt} {t : TF} {f : SF} (hc : ST C sc N k cnd t) (hb : SB C sc N k body f) : SS C sc N k (.While cnd body [] pos) (whF t f) := fun X ok => by
  obtain ⟨tc, p, q⟩ := hc X ok.toCok
  obtain ⟨tb, p', q'⟩ := hb X ok
  refine ⟨_, ps_while ok.po p p', fun D σ H W s ρ er A g => ?_⟩
  obtain ⟨n, hn⟩ : ∃ n, Good (whN n t f ρ s) (PoF C W H D) := by
    unfold whF at g
    split at g
    · rename_i h
      exact ⟨_, g⟩
    · exact g.elim
  refine ⟨fun m σ' H' => ∃ W' s' ρ', Ev W H W' H' ∧ ER C W' H' σ' ρ' ∧ Abs C.K W' s' H' ∧ Good (whN m t f ρ' s') (PoF C W' H' D), ⟨n, W, s, ρ, Ev.rfl, er, A, hn⟩, ?_⟩
  rintro m σ1 H1 ⟨W1, s1, ρ1, e1, er1, A1, g1⟩
  cases m with
  | zero => exact g1.elim
  | succ m =>
    refine q σ1 H1 W1 s1 ρ1 _ er1 A1 ((Good.bnd g1).mono fun c s2 z W2 H2 e2 A2 => ?_)
    cases c with
    | false => exact iteF (z W2 H2 σ1 e2 (er1.up e2) A2)
    | true =>
      refine iteT ⟨fun σ' H' => ∃ W' s' ρ', Ev W H W' H' ∧ ER C W' H' σ' ρ' ∧ Abs C.K W' s' H' ∧ Good (whN m t f ρ' s') (PoF C W' H' D), fun σ' H' h => ⟨m, Nat.lt_succ_self m, h⟩, ?_⟩
      refine q' _ σ1 H2 W2 s2 ρ1 (er1.up e2) A2 ((Good.bnd z).mono fun r s3 z3 => ?_)
      cases r with
      | nx ρ' => exact fun W3 H3 σ3 e3 er3 A3 => ⟨W3, s3, ρ', (e1.trans e2).trans e3, er3, A3, Good.mono z3 fun _ _ w => w.up (e2.trans e3)⟩
      | ct ρ' => exact fun W3 H3 σ3 e3 er3 A3 => ⟨W3, s3, ρ', (e1.trans e2).trans e3, er3, A3, Good.mono z3 fun _ _ w => w.up (e2.trans e3)⟩
      | bk ρ' => exact fun W3 H3 σ3 e3 er3 A3 => z3 W3 H3 σ3 (e2.trans e3) er3 A3
      | rt d => exact fun W3 H3 v3 e3 r3 A3 => z3 W3 H3 v3 (e2.trans e3) r3 A3
/-- fuel does no harm -/
theorem whN_up {t : TF} {f : SF} : ∀ (n m : Nat) {ρ : En} {s : S}, n ≤ m → whN n t f ρ s ≠ .bad → whN m t f ρ s = whN n t f ρ s
  | 0, _, _, _, _, h => (h rfl).elim
  | n + 1, 0, _, _, hl, _ => (Nat.not_succ_le_zero n hl).elim
  | n + 1, m + 1, ρ, s, hl, h => by
    unfold whN at h ⊢
    cases ht : t ρ s with
    | bad => rw [bnd_bad ht, bnd_bad ht]
    | exn _ _ => rw [bnd_exn ht, bnd_exn ht]
    | ok b s1 =>
      rw [bnd_ok ht] at h
      rw [bnd_ok ht, bnd_ok ht]
      cases b with
      | false => rfl
      | true =>
        rw [if_pos rfl] at h
        rw [if_pos rfl, if_pos rfl]
        cases hf : f ρ s1 with
        | bad => rw [bnd_bad hf, bnd_bad hf]
        | exn _ _ => rw [bnd_exn hf, bnd_exn hf]
        | ok r s2 =>
          rw [bnd_ok hf] at h
          rw [bnd_ok hf, bnd_ok hf]
          cases r with
          | nx ρ' => exact whN_up n m (Nat.le_of_succ_le_succ hl) h
          | ct ρ' => exact whN_up n m (Nat.le_of_succ_le_succ hl) h
          | bk ρ' => rfl
          | rt d => rfl
theorem whF_of {t : TF} {f : SF} {ρ : En} {s : S} (n : Nat) (h : whN n t f ρ s ≠ .bad) : whF t f ρ s = whN n t f ρ s := by
  have hx : ∃ n, whN n t f ρ s ≠ .bad := ⟨n, h⟩
  unfold whF
  rw [dif_pos hx]
  have hc := Classical.choose_spec hx
  rcases Nat.le_total n (Classical.choose hx) with hl | hl
  · exact whN_up _ _ hl h
  · exact (whN_up _ _ hl hc).symm
/-- one turn of a while -/
theorem whF_eq (t : TF) (f : SF) (ρ : En) : whF t f ρ = bnd (t ρ) fun b => if b = true then bnd (f ρ) (fun r => match r with
    | .nx ρ' => whF t f ρ'
    | .ct ρ' => whF t f ρ'
    | .bk ρ' => ret (.nx ρ')
    | .rt d => ret (.rt d)) else ret (.nx ρ) := by
  funext s
  have key : ∀ n, whN (n + 1) t f ρ s = bnd (t ρ) (fun b => if b = true then bnd (f ρ) (fun r => match r with
    | .nx ρ' => whN n t f ρ'
    | .ct ρ' => whN n t f ρ'
    | .bk ρ' => ret (.nx ρ')
    | .rt d => ret (.rt d)) else ret (.nx ρ)) s := fun n => rfl
  have bads : ∀ ρ' s', (¬ ∃ n, whN n t f ρ' s' ≠ .bad) → whF t f ρ' s' = .bad := fun ρ' s' h => by
    unfold whF
    rw [dif_neg h]
  cases ht : t ρ s with
  | bad =>
    rw [bnd_bad ht]
    refine bads ρ s fun ⟨n, h⟩ => h ?_
    cases n with
    | zero => rfl
    | succ n => rw [key n, bnd_bad ht]
  | exn c s1 =>
    rw [bnd_exn ht]
    have h1 : whN 1 t f ρ s = .exn c s1 := by rw [key 0, bnd_exn ht]
    rw [whF_of 1 (by rw [h1]; exact fun z => nomatch z), h1]
  | ok b s1 =>
    rw [bnd_ok ht]
    cases b with
    | false =>
      have h1 : whN 1 t f ρ s = .ok (.nx ρ) s1 := by rw [key 0, bnd_ok ht]; rfl
      rw [whF_of 1 (by rw [h1]; exact fun z => nomatch z), h1]
      rfl
    | true =>
      rw [if_pos rfl]
      cases hf : f ρ s1 with
      | bad =>
        rw [bnd_bad hf]
        refine bads ρ s fun ⟨n, h⟩ => h ?_
        cases n with
        | zero => rfl
        | succ n => rw [key n, bnd_ok ht, if_pos rfl, bnd_bad hf]
      | exn c s2 =>
        rw [bnd_exn hf]
        have h1 : whN 1 t f ρ s = .exn c s2 := by rw [key 0, bnd_ok ht, if_pos rfl, bnd_exn hf]
        rw [whF_of 1 (by rw [h1]; exact fun z => nomatch z), h1]
      | ok r s2 =>
        rw [bnd_ok hf]
        have step : ∀ n, whN (n + 1) t f ρ s = (match r with
          | .nx ρ' => whN n t f ρ'
          | .ct ρ' => whN n t f ρ'
          | .bk ρ' => ret (.nx ρ')
          | .rt d => ret (.rt d)) s2 := fun n => by rw [key n, bnd_ok ht, if_pos rfl, bnd_ok hf]
        have go : ∀ ρ', (∀ n, whN (n + 1) t f ρ s = whN n t f ρ' s2) → whF t f ρ s = whF t f ρ' s2 := fun ρ' hst => by
          by_cases hx : ∃ n, whN n t f ρ' s2 ≠ .bad
          · obtain ⟨n, hn⟩ := hx
            rw [whF_of (n + 1) (by rw [hst n]; exact hn), hst n, whF_of n hn]
          · rw [bads ρ' s2 hx]
            refine bads ρ s fun ⟨n, h⟩ => ?_
            cases n with
            | zero => exact h rfl
            | succ n => exact hx ⟨n, by rw [← hst n]; exact h⟩
        cases r with
        | nx ρ' => exact go ρ' step
        | ct ρ' => exact go ρ' step
        | bk ρ' =>
          rw [whF_of 1 (by rw [step 0]; exact fun z => nomatch z), step 0]
        | rt d =>
          rw [whF_of 1 (by rw [step 0]; exact fun z => nomatch z), step 0]
end
end CW
end
section
set_option maxRecDepth 100000
set_option maxHeartbeats 2000000
namespace CW
open PySem PySem.Spec PyProof.Rows L2
/-- lists that must stay as they are while they are walked -/
abbrev Gd := List (Nat × List P)
def gok (g : Gd) (s : S) : Prop := ∀ p ∈ g, s[p.1]? = some (some (.lst p.2))
theorem gok_nil (s : S) : gok [] s := fun _ h => nomatch h
def ItOk (K : PySem.W.Frag) (J : It) (W0 : Wd) (H0 : Hp) (xs : List P) (g : Gd) : Prop :=
  ∀ W H s, Ev W0 H0 W H → Abs K W s H → gok g s → ∀ i, (∀ x, xs[i]? = some x → J.go i H ∧ ∀ v H', J.yld i H v H' → Ev W H W H' ∧ PV K W.fr H' v x ∧ Abs K W s H') ∧ (xs.length = i → J.stop i H)
abbrev IF := En → M (List P × Gd)
def SI (C : Cf) (sc : Scope) (N : List Str) (k : Nat) (tg iter : Expr) (m : IF) : Prop :=
  ∀ X, Cok C sc N k X → ∃ t, PI X tg iter t ∧ ∀ σ H W s ρ (R : It → Hp → Prop), ER C W H σ ρ → Abs C.K W s H →
    Good (m ρ s) (fun xg s' => ∀ W' H' J, Ev W H W' H' → Abs C.K W' s' H' → ItOk C.K J W' H' xg.1 xg.2 → R J H') → t σ H R
section
variable {C : Cf} {sc : Scope} {N : List Str} {k : Nat} {pos p2 : Pos} {e a b tg iter : Expr} {m ma mb : EF} {es : List Expr} {ms : List EF} {sts : List Stmt} {f : SF}
/-- a list's address, and how it stands for the walk -/
def rowD : D → S → Option (List P × Gd)
  | .p (.lst xs), _ => some (xs, [])
  | .p (.con xs), _ => some (xs, [])
  | .obj n, s => match s[n]? with
    | some (some (.lst xs)) => some (xs, [(n, xs)])
    | _ => none
  | _, _ => none
def RowOk (K : PySem.W.Frag) (a : Addr) (W0 : Wd) (H0 : Hp) (xs : List P) (g : Gd) : Prop := ∀ W H s, Ev W0 H0 W H → Abs K W s H → gok g s → ∃ vs, SqL K H a vs ∧ PVs K W.fr H vs xs
theorem RowOk.more {K : PySem.W.Frag} {a : Addr} {W0 : Wd} {H0 : Hp} {xs : List P} {g g' : Gd} (h : RowOk K a W0 H0 xs g) (hs : ∀ p ∈ g, p ∈ g') : RowOk K a W0 H0 xs g' := fun W H s e A k => h W H s e A fun p hp => k p (hs p hp)
theorem row_go {W : Wd} {H : Hp} {s : S} {v : V} {d : D} {xs : List P} {g : Gd} (r : DV C.K W H v d) (A : Abs C.K W s H) (h : rowD d s = some (xs, g)) : ∃ a, v = .ref a ∧ (∃ vs, SqL C.K H a vs) ∧ RowOk C.K a W H xs g := by
  cases d with
  | obj n =>
    unfold rowD at h
    dsimp only at h
    split at h
    · rename_i ys hs
      cases h
      obtain ⟨a, h4, rfl⟩ := r
      obtain ⟨a', h5, _, vs, h6, h7⟩ := A.ob n _ hs
      rw [h4] at h5
      cases h5
      refine ⟨a, rfl, ⟨vs, SqL.of h6⟩, fun W1 H1 s1 e A1 hg => ?_⟩
      obtain ⟨a', h5, _, us, h8, h9⟩ := A1.ob n _ (hg (n, xs) List.mem_cons_self)
      obtain ⟨q, hq⟩ := e.io
      rw [hq, List.getElem?_append_left (List.getElem?_eq_some_iff.mp h4).1, h4] at h5
      cases h5
      exact ⟨us, SqL.of h8, h9⟩
    · cases h
  | p z =>
    cases r with
    | lst hf hq hr =>
      cases h
      exact ⟨_, rfl, ⟨_, SqL.of hq⟩, fun W1 H1 s1 e A1 hg => ⟨_, SqL.of (e.fk _ _ hf hq), PVs.up e hr⟩⟩
    | con hq hr =>
      cases h
      exact ⟨_, rfl, ⟨_, hq.sql⟩, fun W1 H1 s1 e A1 hg => ⟨_, (e.cs hq).sql, PVs.up e hr⟩⟩
    | _ => cases h
theorem PVs.len_get {K : PySem.W.Frag} {F : Addr → Prop} {H : Hp} {vs : List V} {xs : List P} {i : Nat} {v : V} {x : P} (h : PVs K F H vs xs) (hx : xs[i]? = some x) (hv : vs[i]? = some v) : PV K F H v x := by
  obtain ⟨u, h1, h2⟩ := h.get hx
  rw [hv] at h1
  cases h1
  exact h2
theorem itl_ok {a : Addr} {W : Wd} {H : Hp} {xs : List P} {g : Gd} (h : RowOk C.K a W H xs g) : ItOk C.K (Itl C.K a) W H xs g := fun W1 H1 s1 e A1 hg i => by
  obtain ⟨vs, h1, h2⟩ := h W1 H1 s1 e A1 hg
  refine ⟨fun x hx => ?_, fun hi => ⟨vs, h1, by rw [h2.len]; exact Nat.le_of_eq hi⟩⟩
  obtain ⟨v, h3, h4⟩ := h2.get hx
  refine ⟨⟨vs, v, h1, h3⟩, fun u H' hy => ?_⟩
  obtain ⟨rfl, hu⟩ := hy
  exact ⟨Ev.rfl, h2.len_get hx (hu vs h1), A1⟩
theorem itt_ok {a : Addr} {W : Wd} {H : Hp} {vs : List V} {xs : List P} (h1 : SqT C.K H a vs) (h2 : PVs C.K W.fr H vs xs) : ItOk C.K (Itt C.K a) W H xs [] := fun W1 H1 s1 e A1 hg i => by
  refine ⟨fun x hx => ?_, fun hi => ⟨vs, e.sqt h1, by rw [h2.len]; exact Nat.le_of_eq hi⟩⟩
  obtain ⟨v, h3, h4⟩ := h2.get hx
  refine ⟨⟨vs, v, e.sqt h1, h3⟩, fun u H' hy => ?_⟩
  obtain ⟨rfl, hu⟩ := hy
  exact ⟨Ev.rfl, (PVs.up e h2).len_get hx (hu vs (e.sqt h1)), A1⟩
theorem pi_or {X : Cx} {t u : TI} (h1 : PI X tg iter t) (h2 : PI X tg iter u) : PI X tg iter (fun σ H R => t σ H R ∨ u σ H R) := ⟨fun pins s σ H R I q => by
  rcases q with q | q
  · exact h1.run pins s σ H R I q
  · exact h2.run pins s σ H R I q⟩
/-- over a list or a tuple -/
def rowI (m : EF) : IF := fun ρ => bnd (m ρ) fun d s => match d with
  | .p (.tup xs) => .ok (xs, []) s
  | d => match rowD d s with
    | some r => .ok r s
    | none => .bad
/-- over a list, over a tuple: said which -/
def lstI (m : EF) : IF := fun ρ => bnd (m ρ) fun d s => match rowD d s with
  | some r => .ok r s
  | none => .bad
def tupI (m : EF) : IF := fun ρ => bnd (m ρ) fun d s => match d with
  | .p (.tup xs) => .ok (xs, []) s
  | _ => .bad
theorem i_lst (h : SE C sc N k e m) : SI C sc N k tg e (lstI m) := fun X ok => by
  obtain ⟨t, p, q⟩ := h X ok
  refine ⟨_, pi_list p, fun σ H W s ρ R er A g => ?_⟩
  refine q σ H W s ρ _ er A ((Good.bnd g).mono fun d s1 z W1 H1 v e1 r1 A1 => ?_)
  split at z
  · rename_i r hr
    obtain ⟨xs, gd⟩ := r
    obtain ⟨a, rfl, h1, h2⟩ := row_go r1 A1 hr
    rw [ok.eK]
    exact ⟨a, rfl, h1, z W1 H1 _ e1 A1 (itl_ok h2)⟩
  · exact z.elim
theorem i_tup (h : SE C sc N k e m) : SI C sc N k tg e (tupI m) := fun X ok => by
  obtain ⟨t, p, q⟩ := h X ok
  refine ⟨_, pi_tup p, fun σ H W s ρ R er A g => ?_⟩
  refine q σ H W s ρ _ er A ((Good.bnd g).mono fun d s1 z W1 H1 v e1 r1 A1 => ?_)
  split at z
  · cases r1 with
    | tup h1 h2 =>
      rw [ok.eK]
      exact ⟨_, rfl, ⟨_, h1⟩, z W1 H1 _ e1 A1 (itt_ok h1 h2)⟩
  · exact z.elim
/-- a name that holds a list or a tuple: asked twice, which is no matter -/
theorem i_row (h : SE C sc N k e m) : SI C sc N k tg e (rowI m) := fun X ok => by
  obtain ⟨t, p, q⟩ := i_lst (tg := tg) h X ok
  obtain ⟨t2, p2, q2⟩ := i_tup (tg := tg) h X ok
  refine ⟨_, pi_or p p2, fun σ H W s ρ R er A g => ?_⟩
  have g1 := Good.bnd g
  cases e1 : m ρ s with
  | bad =>
    rw [e1] at g1
    exact g1.elim
  | exn _ _ =>
    rw [e1] at g1
    exact g1.elim
  | ok d s1 =>
    rw [e1] at g1
    have left : Good (lstI m ρ s) (fun xg s' => ∀ W' H' J, Ev W H W' H' → Abs C.K W' s' H' → ItOk C.K J W' H' xg.1 xg.2 → R J H') → t σ H R ∨ t2 σ H R := fun z => Or.inl (q σ H W s ρ R er A z)
    have right : Good (tupI m ρ s) (fun xg s' => ∀ W' H' J, Ev W H W' H' → Abs C.K W' s' H' → ItOk C.K J W' H' xg.1 xg.2 → R J H') → t σ H R ∨ t2 σ H R := fun z => Or.inr (q2 σ H W s ρ R er A z)
    unfold lstI at left
    unfold tupI at right
    rw [bnd_ok e1] at left right
    cases d with
    | obj n => exact left g1
    | p z =>
      cases z with
      | tup xs => exact right g1
      | _ => exact left g1
def ranP (lo : Int) (n : Nat) : List P := (List.range n).map fun i => .int (lo + (i : Nat))
theorem ranP_len (lo : Int) (n : Nat) : (ranP lo n).length = n := by
  unfold ranP
  rw [List.length_map, List.length_range]
theorem itr_ok {lo : Int} {n : Nat} {W : Wd} {H : Hp} : ItOk C.K (Itr lo n) W H (ranP lo n) [] := fun W1 H1 s1 e A1 hg i => by
  refine ⟨fun x hx => ?_, fun hi => by rw [ranP_len] at hi; exact Nat.le_of_eq hi⟩
  have hi : i < n := by
    have z := (List.getElem?_eq_some_iff.mp hx).1
    rw [ranP_len] at z
    exact z
  refine ⟨hi, fun u H' hy => ?_⟩
  obtain ⟨rfl, rfl⟩ := hy
  unfold ranP at hx
  rw [List.getElem?_map, List.getElem?_range hi] at hx
  cases hx
  exact ⟨Ev.rfl, .int _, A1⟩
noncomputable def r1I (ms : List EF) : IF := fun ρ => bnd (evA ms ρ) fun ds s => match ds with
  | [.p (.int j)] => @ite _ (-(2 ^ 62) ≤ j ∧ j < 2 ^ 62) (Classical.propDecidable _) (.ok (ranP 0 j.toNat, []) s) .bad
  | _ => .bad
theorem i_r1 (ha : SAs C sc N k [a] ms) (hm : C.mg "range" = none) (hg : GlS sc "range" := by rfl) (hs : ∀ env, starEach [a] env = [(false, eval a env)] := by intro _; rfl) : SI C sc N k tg (.Call (.Name "range" p2) [a] [] pos) (r1I ms) := fun X ok => by
  obtain ⟨t, p, q⟩ := ha X ok
  refine ⟨_, pi_range1 (hg.of ok) (by rw [ok.em]; exact hm) p (hs X.env), fun σ H W s ρ R er A g => ?_⟩
  refine q σ H W s ρ _ er A ((Good.bnd g).mono fun ds s1 z W1 H1 vs e1 r1 A1 => ?_)
  split at z
  · split at z
    · rename_i hb
      obtain ⟨x, rfl, hx⟩ := dvs1 r1
      cases hx
      exact ⟨_, rfl, hb.1, hb.2, z W1 H1 _ e1 A1 itr_ok⟩
    · exact z.elim
  · exact z.elim
open Classical in
noncomputable def forL (g : Gd) (t : GF) (b : SF) : List P → SF
  | [] => fun ρ s => if gok g s then .ok (.nx ρ) s else .bad
  | x :: xs => fun ρ s => if gok g s then bnd (t (.p x) ρ) (fun ρ1 => bnd (b ρ1) fun r => match r with
    | .nx ρ' => forL g t b xs ρ'
    | .ct ρ' => forL g t b xs ρ'
    | .bk ρ' => ret (.nx ρ')
    | .rt d => ret (.rt d)) s else .bad
noncomputable def forF (i : IF) (t : GF) (b : SF) : SF := fun ρ => bnd (i ρ) fun xg => forL xg.2 t b xg.1 ρ
theorem x_for {i : IF} {t : GF} {pl : List Nat} (hi : SI C sc N k tg iter i) (hg : SG C sc N k tg t pl) (hb : SB C sc N k sts f) (hs : ∀ env x, foldedSetIterable iter env x = pure x := by intro _ _; rfl) : SS C sc N k (.For tg iter sts [] pos) (forF i t f) := fun X ok => by
  obtain ⟨ti, p, q⟩ := hi X ok.toCok
  obtain ⟨tt, p', q'⟩ := hg X ok.toCok
  obtain ⟨tb, p2, q2⟩ := hb X ok
  refine ⟨_, ps_for ok.po ok.calm p p' p2 (hs X.env), fun D σ H W s ρ er A g => ?_⟩
  refine q σ H W s ρ _ er A ((Good.bnd g).mono fun xg s1 z W1 H1 J e1 A1 io => ?_)
  obtain ⟨xs, gd⟩ := xg
  refine ⟨fun i m σ' H' => ∃ W' s' ρ', Ev W1 H1 W' H' ∧ ER C W' H' σ' ρ' ∧ Abs C.K W' s' H' ∧ i + m = xs.length ∧ Good (forL gd t f (xs.drop i) ρ' s') (PoF C W' H' D), ⟨xs.length, W1, s1, ρ, Ev.rfl, er.up e1, A1, by simp, Good.mono z fun _ _ w => w.up e1⟩, ?_⟩
  rintro i m σ2 H2 ⟨W2, s2, ρ2, e2, er2, A2, hm, g2⟩
  by_cases hi : i < xs.length
  · rw [List.drop_eq_getElem_cons hi] at g2
    unfold forL at g2
    split at g2
    · rename_i gk
      obtain ⟨hgo, hy⟩ := (io W2 H2 s2 e2 A2 gk i).1 xs[i] (List.getElem?_eq_getElem hi)
      refine Or.inr ⟨hgo, fun σ' H' => ∃ W' s' ρ', Ev W1 H1 W' H' ∧ ER C W' H' σ' ρ' ∧ Abs C.K W' s' H' ∧ Good (forL gd t f (xs.drop (i + 1)) ρ' s') (PoF C W' H' D), ?_, fun v H3 hv => ?_⟩
      · rintro σ' H' ⟨W', s', ρ', a1, a2, a3, a4⟩
        exact ⟨m - 1, by omega, W', s', ρ', a1, a2, a3, by omega, a4⟩
      · obtain ⟨e3, r3, A3⟩ := hy v H3 hv
        refine q' v _ σ2 H3 W2 s2 ρ2 _ (show DV C.K W2 H3 v (.p xs[i]) from r3) (er2.up e3) A3 ((Good.bnd g2).mono fun ρ1 s4 z4 W4 H4 σ4 e4 er4 A4 _ => ?_)
        refine q2 _ σ4 H4 W4 s4 ρ1 er4 A4 ((Good.bnd z4).mono fun r s5 z5 => ?_)
        have e34 := e3.trans e4
        cases r with
        | nx ρ' => exact fun W5 H5 σ5 e5 er5 A5 => ⟨W5, s5, ρ', (e2.trans e34).trans e5, er5, A5, Good.mono z5 fun _ _ w => w.up (e34.trans e5)⟩
        | ct ρ' => exact fun W5 H5 σ5 e5 er5 A5 => ⟨W5, s5, ρ', (e2.trans e34).trans e5, er5, A5, Good.mono z5 fun _ _ w => w.up (e34.trans e5)⟩
        | bk ρ' => exact fun W5 H5 σ5 e5 er5 A5 => z5 W5 H5 σ5 (e34.trans e5) er5 A5
        | rt d => exact fun W5 H5 v5 e5 r5 A5 => z5 W5 H5 v5 (e34.trans e5) r5 A5
    · exact g2.elim
  · rw [List.drop_eq_nil_of_le (Nat.le_of_not_lt hi)] at g2
    unfold forL at g2
    split at g2
    · rename_i gk
      exact Or.inl ⟨(io W2 H2 s2 e2 A2 gk i).2 (show xs.length = i by omega), g2 W2 H2 σ2 Ev.rfl er2 A2⟩
    · exact g2.elim
end
end CW
end
section
set_option maxRecDepth 100000
set_option maxHeartbeats 2000000
namespace CW
open PySem PySem.Spec PyProof.Rows L2
section
variable {C : Cf} {sc scope : Scope} {N : List Str} {k : Nat} {pos p2 : Pos} {e a b tg iter elt : Expr} {m ma mb : EF} {es ifs : List Expr} {ms : List EF} {sts : List Stmt} {f : SF}
/-- a list that nobody has seen as yet comes to light -/
theorem own_go {W : Wd} {H : Hp} {s : S} {fr : Bool} {xs : List P} {vs : List V} {Q : VK} {p : Addr} (A : Abs C.K W s H) (hp : H p = some (.lst vs)) (n1 : ¬ W.fr p) (n2 : p ∉ W.io) (n3 : ¬ W.pv p) (n4 : W.ow p = none) (r : PVs C.K W.fr H vs xs) (g : Good (mkL fr xs s) (Po C.K W H Q)) : Q (.ref p) H := by
  have there : H p ≠ none := by rw [hp]; exact fun z => nomatch z
  have notb : ∀ a ps, H a = some (.tbl ps) → a ≠ p := fun a ps h e => by
    rw [e, hp] at h
    cases h
  unfold mkL at g
  cases fr with
  | true =>
    rw [if_pos rfl] at g
    have ev : Ev W H (W.keep p) H := ⟨⟨[], by simp [Wd.keep]⟩, fun _ h => Or.inl h, fun _ _ _ h => h, fun _ _ h => h, fun _ _ _ h => h, fun _ h => h, fun _ _ _ h => h, rfl, fun _ _ h => h⟩
    refine g (W.keep p) H _ ev (PV.lst (Or.inr rfl) hp (PVs.up ev r)) ⟨A.len, A.nd, A.tr, fun a h => ?_, fun n o h => ?_, fun a h => ⟨(A.pd a h).1, fun z => ?_, (A.pd a h).2.2⟩, A.tt, fun a ps h => ⟨fun z => z.elim (A.tn a ps h).1 fun e => notb a ps h e, (A.tn a ps h).2⟩, fun b q h => ⟨(A.po b q h).1, fun z => z.elim (A.po b q h).2.1 fun e => (by rw [e] at h; exact nomatch n4.symm.trans h), (A.po b q h).2.2⟩⟩
    · rcases h with h | h
      · exact A.ft a h
      · rw [h]
        exact there
    · obtain ⟨a, h1, h2, h3⟩ := A.ob n o h
      refine ⟨a, h1, fun z => ?_, OV.up ev rfl (fun _ _ _ => rfl) h3⟩
      rcases z with z | z
      · exact h2 z
      · exact n2 (by rw [← z]; exact List.mem_of_getElem? h1)
    · rcases z with z | z
      · exact (A.pd a h).2.1 z
      · exact n3 (by rw [← z]; exact h)
  | false =>
    rw [if_neg Bool.false_ne_true] at g
    have ev : Ev W H (W.add p) H := ⟨⟨[p], rfl⟩, fun _ h => h, fun _ _ _ h => h, fun _ _ h => h, fun _ _ _ h => h, fun _ h => h, fun _ _ _ h => h, rfl, fun _ _ h => h⟩
    have at_ : (W.add p).io[s.length]? = some p := by
      show (W.io ++ [p])[s.length]? = some p
      rw [← A.len]
      simp
    refine g (W.add p) H _ ev ⟨p, at_, rfl⟩ ⟨by simp [Wd.add, A.len], ?_, fun a h => ?_, A.ft, fun n o h => ?_, fun a h => ⟨(A.pd a h).1, (A.pd a h).2.1, fun z => ?_⟩, A.tt, fun a ps h => ⟨(A.tn a ps h).1, (A.tn a ps h).2.1, fun z => (List.mem_append.mp z).elim (A.tn a ps h).2.2 fun e => notb a ps h (by simpa using e)⟩, fun b q h => ⟨(A.po b q h).1, (A.po b q h).2.1, (A.po b q h).2.2.1, fun z => (List.mem_append.mp z).elim (A.po b q h).2.2.2 fun e => (by
      have e : b = p := by simpa using e
      have h : W.ow b = some q := h
      rw [e, n4] at h
      cases h)⟩⟩
    · refine List.nodup_append.mpr ⟨A.nd, by simp, fun a ha b hb e => ?_⟩
      have hb' : b = p := by simpa using hb
      exact n2 (by rw [← hb', ← e]; exact ha)
    · rcases List.mem_append.mp h with h | h
      · exact A.tr a h
      · have e : a = p := by simpa using h
        rw [e]
        exact there
    · by_cases hn : n < s.length
      · rw [List.getElem?_append_left hn] at h
        obtain ⟨a, h1, h2, h3⟩ := A.ob n o h
        refine ⟨a, ?_, h2, OV.up ev rfl (fun _ _ _ => rfl) h3⟩
        show (W.io ++ [p])[n]? = some a
        rw [List.getElem?_append_left (by rw [A.len]; exact hn)]
        exact h1
      · have hn2 : n = s.length := by
          have h4 := (List.getElem?_eq_some_iff.mp h).1
          simp at h4
          omega
        subst hn2
        have hq : o = .lst xs := by
          simp at h
          exact h.symm
        subst hq
        exact ⟨p, at_, n1, vs, hp, PVs.up ev r⟩
    · rcases List.mem_append.mp z with z | z
      · exact (A.pd a h).2.2 z
      · have e : a = p := by simpa using z
        exact n3 (by rw [← e]; exact h)
def wipE (ρ : En) : List Nat → En
  | [] => ρ
  | v :: vs => (wipE ρ vs).set v none
theorem ER.wip {C : Cf} {W : Wd} {H : Hp} {σ : L2.St} {ρ : En} (h : ER C W H σ ρ) : ∀ vs : List Nat, ER C W H (L2.wipe σ vs) (wipE ρ vs)
  | [] => h
  | v :: vs => ER.wipe (ER.wip h vs) v
theorem wipe_get {σ : L2.St} {j : Nat} : ∀ {vs : List Nat}, (L2.wipe σ vs)[j]? = if j ∈ vs ∧ j < σ.length then some none else σ[j]?
  | [] => by
    rw [if_neg (by simp)]
    rfl
  | v :: vs => by
    have ih := wipe_get (σ := σ) (j := j) (vs := vs)
    show ((L2.wipe σ vs).set v none)[j]? = _
    by_cases hv : v = j
    · subst hv
      by_cases hl : v < σ.length
      · rw [List.getElem?_set_self (by rw [wipe_length]; exact hl), if_pos ⟨List.mem_cons_self, hl⟩]
      · rw [List.getElem?_eq_none (by rw [List.length_set, wipe_length]; omega), if_neg fun z => hl z.2, List.getElem?_eq_none (by omega)]
    · rw [List.getElem?_set_ne hv, ih]
      have e : (j ∈ v :: vs ∧ j < σ.length) = (j ∈ vs ∧ j < σ.length) := by
        rw [List.mem_cons]
        apply propext
        constructor
        · rintro ⟨h | h, h2⟩
          · exact absurd h.symm hv
          · exact ⟨h, h2⟩
        · rintro ⟨h, h2⟩
          exact ⟨Or.inr h, h2⟩
      simp only [e]
theorem wipe_agr {σ σ2 : L2.St} {pl vs : List Nat} (h : Agr pl (L2.wipe σ vs) σ2) (hs : ∀ i ∈ pl, i ∈ vs) : L2.wipe σ2 vs = L2.wipe σ vs := by
  apply List.ext_getElem?
  intro j
  have hl : σ2.length = σ.length := by rw [h.1, wipe_length]
  rw [wipe_get, wipe_get, hl]
  split
  · rfl
  · rename_i hj
    by_cases hm : j ∈ pl
    · have hv := hs j hm
      have hge : ¬ j < σ.length := fun z => hj ⟨hv, z⟩
      rw [List.getElem?_eq_none (by omega), List.getElem?_eq_none (by omega)]
    · rw [h.2 j hm, wipe_get, if_neg hj]
open Classical in
noncomputable def lcL (own : List Nat) (g : Gd) (t : GF) (c : TF) (m : EF) (ρ : En) : List P → M (List P)
  | [] => fun s => if gok g s then .ok [] s else .bad
  | x :: xs => fun s => if gok g s then bnd (t (.p x) (wipE ρ own)) (fun ρ1 => bnd (c ρ1) fun b => if b = true then bnd (m ρ1) (fun d => match d with
      | .p y => bnd (lcL own g t c m ρ xs) fun r => ret (y :: r)
      | .obj _ => bad) else lcL own g t c m ρ xs) s else .bad
noncomputable def lcE (fr : Bool) (i : IF) (own : List Nat) (t : GF) (c : TF) (m : EF) : EF := fun ρ => bnd (i ρ) fun xg s => if xg.1.length ≤ sizeLine then bnd (lcL own xg.2 t c m ρ xg.1) (mkL fr) s else .bad
def yesT : TF := fun _ s => .ok true s
/-- the tests of a comprehension -/
def STs (C : Cf) (sc : Scope) (N : List Str) (k : Nat) (ifs : List Expr) (m : TF) : Prop :=
  ∀ X, Cok C sc N k X → ∃ t, PTs X ifs t ∧ ∀ σ H W s ρ Q, ER C W H σ ρ → Abs C.K W s H → Good (m ρ s) (PoT C.K W H Q) → t σ H Q
theorem c_yes : STs C sc N k [] yesT := fun X ok => ⟨_, pts_nil, fun σ H W s ρ Q er A g => g W H Ev.rfl A⟩
theorem c_if {t : TF} (h : ST C sc N k e t) : STs C sc N k [e] t := fun X ok => by
  obtain ⟨u, p, q⟩ := h X ok
  exact ⟨_, pts_one p, q⟩
abbrev Bx := Shared × Hp × Addr × List (Str × Addr) × List Addr
abbrev inB (X : Cx) (scope : Scope) (i : Bx) : Cx := X.blk i.1 i.2.1 scope (compEnvC scope i.2.2.2.1 i.2.2.1 X.env) i.2.2.2.2
theorem free_relS {sc : Scope} : ∀ {names : List (Str × NameKind)} {x : Str}, names.lookup x = some .free →
    (names.map fun (n, k) => if (k == NameKind.free && sc.kind == .function && sc.names.lookup n == some .cell) then (n, NameKind.cell) else (n, k)).lookup x = some .cell ∨
    (names.map fun (n, k) => if (k == NameKind.free && sc.kind == .function && sc.names.lookup n == some .cell) then (n, NameKind.cell) else (n, k)).lookup x = some .free
  | [], _, h => by simp at h
  | (n, k0) :: r, x, h => by
    have ih := @free_relS sc r x
    rw [List.map_cons]
    cases hx : x == n with
    | true =>
      simp only [List.lookup_cons, hx] at h
      cases h
      dsimp only
      split
      · exact Or.inl (by simp only [List.lookup_cons, hx])
      · exact Or.inr (by simp only [List.lookup_cons, hx])
    | false =>
      simp only [List.lookup_cons, hx] at h
      dsimp only
      split
      · simp only [List.lookup_cons, hx]
        exact ih h
      · simp only [List.lookup_cons, hx]
        exact ih h
theorem blk_lik {es : Scope} {own : List (Str × Nat)} (h : BlkOk N sc scope own) (l : Lik sc es) : BlkOk N es scope own :=
  ⟨h.kind, h.uniq, h.ix, fun y hy e => by
    rcases h.free y hy e with z | z
    · exact Or.inl (l.cel _ z)
    · exact l.fre _ z, h.own⟩
theorem blk_ok {X : Cx} (ok : Cok C sc N k X) (i : Bx) : Cok C scope N k (inB X scope i) where
  pr := ok.pr
  ew := ok.ew
  eK := ok.eK
  em := ok.em
  eb := ok.eb
  calm := ok.calm
  rm := ok.rm
  gd := ok.gd
  nN := ok.nN
  nd := ok.nd
  eL := {
    loc := fun x h => lookup_relS_keep (by decide) h
    cel := fun x h => lookup_relS_keep (by decide) h
    fre := fun x h => free_relS h
    glo := fun x h => lookup_relS_keep (by decide) h }
  po := PassesOwn.never
  fc := fun x h => by
    show (scope.names.lookup x == some .cell) = true
    rw [h]
    rfl
  cq := ok.cq
theorem uni_e {X : Cx} (ok : Cok C sc N k X) (h : SE C scope N k e m) : ∃ t, (∀ i, PE (inB X scope i) e t) ∧ ∀ σ H W s ρ Q, ER C W H σ ρ → Abs C.K W s H → Good (m ρ s) (Po C.K W H Q) → t σ H Q := by
  have hb := fun i => h (inB X scope i) (blk_ok ok i)
  exact ⟨fun σ H Q => ∀ i, Classical.choose (hb i) σ H Q, fun i => ⟨fun pins s σ H Q I w => (Classical.choose_spec (hb i)).1.run pins s σ H Q I (w i)⟩, fun σ H W s ρ Q er A g i => (Classical.choose_spec (hb i)).2 σ H W s ρ Q er A g⟩
theorem uni_t {X : Cx} {c : TF} (ok : Cok C sc N k X) (h : STs C scope N k ifs c) : ∃ t, (∀ i, PTs (inB X scope i) ifs t) ∧ ∀ σ H W s ρ Q, ER C W H σ ρ → Abs C.K W s H → Good (c ρ s) (PoT C.K W H Q) → t σ H Q := by
  have hb := fun i => h (inB X scope i) (blk_ok ok i)
  exact ⟨fun σ H Q => ∀ i, Classical.choose (hb i) σ H Q, fun i => ⟨fun pins s σ H Q I w => (Classical.choose_spec (hb i)).1.run pins s σ H Q I (w i)⟩, fun σ H W s ρ Q er A g i => (Classical.choose_spec (hb i)).2 σ H W s ρ Q er A g⟩
theorem uni_g {X : Cx} {g : GF} {pl : List Nat} (ok : Cok C sc N k X) (h : SG C scope N k tg g pl) : ∃ t, (∀ i, PG (inB X scope i) tg t) ∧ ∀ v d σ H W s ρ Q, DV C.K W H v d → ER C W H σ ρ → Abs C.K W s H → Good (g d ρ s) (PoG C W H pl σ Q) → t v σ H Q := by
  have hb := fun i => h (inB X scope i) (blk_ok ok i)
  exact ⟨fun v σ H Q => ∀ i, Classical.choose (hb i) v σ H Q, fun i => ⟨fun pins s σ H v u Q I r w => (Classical.choose_spec (hb i)).1.run pins s σ H v u Q I r (w i)⟩, fun v d σ H W s ρ Q r er A g i => (Classical.choose_spec (hb i)).2 v d σ H W s ρ Q r er A g⟩
theorem upd_id {H : Hp} {p : Addr} {o : HO} (h : H p = some o) : upd H p o = H := by
  funext b
  by_cases e : b = p
  · rw [e, upd_same, h]
  · rw [upd_ne e]
theorem lc_go {i : IF} {own : List Nat} {pl : List Nat} {t : GF} {c : TF} {fr : Bool} {ti : TI} {tt : TG} {tc : TT} {te : TE} {σ : L2.St} {H : Hp} {W : Wd} {s : S} {ρ : En} {Q : VK}
    (q : ∀ σ H W s ρ (R : It → Hp → Prop), ER C W H σ ρ → Abs C.K W s H → Good (i ρ s) (fun xg s' => ∀ W' H' J, Ev W H W' H' → Abs C.K W' s' H' → ItOk C.K J W' H' xg.1 xg.2 → R J H') → ti σ H R)
    (q1 : ∀ v d σ H W s ρ Q, DV C.K W H v d → ER C W H σ ρ → Abs C.K W s H → Good (t d ρ s) (PoG C W H pl σ Q) → tt v σ H Q) (hpl : ∀ i ∈ pl, i ∈ own)
    (q2 : ∀ σ H W s ρ Q, ER C W H σ ρ → Abs C.K W s H → Good (c ρ s) (PoT C.K W H Q) → tc σ H Q) (q3 : ∀ σ H W s ρ Q, ER C W H σ ρ → Abs C.K W s H → Good (m ρ s) (Po C.K W H Q) → te σ H Q)
    (er : ER C W H σ ρ) (A : Abs C.K W s H) (g : Good (lcE fr i own t c m ρ s) (Po C.K W H Q)) : tLc ti tt tc te own σ H Q := by
  refine q σ H W s ρ _ er A ((Good.bnd g).mono fun xg s1 z W1 H1 J e1 A1 io => ?_)
  obtain ⟨xs, gd⟩ := xg
  have z : Good (if xs.length ≤ sizeLine then bnd (lcL own gd t c m ρ xs) (mkL fr) s1 else .bad) (Po C.K W H Q) := z
  split at z
  · rename_i hsz
    intro D hD
    have io : ItOk C.K J W1 H1 xs gd := io
    have nD1 : ¬ W1.fr D := fun z => A1.ft D z hD
    have nD2 : D ∉ W1.io := fun z => A1.tr D z hD
    have nD3 : ¬ W1.pv D := fun z => A1.pn z hD
    refine ⟨fun i m' H' => ∃ W' s' acc ys, Ev W1 H1 W' H' ∧ ¬ W'.fr D ∧ D ∉ W'.io ∧ ¬ W'.pv D ∧ W'.ow D = none ∧ H' D = some (.lst acc) ∧ PVs C.K W'.fr H' acc ys ∧ Abs C.K W' s' H' ∧ i + m' = xs.length ∧ ys.length ≤ i ∧
      Good (lcL own gd t c m ρ (xs.drop i) s') (fun r s2 => Good (mkL fr (ys ++ r) s2) (Po C.K W' H' Q)), ⟨xs.length, W1, s1, [], [], Ev.new hD, nD1, nD2, nD3, A1.nw hD, upd_same, .nil, A1.new hD, by simp, Nat.le_refl _, ?_⟩, ?_⟩
    · exact (Good.bnd z).mono fun r s2 w => Good.mono w fun _ _ w2 => w2.up (e1.trans (Ev.new hD))
    rintro i m' H2 ⟨W2, s2, acc, ys, e2, f1, f2, f3, f4, hd, ra, A2, hm, hy, g2⟩
    have hid : Ev W2 H2 (W2.hide D) H2 := Ev.hide
    have Ah : Abs C.K (W2.hide D) s2 H2 := A2.hide ⟨_, hd⟩ f1 f2 f4
    by_cases hi : i < xs.length
    · rw [List.drop_eq_getElem_cons hi] at g2
      unfold lcL at g2
      split at g2
      · rename_i gk
        obtain ⟨hgo, hyl⟩ := (io (W2.hide D) H2 s2 (e2.trans hid) Ah gk i).1 xs[i] (List.getElem?_eq_getElem hi)
        refine Or.inr ⟨hgo, fun H' => ∃ W' s' acc ys, Ev W1 H1 W' H' ∧ ¬ W'.fr D ∧ D ∉ W'.io ∧ ¬ W'.pv D ∧ W'.ow D = none ∧ H' D = some (.lst acc) ∧ PVs C.K W'.fr H' acc ys ∧ Abs C.K W' s' H' ∧ ys.length ≤ i + 1 ∧
          Good (lcL own gd t c m ρ (xs.drop (i + 1)) s') (fun r s2 => Good (mkL fr (ys ++ r) s2) (Po C.K W' H' Q)), ?_, fun v H3 hv => ?_⟩
        · rintro H' ⟨W', s', acc', ys', b1, b2, b3, b4, b4o, b5, b6, b7, b8, b9⟩
          exact ⟨m' - 1, by omega, W', s', acc', ys', b1, b2, b3, b4, b4o, b5, b6, b7, by omega, b8, b9⟩
        · obtain ⟨e3, r3, A3⟩ := hyl v H3 hv
          have er3 : ER C (W2.hide D) H3 (L2.wipe σ own) (wipE ρ own) := ER.wip (er.up (e1.trans (e2.trans (hid.trans e3)))) own
          refine q1 v _ _ H3 _ s2 _ _ (show DV C.K (W2.hide D) H3 v (.p xs[i]) from r3) er3 A3 ((Good.bnd g2).mono fun ρ1 s4 z4 W4 H4 σ4 e4 er4 A4 ag => ?_)
          refine ⟨wipe_agr ag hpl, q2 σ4 H4 W4 s4 ρ1 _ er4 A4 ((Good.bnd z4).mono fun bb s5 z5 W5 H5 e5 A5 => ?_)⟩
          cases bb with
          | true =>
            rw [if_pos rfl] at z5
            refine iteT (q3 σ4 H5 W5 s5 ρ1 _ (er4.up e5) A5 ((Good.bnd z5).mono fun d s6 z6 W6 H6 y e6 r6 A6 => ?_))
            have e36 : Ev (W2.hide D) H2 W6 H6 := e3.trans (e4.trans (e5.trans e6))
            have hd6 : H6 D = some (.lst acc) := e36.pk D _ (Or.inr rfl) hd
            have pp : W6.pv D := e36.pv D (Or.inr rfl)
            cases d with
            | obj n => exact z6.elim
            | p y' =>
              have hal : acc.length < sizeLine := by rw [ra.len]; omega
              have ev : Ev W2 H2 (W6.show D) (upd H6 D (.lst (acc ++ [y]))) := Ev.grow e36 f3 A6 ⟨acc, hd6⟩
              obtain ⟨ev6, A7⟩ := Abs.grow (u := .lst (acc ++ [y])) A6 pp ⟨acc, hd6⟩
              have r6' : PV C.K (W6.show D).fr H6 y y' := r6
              refine ⟨acc, hd6, hal, W6.show D, s6, acc ++ [y], ys ++ [y'], e2.trans ev, (A6.pd D pp).2.1, (A6.pd D pp).2.2, fun z => z.2 rfl, A6.npo pp, upd_same, (PVs.up ev ra).app (.cons (PV.up ev6 r6') .nil), A7, by rw [List.length_append]; simp only [List.length_singleton]; omega, ?_⟩
              refine (Good.bnd z6).mono fun r s7 w => ?_
              rw [List.append_assoc]
              exact Good.mono w fun _ _ w2 => w2.up ev
          | false =>
            rw [if_neg Bool.false_ne_true] at z5
            refine iteF ?_
            have e35 : Ev (W2.hide D) H2 W5 H5 := e3.trans (e4.trans e5)
            have hd5 : H5 D = some (.lst acc) := e35.pk D _ (Or.inr rfl) hd
            have pp : W5.pv D := e35.pv D (Or.inr rfl)
            have ev : Ev W2 H2 (W5.show D) (upd H5 D (.lst acc)) := Ev.grow e35 f3 A5 ⟨acc, hd5⟩
            obtain ⟨ev5, A7⟩ := Abs.grow (u := .lst acc) A5 pp ⟨acc, hd5⟩
            rw [upd_id hd5] at ev A7
            exact ⟨W5.show D, s5, acc, ys, e2.trans ev, (A5.pd D pp).2.1, (A5.pd D pp).2.2, fun z => z.2 rfl, A5.npo pp, hd5, PVs.up ev ra, A7, by omega, Good.mono z5 fun _ _ w => Good.mono w fun _ _ w2 => w2.up ev⟩
      · exact g2.elim
    · rw [List.drop_eq_nil_of_le (Nat.le_of_not_lt hi)] at g2
      unfold lcL at g2
      split at g2
      · rename_i gk
        have g3 : Good (mkL fr (ys ++ []) s2) (Po C.K W2 H2 Q) := g2
        rw [List.append_nil] at g3
        exact Or.inl ⟨(io W2 H2 s2 e2 A2 gk i).2 (show xs.length = i by omega), own_go A2 hd f1 f2 f3 f4 ra g3⟩
      · exact g2.elim
  · exact z.elim
theorem s_lc (fr : Bool) (own : List (Str × Nat)) {i : IF} {t : GF} {c : TF} {pl : List Nat} (hi : SI C sc N k tg iter i) (hg : SG C scope N k tg t pl) (ht : STs C scope N k ifs c) (he : SE C scope N k elt m) (hpl : ∀ i ∈ pl, i ∈ own.map (·.2) := by decide)
    (bk : blkC N sc scope own = true := by decide +kernel) (hs : ∀ env x, foldedSetIterable iter env x = pure x := by intro _ _; rfl) : SE C sc N k (.ListComp elt [⟨tg, iter, ifs, 0⟩] scope pos) (lcE fr i (own.map (·.2)) t c m) := fun X ok => by
  obtain ⟨ti, p, q⟩ := hi X ok
  obtain ⟨tt, p1, q1⟩ := uni_g ok hg
  obtain ⟨tc, p2, q2⟩ := uni_t ok ht
  obtain ⟨te, p3, q3⟩ := uni_e ok he
  refine ⟨_, pe_lc ok.calm (by rw [ok.nN]; exact ok.nd) p (by rw [ok.nN]; exact blk_lik (blkOk_by bk) ok.eL) (fun s H C cl fp => p1 (s, H, C, cl, fp)) (fun s H C cl fp => p2 (s, H, C, cl, fp)) (fun s H C cl fp => p3 (s, H, C, cl, fp)) (hs X.env), fun σ H W s ρ Q er A g => ?_⟩
  exact lc_go q q1 hpl q2 q3 er A g
/-- y = [..] on one line -/
theorem x_lc (j : Nat) (fr : Bool) (own : List (Str × Nat)) {y : Str} {py spos : Pos} {i : IF} {t : GF} {c : TF} {pl : List Nat} (hi : SI C sc N k tg iter i) (hg : SG C scope N k tg t pl) (ht : STs C scope N k ifs c) (he : SE C scope N k elt m) (hy : N[j]? = some y := by rfl)
    (hyl : sc.names.lookup y = some .local := by rfl) (hk : sc.kind = .function := by rfl) (hl : (py.line == pos.line) = true := by rfl) (hn : (scope.names.any fun (n, k) => n == y && (k == .local || k == .cell)) = false := by decide +kernel)
    (hpl : ∀ i ∈ pl, i ∈ own.map (·.2) := by decide) (bk : blkC N sc scope own = true := by decide +kernel) (hs : ∀ env x, foldedSetIterable iter env x = pure x := by intro _ _; rfl) :
    SS C sc N k (.Assign [.Name y py] (.ListComp elt [⟨tg, iter, ifs, 0⟩] scope pos) spos) (asgF (lcE fr i (own.map (·.2)) t c m) (setG j)) := fun X ok => by
  obtain ⟨ti, p, q⟩ := hi X ok.toCok
  obtain ⟨tt, p1, q1⟩ := uni_g ok.toCok hg
  obtain ⟨tc, p2, q2⟩ := uni_t ok.toCok ht
  obtain ⟨te, p3, q3⟩ := uni_e ok.toCok he
  refine ⟨_, ps_setLc (i := j) ok.calm (by rw [ok.nN]; exact ok.nd) (by rw [ok.nN]; exact hy) (by rw [ok.eS]; exact hyl) (sw_true (by rw [ok.eS]; exact hk) (by rw [ok.eS]; exact hyl) hl hn) p (by rw [ok.nN]; exact blk_lik (blkOk_by bk) ok.eL) (fun s H C cl fp => p1 (s, H, C, cl, fp)) (fun s H C cl fp => p2 (s, H, C, cl, fp))
    (fun s H C cl fp => p3 (s, H, C, cl, fp)) (hs X.env), fun D σ H W s ρ er A g => ?_⟩
  refine lc_go q q1 hpl q2 q3 er A ((Good.bnd g).mono fun d s1 z W1 H1 v e1 r1 A1 => ?_)
  exact z W1 H1 _ e1 ((er.up e1).put r1 j) A1
/-- a def whose defaults don't matter -/
structure FunA (K : PySem.W.Frag) (x qual : Str) (st : Stmt) (f : Addr) (fd : FuncData) (dV : Value) : Prop where
  ex : ∃ (oc : Value) (od : Option Addr) (kV doc pm : Value) (an : Option Addr) (cdv ct : Value) (osl : Array (Option Value)),
    fd = PySem.W.fnOf x qual (defArgs st) (defBody st) (defScope st) dV kV doc pm an cdv ct ∧ K.lookup f = some ⟨oc, od, .func fd, osl⟩ ∧ PySem.W.codeIn K cdv qual = true
  kp : PySem.W.keepIn K (.ref f) = true
theorem FunA.of {K : PySem.W.Frag} {x qual : Str} {st : Stmt} {f : Addr} {fd : FuncData} (F : Fun K x qual st f fd) : FunA K x qual st f fd .none := ⟨F.ex, F.kp⟩
open Classical in
/-- what is left of the state behind a def -/
noncomputable def fin (s : S) : D → M D
  | .p x, s' => if Keeps s s' then .ok (.p x) (s'.take s.length) else .bad
  | .obj n, s' => if n < s.length then (if Keeps s s' then .ok (.obj n) (s'.take s.length) else .bad) else .ok (.obj n) s'
noncomputable def defM (n nl : Nat) (m : SF) : List D → M D := fun ds s => if ds.length = n then (match m (ds.map some ++ List.replicate (nl - n) none) s with
  | .ok (.rt d) s' => fin s d s'
  | .ok (.nx _) s' => fin s (.p .non) s'
  | .exn c s' => .exn c s'
  | _ => .bad) else .bad
open Classical in
theorem fin_go {W W' : Wd} {H H' : Hp} {s s' : S} {d : D} {v : V} {Q : VK} (A : Abs C.K W s H) (e : Ev W H W' H') (r : DV C.K W' H' v d) (A' : Abs C.K W' s' H') (g : Good (fin s d s') (Po C.K W H Q)) : Q v H' := by
  cases d with
  | p x =>
    have g : Good (if Keeps s s' then .ok (.p x) (s'.take s.length) else .bad) (Po C.K W H Q) := g
    by_cases hk : Keeps s s'
    · rw [if_pos hk] at g
      exact g _ H' v e.cut (show DV C.K ⟨W.io, W'.fr, W'.pv, W'.tb, W'.ow⟩ H' v (.p x) from r) (A.cut e A' hk)
    · rw [if_neg hk] at g
      exact g.elim
  | obj n =>
    have g : Good (if n < s.length then (if Keeps s s' then .ok (.obj n) (s'.take s.length) else .bad) else .ok (.obj n) s') (Po C.K W H Q) := g
    by_cases hn : n < s.length
    · rw [if_pos hn] at g
      by_cases hk : Keeps s s'
      · rw [if_pos hk] at g
        obtain ⟨q, hq⟩ := e.io
        refine g _ H' v e.cut (DV.old (n := 0) r hq fun m hm => ?_) (A.cut e A' hk)
        cases hm
        rw [A.len]
        exact hn
      · rw [if_neg hk] at g
        exact g.elim
    · rw [if_neg hn] at g
      exact g W' H' v e r A'
theorem start_er {W : Wd} {H : Hp} {vs : List V} {ds : List D} {n : Nat} (r : DVs C.K W H vs ds) (hT : W.tb = C.tb) (hl : vs.length = n) : ER C W H (L2.start N vs) (ds.map some ++ List.replicate (N.length - n) none) := by
  have h1 := Paired.length r
  unfold L2.start
  refine ⟨by simp only [List.length_append, List.length_map, List.length_replicate, h1, ← hl], fun i d hd => ?_, hT⟩
  by_cases hi : i < ds.length
  · rw [List.getElem?_append_left (by simpa using hi), List.getElem?_map, List.getElem?_eq_getElem hi] at hd
    have hd' : ds[i] = d := Option.some.inj (Option.some.inj hd)
    rw [List.getElem?_append_left (by rw [List.length_map]; omega), List.getElem?_map]
    have key : ∀ {vs : List V} {ds : List D} {i : Nat} {d : D}, DVs C.K W H vs ds → ds[i]? = some d → ∃ v, vs[i]? = some v ∧ DV C.K W H v d := by
      intro vs ds i d hr
      induction hr generalizing i with
      | nil => intro z; simp at z
      | cons hh _ ih =>
        intro z
        cases i with
        | zero =>
          simp at z
          subst z
          exact ⟨_, rfl, hh⟩
        | succ i =>
          obtain ⟨v, a1, a2⟩ := ih (by simpa using z)
          exact ⟨v, by simpa using a1, a2⟩
    obtain ⟨v, a1, a2⟩ := key r (List.getElem?_eq_getElem hi)
    exact ⟨v, by rw [a1]; rfl, by rw [← hd']; exact a2⟩
  · rw [List.getElem?_append_right (by simpa using Nat.le_of_not_lt hi), List.getElem?_replicate] at hd
    split at hd <;> cases hd
theorem fn_body {x qual : Str} {st : Stmt} {f : Addr} {fd : FuncData} {dV : Value} {ps : List Str} {m : SF} (F : FunA C.K x qual st f fd dV) (Sc : FnScope N ps (defScope st)) (hb : SB C (defScope st) N k (defBody st) m) (hX : C.ex = fun _ => True) (hq : ∀ v q, C.cq = some (v, q) → v = fd.code ∧ q = qual ++ ".<locals>.") : Fn C (k + 1) f fd ps (spM C ps.length (defM ps.length N.length m)) := by
  obtain ⟨oc, od, kV, doc, pm, an, cdv, ct, osl, rfl, lk, hcd⟩ := F.ex
  refine ⟨fun vs H Q E h => h.1, fun A outer s H args us vs Q E hr hgd e0 bd r hsp => ?_⟩
  have hl : vs.length = ps.length := hsp.1
  have kin : C.K.In s.heap := e0.mod.kin.keeps fun b o e => (e0.bs b o e).1
  have lim : s.heap.NoLimit := e0.mod.nolimit.keeps fun b o e => (e0.bs b o e).1
  refine codeAny_call_function hr.depth (kin _ _ lk) rfl Sc.co Sc.gen rfl (PySem.W.codeRec_of kin hcd) (bd _ _ _ _ ?_)
  refine wpAny_newFunctionEnv_cells Sc.kind (fun y hy => ?_) fun env he s1 ic => ?_
  · rcases Sc.par y.1 (List.of_mem_zip (show (y.1, y.2) ∈ ps.zip us from hy)).1 with q | q
    · exact Or.inl q
    · exact Or.inr ⟨q, PySem.W.cellsFrom_some _ _ _ (Or.inl q)⟩
  · subst he
    refine ⟨lim.keeps ic.toInCall.keep, codeAny_func ?_⟩
    have I : Inv (cxOf CX0 C.pg C.w C.K C.mg C.base N qual (defScope st) f cdv A outer s H E) [] (L2.start N vs) H s1 := inv_start Sc hr.hd e0 hl r ic
    have cod : Cod C (defScope st) N k (cxOf CX0 C.pg C.w C.K C.mg C.base N qual (defScope st) f cdv A outer s H E).nox :=
      { pr := rfl, ew := rfl, eK := rfl, em := rfl, eb := rfl, calm := rfl, rm := hr.deeper _, gd := hgd, nN := rfl, nd := Sc.nd, eL := Lik.rfl, po := PassesOwn.never, fc := fun _ _ => rfl, eS := rfl, sk := rfl, fm := rfl, nx := rfl, cx := by rw [hX]; trivial, cq := fun v q h => ⟨(hq v q h).1.symm, (hq v q h).2.symm⟩ }
    obtain ⟨t, p, q⟩ := hb _ cod
    obtain ⟨_, W, s0, ds, rd, hT, A0, g⟩ := hsp
    have hds : ds.length = ps.length := by rw [← Paired.length rd]; exact hl
    unfold defM at g
    rw [if_pos hds] at g
    have end_ : ∀ {d : D} {s' : S}, Good (fin s0 d s') (Po C.K W H Q) → Po C.K W H Q d s' := fun {d s'} h W' H' v e rv A' => fin_go A0 e rv A' h
    have run := q { nx := fun _ H' => Q .non H', rt := Q } (L2.start N vs) H W s0 _ (start_er rd hT hl) A0 (by
      cases e : m (ds.map some ++ List.replicate (N.length - ps.length) none) s0 with
      | bad =>
        rw [e] at g
        exact g
      | exn _ _ =>
        rw [e] at g
        exact g
      | ok fl s' =>
        rw [e] at g
        cases fl with
        | rt d => exact end_ g
        | nx ρ => exact fun W' H' σ' ev er A' => end_ (d := .p .non) g W' H' .non ev PV.non A'
        | bk ρ => exact g.elim
        | ct ρ => exact g.elim)
    refine wpAny_mono (p.nox.run [] s1 (L2.start N vs) H _ I run) (fun fl s' hs => ?_) fun e s' hs => hs
    have done : ∀ {σ' : L2.St} {H' : Hp} {v : V} {u : Value}, Inv (cxOf CX0 C.pg C.w C.K C.mg C.base N qual (defScope st) f cdv A outer s H E) [] σ' H' s' → RelV v u → Q v H' → CE outer C.pg C.w H s Q u s' :=
      fun {σ' H' v u} J rv w => ⟨v, H', J.os, J.bare, J.base, J.hok, rv, w⟩
    match fl, hs with
    | .ret u, ⟨v, σ', H', J, rv, w⟩ => exact done J rv w
    | .next, ⟨σ', H', J, w⟩ => exact done (v := V.non) (u := Value.none) J rfl w
    | .brk, ⟨_, _, _, w⟩ => exact False.elim w
    | .cont, ⟨_, _, _, w⟩ => exact False.elim w
end
/-- the setting of a law's defs -/
abbrev cfL (P : Program) (w : World) (K : PySem.W.Frag) (mg : Str → Option Value) (base : Heap) (tb : List (Addr × Str)) : Cf := ⟨P, w, K, mg, base, true, fun _ => True, tb, none⟩
/-- the defs that make lambdas: code object, table, the lambdas' name -/
abbrev Mks := List (Addr × Addr × Str)
def Mks.tb (ms : Mks) : List (Addr × Str) := ms.map (·.2)
structure MkK (K : PySem.W.Frag) (ms : Mks) : Prop where
  hd : ∀ p ∈ ms, PySem.W.codeHdIn K p.1 p.2.1 = true
  no : ∀ p ∈ ms, K.lookup p.2.1 = none
def TabF (ms : Mks) (mg : Str → Option Value) (base : Heap) : Prop := ∀ p ∈ ms, LamX.TabB base mg p.1 p.2.1
section
variable {P₀ : Program} {w : World} {K : PySem.W.Frag} {mg mb : Str → Option Value}
/-- one way that the script may lie -/
theorem law_way {k : Nat} {fa a : Addr} {fd : FuncData} {x : Str} {m : List D → M D} {s1 : Shared} {ns : List Int} {H : Hp} {ms : Mks} (KX : K.In s1.heap) (hns : s1.heap.Ns mainGlobals mg) (hb : s1.heap.Ns builtinsNs mb) (hbb : ∀ x : Str, x ≠ "__name__" → mb x = bootBuiltins x)
    (hlim : s1.heap.NoLimit) (hg : s1.gens = #[]) (hr : Room k callerA) (MK : MkK K ms) (hT : ∀ p ∈ ms, s1.heap.get? p.2.1 = some (PySem.W.tabObj #[]))
    (hbm : ∃ (bm : Addr) (ob : Obj), mg "__builtins__" = some (.ref bm) ∧ bm ≠ builtinsNs ∧ s1.heap.get? bm = some ob ∧ ob.cls = .type "module" ∧ ob.dict = some builtinsNs ∧ ob.data = .plain)
    (F : ∀ base : Heap, TabF ms mg base → Fn (cfL P₀ w K mg base ms.tb) k fa fd [x] (spM (cfL P₀ w K mg base ms.tb) 1 m)) (hbind : ∀ (s : Shared) (u : Value), BindsTo s fd ⟨[u], []⟩ [(x, u)])
    (hm : ∃ s', m [.p (.con (ns.map P.int))] [] = .ok (.p (.bl true)) s') (hS : CS K H a (ns.map V.int)) (hok : HOk P₀ w H s1.heap) (hHt : ∀ p ∈ ms, H p.2.1 = some (.tbl #[]))
    (hH : ∀ b u, H b = some u → K.lookup b = none ∧ ((∃ o xs vs n, u = .frz o (.lst xs) ∧ s1.heap.get? b = some o ∧ o.data = .seq vs n) ∨ (u = .tbl #[] ∧ ∃ p ∈ ms, p.2.1 = b))) :
    codeAny (model P₀ w) callerA (.call (.ref fa) ⟨[.ref a], []⟩) (fun r s' => r = .ok (.ret (.bool true)) ∧ OldK s1.heap s'.heap ∧ s'.os = s1.os ∧ AllBare s'.gens) s1 := by
  have what : ∀ {b : Addr} {u : HO}, H b = some u → ∃ o, s1.heap.get? b = some o ∧ ((∃ vs n, o.data = .seq vs n) ∨ o.data = .fields #[]) := fun {b u} z => by
    rcases (hH b u z).2 with ⟨o, _, vs, n, _, e, d⟩ | ⟨_, p, hp, rfl⟩
    · exact ⟨o, e, Or.inl ⟨vs, n, d⟩⟩
    · exact ⟨_, hT p hp, Or.inr rfl⟩
  have off : ∀ {b : Addr} {o : Obj}, s1.heap.get? b = some o → (∀ vs n, o.data ≠ .seq vs n) → o.data ≠ .fields #[] → H b = none := fun {b o} e h1 h2 => by
    cases z : H b with
    | none => rfl
    | some u =>
      obtain ⟨o', e', d⟩ := what z
      rw [e] at e'
      cases e'
      rcases d with ⟨vs, n, d⟩ | d
      · exact (h1 vs n d).elim
      · exact (h2 d).elim
  have stay : ∀ {b : Addr} {o : Obj}, s1.heap.get? b = some o → H b = none → (hidT s1.heap H).get? b = some o := fun e n => hidT_get e n
  have nsd : ∀ {b : Addr} {q : Str → Option Value}, s1.heap.Ns b q → (hidT s1.heap H).Ns b q := fun {b q} h => by
    obtain ⟨o, es, ep, e, d, r⟩ := h
    exact ⟨o, es, ep, stay e (off e (fun vs n z => by rw [d] at z; cases z) fun z => by rw [d] at z; cases z), d, r⟩
  have kin : K.In (hidT s1.heap H) := fun b o e => stay (KX b o e) (by
    cases z : H b with
    | none => rfl
    | some u =>
      rw [(hH b u z).1] at e
      cases e)
  have hM : Mod K mg (hidT s1.heap H) := ⟨kin, nsd hns, ⟨mb, nsd hb, hbb⟩, by
    obtain ⟨mc, h1, h2⟩ := hlim
    exact ⟨mc, nsd h1, h2⟩⟩
  have tabs : TabF ms mg (hidT s1.heap H) := fun p hp => by
    refine ⟨PySem.W.codeHd_of_K kin (MK.hd p hp), ?_, fun z => ?_⟩
    · obtain ⟨bm, ob, b1, b2, b3, b4, b5, b6⟩ := hbm
      refine ⟨bm, ob, b1, b2, fun z => ?_, fun z => ?_, stay b3 (off b3 (fun vs n z => by rw [b6] at z; cases z) fun z => by rw [b6] at z; cases z), b4, b5, b6⟩
      · obtain ⟨o, es, ep, e, d, _⟩ := hns
        rw [z, e] at b3
        cases b3
        rw [d] at b6
        cases b6
      · rw [z, hT p hp] at b3
        cases b3
        cases b6
    · obtain ⟨o, es, ep, e, d, _⟩ := hns
      rw [z, hT p hp] at e
      cases e
      cases d
  have e0 : Env0 P₀ w K mg (hidT s1.heap H) callerA [] s1 H :=
    { frames := rfl, mod := hM, bs := fun b o e => of_hidT e, bsz := Nat.le_of_eq (hidT_size _ _), funs := trivial, frf := fun b h => (nomatch h), hok := hok, bare := .of_eq hg }
  obtain ⟨s', hs'⟩ := hm
  have sp : ∀ base, spM (cfL P₀ w K mg base ms.tb) 1 m [.ref a] H (fun v _ => v = .bl true) E0 := fun base => by
    refine ⟨rfl, ⟨[], fun _ => False, fun _ => False, ms.tb, fun _ => none⟩, [], [.p (.con (ns.map P.int))], .cons (PV.con hS (PVs.ints ns)) .nil, rfl, ⟨rfl, List.nodup_nil, fun _ h => (nomatch h), fun _ h => h.elim, fun n o h => by simp at h, fun _ h => h.elim, fun q hq => ?_, fun _ _ _ => ⟨fun z => z, fun z => z, fun z => nomatch z⟩, fun _ _ h => nomatch h⟩, ?_⟩
    · obtain ⟨p, hp, rfl⟩ := List.mem_map.mp hq
      exact LamX.TabS.nil (hHt p hp)
    · rw [hs']
      intro W' H' v _ r _
      cases r
      rfl
  refine codeAny_mono ((F _ tabs).run callerA [] s1 H ⟨[.ref a], []⟩ [.ref a] [.ref a] _ _ hr (fun _ => rfl) e0 (hbind s1 (.ref a)) (.cons rfl .nil) (sp _)) fun r s2 h => ?_
  match r, h with
  | .error _, h => exact h.elim
  | .ok (.ret u), ⟨v, H', os, bare, un, hok', rv, q⟩ =>
    have q' : v = .bl true := q
    subst q'
    obtain rfl : u = Value.bool true := rv
    have grown : ∀ p ∈ ms, ∃ more : Array Value, s2.heap.get? p.2.1 = some (PySem.W.tabObj more) := fun p hp => by
      obtain ⟨more, z⟩ := un.tbls p.2.1 #[] (hHt p hp)
      exact ⟨_, hok' p.2.1 _ z⟩
    have same : ∀ b o, s1.heap.get? b = some o → (∀ p ∈ ms, p.2.1 ≠ b) → s2.heap.get? b = some o := fun b o e nt => by
      cases z : H b with
      | none => exact un.keep b o e z (fun h => by cases h) (fun h => by cases h)
      | some u =>
        rcases (hH b u z).2 with ⟨o', xs, vs, n, rfl, e', _⟩ | ⟨_, p, hp, e2⟩
        · rw [e] at e'
          cases e'
          exact (hok' b _ (un.frzs b _ _ z)).1
        · exact (nt p hp e2).elim
    refine ⟨rfl, ⟨fun b o e => ?_, fun b o e => ?_⟩, os, bare⟩
    · by_cases hb : ∃ p ∈ ms, p.2.1 = b
      · obtain ⟨p, hp, rfl⟩ := hb
        obtain ⟨more, hm⟩ := grown p hp
        rw [hT p hp] at e
        cases e
        exact Or.inr (Or.inl ⟨((PySem.W.codeHd_of_K KX (MK.hd p hp)).tab (hT p hp)).isCodeTable, rfl, #[], more, rfl, by rw [Array.empty_append]; exact hm⟩)
      · exact Or.inl (same b o e fun p hp z => hb ⟨p, hp, z⟩)
    · by_cases hb : ∃ p ∈ ms, p.2.1 = b
      · obtain ⟨p, hp, rfl⟩ := hb
        obtain ⟨more, hm⟩ := grown p hp
        exact ⟨_, hm⟩
      · exact ⟨o, same b o e fun p hp z => hb ⟨p, hp, z⟩⟩
end
end CW
end
section
set_option maxRecDepth 100000
set_option maxHeartbeats 2000000
namespace CW
open PySem PySem.Spec PyProof.Rows L2
section
variable {C : Cf} {sc scope : Scope} {N : List Str} {k : Nat} {pos p2 p3 apos cpos : Pos} {e a b o tg iter elt : Expr} {m ma mb mo : EF} {es ifs : List Expr} {ms : List EF} {sts : List Stmt} {f : SF}
/-- from now on plain -/
def frz : D → M D := fun d s => match d with
  | .obj n => match s[n]? with
    | some (some (.lst xs)) => .ok (.p (.lst xs)) (s.set n none)
    | _ => .ok d s
  | d => .ok d s
def frzE (m : EF) : EF := fun ρ => bnd (m ρ) frz
theorem s_frz (h : SE C sc N k e m) : SE C sc N k e (frzE m) := fun X ok => by
  obtain ⟨t, p, q⟩ := h X ok
  refine ⟨t, p, fun σ H W s ρ Q er A g => ?_⟩
  refine q σ H W s ρ _ er A ((Good.bnd g).mono fun d s1 z W1 H1 v e1 r1 A1 => ?_)
  unfold frz at z
  split at z
  · split at z
    · rename_i hn
      obtain ⟨a, ha, rfl⟩ := r1
      obtain ⟨ev, A2, r2⟩ := A1.freeze hn ha
      exact z _ H1 _ (e1.trans ev) r2 A2
    · exact z W1 H1 v e1 r1 A1
  · exact z W1 H1 v e1 r1 A1
end
end CW
end
section
set_option maxRecDepth 100000
set_option maxHeartbeats 2000000
namespace CW
open PySem PySem.Spec PyProof.Rows L2
section
variable {ρ : En} {s s' : S} {xs : List P} {m ma mb mc : EF} {f g : SF} {t : TF}
def R.bind {α β : Type} (r : R α) (k : α → S → R β) : R β := match r with
  | .ok a s => k a s
  | .bad => .bad
  | .exn c s => .exn c s
@[simp] theorem R.bind_ok {α β : Type} (a : α) (k : α → S → R β) : R.bind (.ok a s) k = k a s := rfl
@[simp] theorem R.bind_bad {α β : Type} (k : α → S → R β) : R.bind .bad k = .bad := rfl
@[simp] theorem R.bind_exn {α β : Type} (c : Xc) (s : S) (k : α → S → R β) : R.bind (.exn c s) k = .exn c s := rfl
theorem bnd_ev {α β : Type} (m : M α) (k : α → M β) : bnd m k s = R.bind (m s) k := by
  unfold bnd R.bind
  cases m s <;> rfl
@[simp] theorem R.bind_ite {α β : Type} (c : Prop) [Decidable c] (a b : R α) (k : α → S → R β) : R.bind (if c then a else b) k = if c then R.bind a k else R.bind b k := by
  split <;> rfl
@[simp] theorem vE_0 (d : D) (r : En) : vE 0 (some d :: r) s = .ok d s := rfl
@[simp] theorem vE_s (i : Nat) (d : Option D) (r : En) : vE (i + 1) (d :: r) s = vE i r s := rfl
@[simp] theorem vE_1 (d : Option D) (r : En) : vE 1 (d :: r) s = vE 0 r s := rfl
@[simp] theorem vE_2 (d0 d1 : Option D) (r : En) : vE 2 (d0 :: d1 :: r) s = vE 0 r s := rfl
@[simp] theorem vE_3 (d0 d1 d2 : Option D) (r : En) : vE 3 (d0 :: d1 :: d2 :: r) s = vE 0 r s := rfl
@[simp] theorem vE_4 (d0 d1 d2 d3 : Option D) (r : En) : vE 4 (d0 :: d1 :: d2 :: d3 :: r) s = vE 0 r s := rfl
@[simp] theorem vE_5 (d0 d1 d2 d3 d4 : Option D) (r : En) : vE 5 (d0 :: d1 :: d2 :: d3 :: d4 :: r) s = vE 0 r s := rfl
@[simp] theorem vE_6 (d0 d1 d2 d3 d4 d5 : Option D) (r : En) : vE 6 (d0 :: d1 :: d2 :: d3 :: d4 :: d5 :: r) s = vE 0 r s := rfl
@[simp] theorem vE_7 (d0 d1 d2 d3 d4 d5 d6 : Option D) (r : En) : vE 7 (d0 :: d1 :: d2 :: d3 :: d4 :: d5 :: d6 :: r) s = vE 0 r s := rfl
@[simp] theorem vE_8 (d0 d1 d2 d3 d4 d5 d6 d7 : Option D) (r : En) : vE 8 (d0 :: d1 :: d2 :: d3 :: d4 :: d5 :: d6 :: d7 :: r) s = vE 0 r s := rfl
@[simp] theorem vE_9 (d0 d1 d2 d3 d4 d5 d6 d7 d8 : Option D) (r : En) : vE 9 (d0 :: d1 :: d2 :: d3 :: d4 :: d5 :: d6 :: d7 :: d8 :: r) s = vE 0 r s := rfl
@[simp] theorem cE_ev (x : P) : cE x ρ s = .ok (.p x) s := rfl
@[simp] theorem ret_ev {α : Type} (a : α) : ret a s = .ok a s := rfl
@[simp] theorem bad_ev {α : Type} : (bad : M α) s = .bad := rfl
@[simp] theorem op2_ev (g : D → D → M D) : op2 g ma mb ρ s = R.bind (ma ρ s) fun x s1 => R.bind (mb ρ s1) fun y s2 => g x y s2 := by
  unfold op2; rw [bnd_ev]; congr
@[simp] theorem op1_ev (g : D → M D) : op1 g ma ρ s = R.bind (ma ρ s) fun x s1 => g x s1 := by
  unfold op1; simp only [bnd_ev]
def tBk : D → M Bool := fun d => match d with
    | .p (.bl b) => ret b
    | _ => bad
@[simp] theorem tBk_bl (b : Bool) : tBk (.p (.bl b)) s = .ok b s := rfl
@[simp] theorem tB_ev : tB m ρ s = R.bind (m ρ s) tBk := by unfold tB; rw [bnd_ev]; rfl
@[simp] theorem tT_ev : tT m ρ s = R.bind (m ρ s) truD := by unfold tT; rw [bnd_ev]
@[simp] theorem truD_bl (b : Bool) : truD (.p (.bl b)) s = .ok b s := rfl
@[simp] theorem truD_int (i : Int) : truD (.p (.int i)) s = .ok (i != 0) s := rfl
@[simp] theorem truD_non : truD (.p .non) s = .ok false s := rfl
@[simp] theorem truD_tup (xs : List P) : truD (.p (.tup xs)) s = .ok (!xs.isEmpty) s := rfl
@[simp] theorem truD_lst (xs : List P) : truD (.p (.lst xs)) s = .ok (!xs.isEmpty) s := rfl
@[simp] theorem andT_ev (a b : TF) : andT a b ρ s = R.bind (a ρ s) fun c s1 => if c = true then b ρ s1 else .ok false s1 := by
  unfold andT; rw [bnd_ev]; congr; funext c s1; cases c <;> rfl
@[simp] theorem orT_ev (a b : TF) : orT a b ρ s = R.bind (a ρ s) fun c s1 => if c = true then .ok true s1 else b ρ s1 := by
  unfold orT; rw [bnd_ev]; congr; funext c s1; cases c <;> rfl
@[simp] theorem notT_ev (a : TF) : notT a ρ s = R.bind (a ρ s) fun c s1 => .ok (!c) s1 := by unfold notT; rw [bnd_ev]; rfl
@[simp] theorem ifE_ev : ifE t ma mb ρ s = R.bind (t ρ s) fun c s1 => if c = true then ma ρ s1 else mb ρ s1 := by
  unfold ifE; rw [bnd_ev]; congr; funext c s1; cases c <;> rfl
def andk (k : M D) : D → M D := fun d => match d with
  | .p (.bl c) => if c = true then k else ret (.p (.bl false))
  | _ => bad
def ork (k : M D) : D → M D := fun d => match d with
  | .p (.bl c) => if c = true then ret (.p (.bl true)) else k
  | _ => bad
@[simp] theorem andk_bl (k : M D) (c : Bool) : andk k (.p (.bl c)) s = if c = true then k s else .ok (.p (.bl false)) s := by cases c <;> rfl
@[simp] theorem ork_bl (k : M D) (c : Bool) : ork k (.p (.bl c)) s = if c = true then .ok (.p (.bl true)) s else k s := by cases c <;> rfl
@[simp] theorem andE_ev : andE ma mb ρ s = R.bind (ma ρ s) (andk (mb ρ)) := by unfold andE; rw [bnd_ev]; rfl
@[simp] theorem orE_ev : orE ma mb ρ s = R.bind (ma ρ s) (ork (mb ρ)) := by unfold orE; rw [bnd_ev]; rfl
def notk : D → M D := fun d => match d with
  | .p (.bl c) => ret (.p (.bl (!c)))
  | _ => bad
@[simp] theorem notk_bl (c : Bool) : notk (.p (.bl c)) s = .ok (.p (.bl (!c))) s := rfl
@[simp] theorem notE_ev : notE ma ρ s = R.bind (ma ρ s) notk := by unfold notE; rw [bnd_ev]; rfl
@[simp] theorem negD_int (i : Int) : negD (.p (.int i)) s = .ok (.p (.int (-i))) s := rfl
@[simp] theorem evA_nil : evA [] ρ s = .ok [] s := rfl
@[simp] theorem evA_cons (ms : List EF) : evA (m :: ms) ρ s = R.bind (m ρ s) fun d s1 => R.bind (evA ms ρ s1) fun ds s2 => .ok (d :: ds) s2 := by
  show bnd _ _ _ = _
  simp only [bnd_ev]; rfl
@[simp] theorem plain_nil : plain [] = some [] := rfl
@[simp] theorem plain_cons (x : P) (r : List D) : plain (.p x :: r) = (plain r).map (x :: ·) := rfl
def tupk (f : List P → P) : List D → M D := fun ds s => match plain ds with
  | some xs => .ok (.p (f xs)) s
  | none => .bad
@[simp] theorem tupk_0 (f : List P → P) : tupk f [] s = .ok (.p (f [])) s := rfl
@[simp] theorem tupk_1 (f : List P → P) (a : P) : tupk f [.p a] s = .ok (.p (f [a])) s := rfl
@[simp] theorem tupk_2 (f : List P → P) (a b : P) : tupk f [.p a, .p b] s = .ok (.p (f [a, b])) s := rfl
@[simp] theorem tupk_3 (f : List P → P) (a b c : P) : tupk f [.p a, .p b, .p c] s = .ok (.p (f [a, b, c])) s := rfl
@[simp] theorem tupk_4 (f : List P → P) (a b c d : P) : tupk f [.p a, .p b, .p c, .p d] s = .ok (.p (f [a, b, c, d])) s := rfl
@[simp] theorem tupk_5 (f : List P → P) (a b c d e : P) : tupk f [.p a, .p b, .p c, .p d, .p e] s = .ok (.p (f [a, b, c, d, e])) s := rfl
@[simp] theorem tupk_6 (f : List P → P) (a b c d e e1 : P) : tupk f [.p a, .p b, .p c, .p d, .p e, .p e1] s = .ok (.p (f [a, b, c, d, e, e1])) s := rfl
@[simp] theorem tupk_8 (f : List P → P) (a b c d e e1 e2 e3 : P) : tupk f [.p a, .p b, .p c, .p d, .p e, .p e1, .p e2, .p e3] s = .ok (.p (f [a, b, c, d, e, e1, e2, e3])) s := rfl
@[simp] theorem tupE_ev (ms : List EF) : tupE ms ρ s = R.bind (evA ms ρ s) (tupk .tup) := by unfold tupE; rw [bnd_ev]; rfl
@[simp] theorem lstE_ev (ms : List EF) : lstE ms ρ s = R.bind (evA ms ρ s) (tupk .lst) := by unfold lstE; rw [bnd_ev]; rfl
def lsok : List D → M D := fun ds s => match plain ds with
  | some xs => newL xs s
  | none => .bad
@[simp] theorem lsoE_ev (ms : List EF) : lsoE ms ρ s = R.bind (evA ms ρ s) lsok := by unfold lsoE; rw [bnd_ev]; rfl
@[simp] theorem ix_tup (xs : List P) (i : Int) : ixD (.p (.tup xs)) (.p (.int i)) s = match L2.atI xs i with
  | some z => .ok (.p z) s
  | none => .bad := rfl
@[simp] theorem ix_lst (xs : List P) (i : Int) : ixD (.p (.lst xs)) (.p (.int i)) s = match L2.atI xs i with
  | some z => .ok (.p z) s
  | none => .bad := rfl
@[simp] theorem sub_int (i j : Int) : subD (.p (.int i)) (.p (.int j)) s = .ok (.p (.int (i - j))) s := rfl
@[simp] theorem mod_int (i j : Int) : modD (.p (.int i)) (.p (.int j)) s = if j = 0 then .bad else .ok (.p (.int (i.fmod j))) s := by
  unfold modD ii; by_cases h : j = 0 <;> simp [h]
@[simp] theorem div_int (i j : Int) : divD (.p (.int i)) (.p (.int j)) s = if divOk i j then .ok (.p (.int (i.fdiv j))) s else .bad := by
  unfold divD ii; by_cases h : divOk i j <;> simp [h]
@[simp] theorem pow_int (i j : Int) : powD (.p (.int i)) (.p (.int j)) s = if powOk i j then .ok (.p (.int (i ^ j.toNat))) s else .bad := by
  unfold powD ii; by_cases h : powOk i j <;> simp [h]
@[simp] theorem lt_int (i j : Int) : ltD (.p (.int i)) (.p (.int j)) s = .ok (.p (.bl (decide (i < j)))) s := rfl
@[simp] theorem le_int (i j : Int) : leD (.p (.int i)) (.p (.int j)) s = .ok (.p (.bl (decide (i ≤ j)))) s := rfl
@[simp] theorem gt_int (i j : Int) : gtD (.p (.int i)) (.p (.int j)) s = .ok (.p (.bl (decide (j < i)))) s := rfl
@[simp] theorem ge_int (i j : Int) : geD (.p (.int i)) (.p (.int j)) s = .ok (.p (.bl (decide (j ≤ i)))) s := rfl
@[simp] theorem add_int (fr : Bool) (i j : Int) : addD fr (.p (.int i)) (.p (.int j)) s = .ok (.p (.int (i + j))) s := rfl
@[simp] theorem mul_int (fr : Bool) (i j : Int) : mulD fr (.p (.int i)) (.p (.int j)) s = if mulOk i j then .ok (.p (.int (i * j))) s else .bad := rfl
@[simp] theorem eqv_int (i j : Int) : PyData.eqv (.int i) (.int j) = decide (i = j) := by
  unfold PyData.eqv
  by_cases h : i = j <;> simp [h]
theorem eq_dat (neg : Bool) {x y : D} {d e : PyData} (hx : toPyD x s = some d) (hy : toPyD y s = some e) (h : SeqAt.shaped d = true ∧ SeqAt.shaped e = true) : eqD neg x y s = .ok (.p (.bl (if neg = true then !PyData.eqv d e else PyData.eqv d e))) s := by
  unfold eqD
  rw [hx, hy]
  exact if_pos h
@[simp] theorem eq_int (i j : Int) : eqD false (.p (.int i)) (.p (.int j)) s = .ok (.p (.bl (decide (i = j)))) s := by
  rw [eq_dat (d := .int i) (e := .int j) false rfl rfl ⟨rfl, rfl⟩, eqv_int]
  rfl
@[simp] theorem ne_int (i j : Int) : eqD true (.p (.int i)) (.p (.int j)) s = .ok (.p (.bl (!decide (i = j)))) s := by
  rw [eq_dat (d := .int i) (e := .int j) true rfl rfl ⟨rfl, rfl⟩, eqv_int]
  rfl
@[simp] theorem calE_ev (g : List D → M D) (ms : List EF) : calE g ms ρ s = R.bind (evA ms ρ s) g := by unfold calE; rw [bnd_ev]
@[simp] theorem abs_ev (i : Int) : absD [.p (.int i)] s = .ok (.p (.int i.natAbs)) s := by
  show R.ok (D.p (.int (if i < 0 then -i else i))) s = _
  have : (if i < 0 then -i else i) = (i.natAbs : Int) := by split <;> omega
  rw [this]
@[simp] theorem max_ev (i j : Int) : maxD [.p (.int i), .p (.int j)] s = .ok (.p (.int (max i j))) s := by
  show R.ok (D.p (.int (if j > i then j else i))) s = _
  have : (if j > i then j else i) = max i j := by split <;> omega
  rw [this]
@[simp] theorem int_i (i : Int) : intD [.p (.int i)] s = .ok (.p (.int i)) s := rfl
@[simp] theorem int_b (b : Bool) : intD [.p (.bl b)] s = .ok (.p (.int (if b = true then 1 else 0))) s := rfl
@[simp] theorem len_tup (xs : List P) : lenD [.p (.tup xs)] s = .ok (.p (.int xs.length)) s := rfl
@[simp] theorem len_lst (xs : List P) : lenD [.p (.lst xs)] s = .ok (.p (.int xs.length)) s := rfl
theorem isi_ev (d : D) {c z : String} {b : Bool} (h : tyD d s = some z) (hk : kitB z c = some b) : isiD [d, .p (.ty c)] s = .ok (.p (.bl b)) s := by
  show (match tyD d s with
    | some z => (match kitB z c with
      | some b => R.ok (D.p (.bl b)) s
      | none => .bad)
    | none => .bad) = _
  rw [h]
  show (match kitB z c with
      | some b => R.ok (D.p (.bl b)) s
      | none => .bad) = _
  rw [hk]
@[simp] theorem isi_non_int : isiD [.p .non, .p (.ty "int")] s = .ok (.p (.bl false)) s := isi_ev _ rfl (by decide +kernel)
@[simp] theorem isi_non_bool : isiD [.p .non, .p (.ty "bool")] s = .ok (.p (.bl false)) s := isi_ev _ rfl (by decide +kernel)
@[simp] theorem isi_non_tuple : isiD [.p .non, .p (.ty "tuple")] s = .ok (.p (.bl false)) s := isi_ev _ rfl (by decide +kernel)
@[simp] theorem isi_non_list : isiD [.p .non, .p (.ty "list")] s = .ok (.p (.bl false)) s := isi_ev _ rfl (by decide +kernel)
@[simp] theorem isi_non_str : isiD [.p .non, .p (.ty "str")] s = .ok (.p (.bl false)) s := isi_ev _ rfl (by decide +kernel)
@[simp] theorem isi_bl_int (b : Bool) : isiD [.p (.bl b), .p (.ty "int")] s = .ok (.p (.bl true)) s := isi_ev _ rfl (by decide +kernel)
@[simp] theorem isi_bl_bool (b : Bool) : isiD [.p (.bl b), .p (.ty "bool")] s = .ok (.p (.bl true)) s := isi_ev _ rfl (by decide +kernel)
@[simp] theorem isi_bl_tuple (b : Bool) : isiD [.p (.bl b), .p (.ty "tuple")] s = .ok (.p (.bl false)) s := isi_ev _ rfl (by decide +kernel)
@[simp] theorem isi_bl_list (b : Bool) : isiD [.p (.bl b), .p (.ty "list")] s = .ok (.p (.bl false)) s := isi_ev _ rfl (by decide +kernel)
@[simp] theorem isi_bl_str (b : Bool) : isiD [.p (.bl b), .p (.ty "str")] s = .ok (.p (.bl false)) s := isi_ev _ rfl (by decide +kernel)
@[simp] theorem isi_int_int (i : Int) : isiD [.p (.int i), .p (.ty "int")] s = .ok (.p (.bl true)) s := isi_ev _ rfl (by decide +kernel)
@[simp] theorem isi_int_bool (i : Int) : isiD [.p (.int i), .p (.ty "bool")] s = .ok (.p (.bl false)) s := isi_ev _ rfl (by decide +kernel)
@[simp] theorem isi_int_tuple (i : Int) : isiD [.p (.int i), .p (.ty "tuple")] s = .ok (.p (.bl false)) s := isi_ev _ rfl (by decide +kernel)
@[simp] theorem isi_int_list (i : Int) : isiD [.p (.int i), .p (.ty "list")] s = .ok (.p (.bl false)) s := isi_ev _ rfl (by decide +kernel)
@[simp] theorem isi_int_str (i : Int) : isiD [.p (.int i), .p (.ty "str")] s = .ok (.p (.bl false)) s := isi_ev _ rfl (by decide +kernel)
@[simp] theorem isi_str_int (x : Str) : isiD [.p (.str x), .p (.ty "int")] s = .ok (.p (.bl false)) s := isi_ev _ rfl (by decide +kernel)
@[simp] theorem isi_str_bool (x : Str) : isiD [.p (.str x), .p (.ty "bool")] s = .ok (.p (.bl false)) s := isi_ev _ rfl (by decide +kernel)
@[simp] theorem isi_str_tuple (x : Str) : isiD [.p (.str x), .p (.ty "tuple")] s = .ok (.p (.bl false)) s := isi_ev _ rfl (by decide +kernel)
@[simp] theorem isi_str_list (x : Str) : isiD [.p (.str x), .p (.ty "list")] s = .ok (.p (.bl false)) s := isi_ev _ rfl (by decide +kernel)
@[simp] theorem isi_str_str (x : Str) : isiD [.p (.str x), .p (.ty "str")] s = .ok (.p (.bl true)) s := isi_ev _ rfl (by decide +kernel)
@[simp] theorem isi_tup_int (xs : List P) : isiD [.p (.tup xs), .p (.ty "int")] s = .ok (.p (.bl false)) s := isi_ev _ rfl (by decide +kernel)
@[simp] theorem isi_tup_bool (xs : List P) : isiD [.p (.tup xs), .p (.ty "bool")] s = .ok (.p (.bl false)) s := isi_ev _ rfl (by decide +kernel)
@[simp] theorem isi_tup_tuple (xs : List P) : isiD [.p (.tup xs), .p (.ty "tuple")] s = .ok (.p (.bl true)) s := isi_ev _ rfl (by decide +kernel)
@[simp] theorem isi_tup_list (xs : List P) : isiD [.p (.tup xs), .p (.ty "list")] s = .ok (.p (.bl false)) s := isi_ev _ rfl (by decide +kernel)
@[simp] theorem isi_tup_str (xs : List P) : isiD [.p (.tup xs), .p (.ty "str")] s = .ok (.p (.bl false)) s := isi_ev _ rfl (by decide +kernel)
@[simp] theorem isi_lst_int (xs : List P) : isiD [.p (.lst xs), .p (.ty "int")] s = .ok (.p (.bl false)) s := isi_ev _ rfl (by decide +kernel)
@[simp] theorem isi_lst_bool (xs : List P) : isiD [.p (.lst xs), .p (.ty "bool")] s = .ok (.p (.bl false)) s := isi_ev _ rfl (by decide +kernel)
@[simp] theorem isi_lst_tuple (xs : List P) : isiD [.p (.lst xs), .p (.ty "tuple")] s = .ok (.p (.bl false)) s := isi_ev _ rfl (by decide +kernel)
@[simp] theorem isi_lst_list (xs : List P) : isiD [.p (.lst xs), .p (.ty "list")] s = .ok (.p (.bl true)) s := isi_ev _ rfl (by decide +kernel)
@[simp] theorem isi_lst_str (xs : List P) : isiD [.p (.lst xs), .p (.ty "str")] s = .ok (.p (.bl false)) s := isi_ev _ rfl (by decide +kernel)
@[simp] theorem setG_ev (i : Nat) (d : D) : setG i d ρ s = .ok (ρ.set i (some d)) s := rfl
@[simp] theorem nilG_ev : nilG [] ρ s = .ok ρ s := rfl
@[simp] theorem consG_ev (g : GF) (r : List P → En → M En) (x : P) (xs : List P) : consG g r (x :: xs) ρ s = R.bind (g (.p x) ρ s) (r xs) := by
  show bnd _ _ _ = _
  rw [bnd_ev]
@[simp] theorem tupG_tup (n : Nat) (g : List P → En → M En) (xs : List P) : tupG n g (.p (.tup xs)) ρ s = if xs.length = n then g xs ρ s else .bad := rfl
@[simp] theorem tupG_lst (n : Nat) (g : List P → En → M En) (xs : List P) : tupG n g (.p (.lst xs)) ρ s = if xs.length = n then g xs ρ s else .bad := rfl
@[simp] theorem nopF_ev : nopF ρ s = .ok (.nx ρ) s := rfl
@[simp] theorem noF_ev : noF ρ s = .bad := rfl
def seqk (g : SF) : Fl → M Fl := fun r => match r with
  | .nx ρ' => g ρ'
  | r => ret r
@[simp] theorem seqk_nx (g : SF) : seqk g (.nx ρ) s = g ρ s := rfl
@[simp] theorem seqk_rt (g : SF) (d : D) : seqk g (.rt d) s = .ok (.rt d) s := rfl
@[simp] theorem seqk_bk (g : SF) : seqk g (.bk ρ) s = .ok (.bk ρ) s := rfl
@[simp] theorem seqk_ct (g : SF) : seqk g (.ct ρ) s = .ok (.ct ρ) s := rfl
@[simp] theorem seqF_ev : seqF f g ρ s = R.bind (f ρ s) (seqk g) := by unfold seqF; rw [bnd_ev]; rfl
@[simp] theorem retF_ev : retF m ρ s = R.bind (m ρ s) fun d s1 => .ok (.rt d) s1 := by unfold retF; rw [bnd_ev]; rfl
@[simp] theorem expF_ev : expF m ρ s = R.bind (m ρ s) fun d s1 => .ok (.nx ρ) s1 := by unfold expF; rw [bnd_ev]; rfl
@[simp] theorem iffF_ev : iffF t f g ρ s = R.bind (t ρ s) fun c s1 => if c = true then f ρ s1 else g ρ s1 := by
  unfold iffF; rw [bnd_ev]; congr; funext c s1; cases c <;> rfl
@[simp] theorem asgF_ev (g : GF) : asgF m g ρ s = R.bind (m ρ s) fun d s1 => R.bind (g d ρ s1) fun ρ' s2 => .ok (.nx ρ') s2 := by
  unfold asgF; simp only [bnd_ev]; rfl
def park (i j : Nat) (ρ : En) : List D → M Fl := fun ds s => match ds with
  | [x, y] => .ok (.nx ((ρ.set i (some x)).set j (some y))) s
  | _ => .bad
@[simp] theorem park_ev (i j : Nat) (x y : D) : park i j ρ [x, y] s = .ok (.nx ((ρ.set i (some x)).set j (some y))) s := rfl
@[simp] theorem parF_ev (i j : Nat) (ms : List EF) : parF i j ms ρ s = R.bind (evA ms ρ s) (park i j ρ) := by unfold parF; rw [bnd_ev]; rfl
def park3 (i j l : Nat) (ρ : En) : List D → M Fl := fun ds s => match ds with
  | [x, y, z] => .ok (.nx (((ρ.set i (some x)).set j (some y)).set l (some z))) s
  | _ => .bad
@[simp] theorem park3_ev (i j l : Nat) (x y z : D) : park3 i j l ρ [x, y, z] s = .ok (.nx (((ρ.set i (some x)).set j (some y)).set l (some z))) s := rfl
@[simp] theorem par3F_ev (i j l : Nat) (ms : List EF) : par3F i j l ms ρ s = R.bind (evA ms ρ s) (park3 i j l ρ) := by unfold par3F; rw [bnd_ev]; rfl
theorem augF_ev (i : Nat) (g : D → D → M D) {d : D} (h : ρ[i]? = some (some d)) : augF i g m ρ s = R.bind (m ρ s) fun y s1 => R.bind (g d y s1) fun z s2 => .ok (.nx (ρ.set i (some z))) s2 := by
  unfold augF; rw [h]; simp only [bnd_ev]; rfl
@[simp] theorem fin_self (x : P) : fin s (.p x) s = .ok (.p x) s := by
  unfold fin
  dsimp only
  rw [if_pos Keeps.self, List.take_length]
@[simp] theorem fin_more (x : P) (r : S) : fin s (.p x) (s ++ r) = .ok (.p x) s := by
  unfold fin
  dsimp only
  rw [if_pos (Keeps.more r), List.take_left]
@[simp] theorem atI2_0 {α} (x y : α) : L2.atI [x, y] 0 = some x := rfl
@[simp] theorem atI2_1 {α} (x y : α) : L2.atI [x, y] 1 = some y := rfl
@[simp] theorem atI1_0 {α} (x : α) : L2.atI [x] 0 = some x := rfl
@[simp] theorem atI3_0 {α} (x y z : α) : L2.atI [x, y, z] 0 = some x := rfl
@[simp] theorem atI3_1 {α} (x y z : α) : L2.atI [x, y, z] 1 = some y := rfl
@[simp] theorem atI3_2 {α} (x y z : α) : L2.atI [x, y, z] 2 = some z := rfl
noncomputable def defk (s : S) : Fl → M D := fun r => match r with
  | .rt d => fin s d
  | .nx _ => fin s (.p .non)
  | _ => bad
@[simp] theorem defk_rt (d : D) (s1 : S) : defk s (.rt d) s1 = fin s d s1 := rfl
@[simp] theorem defk_nx (s1 : S) : defk s (.nx ρ) s1 = fin s (.p .non) s1 := rfl
theorem defM_ev {n nl : Nat} {ds : List D} (hl : ds.length = n) : defM n nl f ds s = R.bind (f (ds.map some ++ List.replicate (nl - n) none) s) (defk s) := by
  unfold defM R.bind defk
  rw [if_pos hl]
  cases f (ds.map some ++ List.replicate (nl - n) none) s with
  | bad => rfl
  | exn _ _ => rfl
  | ok r s1 => cases r <;> rfl
theorem fin_take (x : P) (h : s'.take s.length = s) : fin s (.p x) s' = .ok (.p x) s := by
  have e : s' = s ++ s'.drop s.length := by conv => lhs; rw [← List.take_append_drop s.length s', h]
  rw [e]
  exact fin_more x _
@[simp] theorem fin_ex (x : P) (r : S) : fin [] (.p x) r = .ok (.p x) [] := fin_take x rfl
@[simp] theorem fin_ex1 (x : P) (a : Option O) (r : S) : fin [a] (.p x) (a :: r) = .ok (.p x) [a] := fin_take x rfl
@[simp] theorem fin_ex2 (x : P) (a b : Option O) (r : S) : fin [a, b] (.p x) (a :: b :: r) = .ok (.p x) [a, b] := fin_take x rfl
@[simp] theorem fin_ex3 (x : P) (a b c : Option O) (r : S) : fin [a, b, c] (.p x) (a :: b :: c :: r) = .ok (.p x) [a, b, c] := fin_take x rfl
@[simp] theorem gok_tru : gok [] s = True := by
  unfold gok
  simp
@[simp] theorem wipE_nil : wipE ρ [] = ρ := rfl
@[simp] theorem wipE_cons (v : Nat) (vs : List Nat) : wipE ρ (v :: vs) = (wipE ρ vs).set v none := rfl
theorem lcL_nil {own : List Nat} {tg : GF} {c : TF} : lcL own [] tg c m ρ [] s = .ok [] s := by
  unfold lcL
  rw [gok_tru]
  exact if_pos trivial
/-- a comprehension whose parts change nothing -/
theorem lcL_purg {g : Gd} {own : List Nat} {tg : GF} {c : TF} (hg : gok g s) (F : P → En) (keep : P → Bool) (f : P → P) : ∀ {xs : List P}, (∀ x ∈ xs, tg (.p x) (wipE ρ own) s = .ok (F x) s ∧ c (F x) s = .ok (keep x) s ∧ (keep x = true → m (F x) s = .ok (.p (f x)) s)) →
    lcL own g tg c m ρ xs s = .ok ((xs.filter keep).map f) s
  | [], _ => by
    unfold lcL
    exact if_pos hg
  | x :: xs, h => by
    have ih := lcL_purg (xs := xs) hg F keep f fun y hy => h y (List.mem_cons_of_mem _ hy)
    obtain ⟨h1, h2, h3⟩ := h x List.mem_cons_self
    unfold lcL
    rw [if_pos hg, bnd_ev, h1, R.bind_ok, bnd_ev, h2, R.bind_ok]
    cases hk : keep x with
    | false =>
      rw [if_neg (by decide), ih, List.filter_cons_of_neg (by rw [hk]; decide)]
    | true =>
      rw [if_pos rfl, bnd_ev, h3 hk, R.bind_ok]
      show bnd _ _ _ = _
      rw [bnd_ev, ih, R.bind_ok, List.filter_cons_of_pos hk]
      rfl
theorem lcL_pure {own : List Nat} {tg : GF} {c : TF} (F : P → En) (keep : P → Bool) (f : P → P) {xs : List P} (h : ∀ x ∈ xs, tg (.p x) (wipE ρ own) s = .ok (F x) s ∧ c (F x) s = .ok (keep x) s ∧ (keep x = true → m (F x) s = .ok (.p (f x)) s)) :
    lcL own [] tg c m ρ xs s = .ok ((xs.filter keep).map f) s := lcL_purg (by rw [gok_tru]; trivial) F keep f h
theorem lcL_all {own : List Nat} {tg : GF} (F : P → En) (f : P → P) {xs : List P} (h : ∀ x ∈ xs, tg (.p x) (wipE ρ own) s = .ok (F x) s ∧ m (F x) s = .ok (.p (f x)) s) :
    lcL own [] tg yesT m ρ xs s = .ok (xs.map f) s := by
  rw [lcL_pure F (fun _ => true) f fun x hx => ⟨(h x hx).1, rfl, fun _ => (h x hx).2⟩, show List.filter (fun _ => true) xs = xs from List.filter_eq_self.mpr fun _ _ => rfl]
@[simp] theorem mkL_true (xs : List P) : mkL true xs s = .ok (.p (.lst xs)) s := rfl
@[simp] theorem mkL_false (xs : List P) : mkL false xs s = .ok (.obj s.length) (s ++ [some (.lst xs)]) := rfl
theorem lcE_ev {fr : Bool} {i : IF} {own : List Nat} {tg : GF} {c : TF} : lcE fr i own tg c m ρ s = R.bind (i ρ s) fun xg s1 => if xg.1.length ≤ sizeLine then R.bind (lcL own xg.2 tg c m ρ xg.1 s1) (mkL fr) else .bad := by
  unfold lcE; rw [bnd_ev]; congr
/-- a comprehension over a row that stands still -/
theorem lcE_all {fr : Bool} {i : IF} {own : List Nat} {tg : GF} (F : P → En) (f : P → P) {xs : List P} {s1 : S} (hi : i ρ s = .ok (xs, []) s1) (hl : xs.length ≤ sizeLine) (h : ∀ x ∈ xs, tg (.p x) (wipE ρ own) s1 = .ok (F x) s1 ∧ m (F x) s1 = .ok (.p (f x)) s1) :
    lcE fr i own tg yesT m ρ s = mkL fr (xs.map f) s1 := by
  rw [lcE_ev, hi, R.bind_ok]
  show (if xs.length ≤ sizeLine then _ else _) = _
  rw [if_pos hl, lcL_all F f h, R.bind_ok]
theorem lcE_purg {fr : Bool} {i : IF} {own : List Nat} {g : Gd} {tg : GF} {c : TF} (F : P → En) (keep : P → Bool) (f : P → P) {xs : List P} {s1 : S} (hi : i ρ s = .ok (xs, g) s1) (hg : gok g s1) (hl : xs.length ≤ sizeLine)
    (h : ∀ x ∈ xs, tg (.p x) (wipE ρ own) s1 = .ok (F x) s1 ∧ c (F x) s1 = .ok (keep x) s1 ∧ (keep x = true → m (F x) s1 = .ok (.p (f x)) s1)) :
    lcE fr i own tg c m ρ s = mkL fr ((xs.filter keep).map f) s1 := by
  rw [lcE_ev, hi, R.bind_ok]
  show (if xs.length ≤ sizeLine then _ else _) = _
  rw [if_pos hl, lcL_purg hg F keep f h, R.bind_ok]
/-- the list that stands at a place -/
def lsAt (n : Nat) (s : S) : Option (List P) := match s[n]? with
  | some (some (.lst xs)) => some xs
  | _ => none
@[simp] theorem lsAt_0 (xs : List P) (r : S) : lsAt 0 (some (.lst xs) :: r) = some xs := rfl
@[simp] theorem lsAt_s (n : Nat) (a : Option O) (r : S) : lsAt (n + 1) (a :: r) = lsAt n r := rfl
theorem its_obj (n : Nat) : its (.obj n) s = lsAt n s := rfl
@[simp] theorem its_lst (xs : List P) : its (.p (.lst xs)) s = some xs := rfl
def addk (fr : Bool) (xs : Option (List P)) (ys : List P) : M D := fun s => match xs with
  | some xs => if xs.length + ys.length ≤ sizeLine then mkL fr (xs ++ ys) s else .bad
  | none => .bad
@[simp] theorem addk_some (fr : Bool) (xs ys : List P) : addk fr (some xs) ys s = if xs.length + ys.length ≤ sizeLine then mkL fr (xs ++ ys) s else .bad := rfl
@[simp] theorem add_obj_lst (fr : Bool) (n : Nat) (ys : List P) : addD fr (.obj n) (.p (.lst ys)) s = addk fr (lsAt n s) ys s := by
  unfold addD addk lsAt its
  dsimp only
  cases s[n]? with
  | none => rfl
  | some o => cases o with
    | none => rfl
    | some o => cases o <;> rfl
@[simp] theorem add_lst_lst (fr : Bool) (xs ys : List P) : addD fr (.p (.lst xs)) (.p (.lst ys)) s = if xs.length + ys.length ≤ sizeLine then mkL fr (xs ++ ys) s else .bad := rfl
def appk (xs : Option (List P)) (n : Nat) (x : P) : M D := fun s => match xs with
  | some xs => if xs.length < sizeLine then .ok (.p .non) (s.set n (some (.lst (xs ++ [x])))) else .bad
  | none => .bad
@[simp] theorem appk_some (xs : List P) (n : Nat) (x : P) : appk (some xs) n x s = if xs.length < sizeLine then .ok (.p .non) (s.set n (some (.lst (xs ++ [x])))) else .bad := rfl
@[simp] theorem lsok_0 : lsok [] s = .ok (.obj s.length) (s ++ [some (.lst [])]) := rfl
@[simp] theorem lsok_1 (a : P) : lsok [.p a] s = .ok (.obj s.length) (s ++ [some (.lst [a])]) := rfl
@[simp] theorem lsok_2 (a b : P) : lsok [.p a, .p b] s = .ok (.obj s.length) (s ++ [some (.lst [a, b])]) := rfl
@[simp] theorem lsok_3 (a b c : P) : lsok [.p a, .p b, .p c] s = .ok (.obj s.length) (s ++ [some (.lst [a, b, c])]) := rfl
@[simp] theorem lsok_4 (a b c d : P) : lsok [.p a, .p b, .p c, .p d] s = .ok (.obj s.length) (s ++ [some (.lst [a, b, c, d])]) := rfl
theorem rowI_obj {n : Nat} (h : m ρ s = .ok (.obj n) s') (hl : lsAt n s' = some xs) : rowI m ρ s = .ok (xs, [(n, xs)]) s' ∧ gok [(n, xs)] s' := by
  have e : s'[n]? = some (some (.lst xs)) := by
    unfold lsAt at hl
    split at hl
    · rename_i h
      rw [h, Option.some.inj hl]
    · cases hl
  constructor
  · unfold rowI
    rw [bnd_ev, h, R.bind_ok]
    unfold rowD
    dsimp only
    rw [e]
  · intro p hp
    rw [List.mem_singleton.mp hp]
    exact e
@[simp] theorem eq_bl (a b : Bool) : eqD false (.p (.bl a)) (.p (.bl b)) s = .ok (.p (.bl (a == b))) s := by
  rw [eq_dat (d := .bool a) (e := .bool b) false rfl rfl ⟨rfl, rfl⟩]
  unfold PyData.eqv
  rfl
@[simp] theorem ne_bl (a b : Bool) : eqD true (.p (.bl a)) (.p (.bl b)) s = .ok (.p (.bl (!(a == b)))) s := by
  rw [eq_dat (d := .bool a) (e := .bool b) true rfl rfl ⟨rfl, rfl⟩]
  unfold PyData.eqv
  rfl
@[simp] theorem ne_nil_nil : eqD true (.p (.lst [])) (.p (.lst [])) s = .ok (.p (.bl false)) s := rfl
theorem rowI_ev (h : m ρ s = .ok (.p (.tup xs)) s') : rowI m ρ s = .ok (xs, []) s' := by
  unfold rowI; rw [bnd_ev, h]; rfl
theorem rowI_lst (h : m ρ s = .ok (.p (.lst xs)) s') : rowI m ρ s = .ok (xs, []) s' := by
  unfold rowI; rw [bnd_ev, h]; rfl
theorem lstI_lst (h : m ρ s = .ok (.p (.lst xs)) s') : lstI m ρ s = .ok (xs, []) s' := by
  unfold lstI; rw [bnd_ev, h]; rfl
theorem all_lst {xs : List P} {bs : List Bool} (h : blsOf xs = some bs) : allD [.p (.lst xs)] s = .ok (.p (.bl (bs.all id))) s := by
  show (match blsOf xs with
      | some bs => R.ok (D.p (.bl (bs.all id))) s
      | none => .bad) = _
  rw [h]
theorem blsOf_trues {α : Type} (xs : List α) : blsOf (xs.map fun _ => P.bl true) = some (xs.map fun _ => true) := by
  induction xs with
  | nil => rfl
  | cons x xs ih =>
    show (blsOf (xs.map fun _ => P.bl true)).map _ = _
    rw [ih]; rfl
theorem all_trues {α : Type} (xs : List α) : allD [.p (.lst (xs.map fun _ => P.bl true))] s = .ok (.p (.bl true)) s := by
  rw [all_lst (blsOf_trues xs)]
  simp
theorem defM_if {n nl : Nat} {ds : List D} : defM n nl f ds s = if ds.length = n then R.bind (f (ds.map some ++ List.replicate (nl - n) none) s) (defk s) else .bad := by
  by_cases h : ds.length = n
  · rw [if_pos h, defM_ev h]
  · rw [if_neg h]; unfold defM; rw [if_neg h]
end
end CW
end
section
set_option maxRecDepth 100000
set_option maxHeartbeats 2000000
namespace CW
open PySem PySem.Spec PyProof.Rows L2
section
variable {ρ : En} {s s' : S} {xs : List P} {m ma mb mc : EF} {f g : SF} {t : TF}
def fork (k : SF) : Fl → M Fl := fun r => match r with
  | .nx ρ' => k ρ'
  | .ct ρ' => k ρ'
  | .bk ρ' => ret (.nx ρ')
  | .rt d => ret (.rt d)
@[simp] theorem fork_nx (k : SF) : fork k (.nx ρ) s = k ρ s := rfl
@[simp] theorem fork_ct (k : SF) : fork k (.ct ρ) s = k ρ s := rfl
@[simp] theorem fork_bk (k : SF) : fork k (.bk ρ) s = .ok (.nx ρ) s := rfl
@[simp] theorem fork_rt (k : SF) (d : D) : fork k (.rt d) s = .ok (.rt d) s := rfl
theorem forL_nil {tg : GF} : forL [] tg f [] ρ s = .ok (.nx ρ) s := by
  unfold forL
  rw [gok_tru]
  exact if_pos trivial
theorem forL_cons {tg : GF} (x : P) : forL [] tg f (x :: xs) ρ s = R.bind (tg (.p x) ρ s) fun ρ1 s1 => R.bind (f ρ1 s1) (fork (forL [] tg f xs)) := by
  conv => lhs; unfold forL
  rw [gok_tru, if_pos trivial, bnd_ev]
  congr
theorem forF_ev {i : IF} {tg : GF} : forF i tg f ρ s = R.bind (i ρ s) fun xg s1 => forL xg.2 tg f xg.1 ρ s1 := by
  unfold forF; rw [bnd_ev]
theorem whF_ev (ρ : En) (s : S) : whF t f ρ s = R.bind (t ρ s) fun b s1 => if b = true then R.bind (f ρ s1) (fork (whF t f)) else .ok (.nx ρ) s1 := by
  rw [whF_eq, bnd_ev]
  congr
  funext b s1
  cases b with
  | false => rfl
  | true =>
    rw [if_pos rfl, if_pos rfl, bnd_ev]
    rfl
/-- a loop that keeps something -/
theorem forL_inv {tg : GF} (I : En → S → Prop) : ∀ {xs : List P} {ρ : En} {s : S}, I ρ s → (∀ x ∈ xs, ∀ ρ s, I ρ s → ∃ ρ1 s1 ρ2 s2, tg (.p x) ρ s = .ok ρ1 s1 ∧ f ρ1 s1 = .ok (.nx ρ2) s2 ∧ I ρ2 s2) →
    ∃ ρ' s', forL [] tg f xs ρ s = .ok (.nx ρ') s' ∧ I ρ' s'
  | [], ρ, s, h, _ => ⟨ρ, s, forL_nil, h⟩
  | x :: xs, ρ, s, h, k => by
    obtain ⟨ρ1, s1, ρ2, s2, e1, e2, i2⟩ := k x List.mem_cons_self ρ s h
    obtain ⟨ρ', s', e3, i3⟩ := forL_inv I i2 (fun y hy => k y (List.mem_cons_of_mem _ hy))
    exact ⟨ρ', s', by rw [forL_cons, e1, R.bind_ok, e2, R.bind_ok, fork_nx, e3], i3⟩
def dputk (ρ : En) (v d : D) : D → M Fl := fun i s => match d, dctD d s, keyD i with
  | .obj n, some kvs, some q => if kvs.length < sizeLine then .ok (.nx ρ) (s.set n (some (.dic (putD kvs q v)))) else .bad
  | _, _, _ => .bad
def lputk (ρ : En) (v d : D) : D → M Fl := fun i s => match d, v, i with
  | .obj n, .p x, .p (.int z) => match s[n]? with
    | some (some (.lst xs)) => match ixN xs.length z with
      | some j => .ok (.nx ρ) (s.set n (some (.lst (xs.set j x))))
      | none => .bad
    | _ => .bad
  | _, _, _ => .bad
@[simp] theorem lputF_ev : lputF ma mb mc ρ s = R.bind (mc ρ s) fun v s1 => R.bind (ma ρ s1) fun d s2 => R.bind (mb ρ s2) (lputk ρ v d) := by
  unfold lputF
  rw [bnd_ev]
  congr
@[simp] theorem frzE_ev : frzE m ρ s = R.bind (m ρ s) frz := by unfold frzE; rw [bnd_ev]
@[simp] theorem frz_p (x : P) : frz (.p x) s = .ok (.p x) s := rfl
def dick (ks : List Str) (n : Nat) : List D → M D := fun ds s2 => match s2[n]? with
  | some (some (.dic [])) => .ok (.obj n) (s2.set n (some (.dic (mkD ((ks.map Sum.inr).zip ds) []))))
  | _ => .bad
@[simp] theorem dicE_ev (ks : List Str) (ms : List EF) : dicE ks ms ρ s = R.bind (evA ms ρ (s ++ [some (.dic [])])) (dick ks s.length) := by
  unfold dicE; rw [bnd_ev]; rfl
@[simp] theorem metE_ev {G : D → List D → M D} (ms : List EF) : metE G ma ms ρ s = R.bind (ma ρ s) fun d s1 => match its d s1 with
    | some _ => R.bind (evA ms ρ s1) (G d)
    | none => .bad := by
  unfold metE; rw [bnd_ev]; congr
@[simp] theorem app_obj (n : Nat) (x : P) : appD (.obj n) [.p x] s = appk (lsAt n s) n x s := by
  unfold appD appk lsAt
  dsimp only
  cases s[n]? with
  | none => rfl
  | some o => cases o with
    | none => rfl
    | some o => cases o <;> rfl
def mk (sm k : Int) (cells : List Int) (rest : S) : S := some (.dic [(.inr "great", .obj 1), (.inr "small", .p (.int sm)), (.inr "at", .p (.int k))]) :: some (.lst (cells.map .int)) :: rest
@[simp] theorem mk_great (sm k : Int) (cells : List Int) (rest : S) : dgetD (.obj 0) (.p (.str "great")) (mk sm k cells rest) = .ok (.obj 1) (mk sm k cells rest) := rfl
@[simp] theorem mk_small (sm k : Int) (cells : List Int) (rest : S) : dgetD (.obj 0) (.p (.str "small")) (mk sm k cells rest) = .ok (.p (.int sm)) (mk sm k cells rest) := rfl
@[simp] theorem mk_at (sm k : Int) (cells : List Int) (rest : S) : dgetD (.obj 0) (.p (.str "at")) (mk sm k cells rest) = .ok (.p (.int k)) (mk sm k cells rest) := rfl
@[simp] theorem mk_put_small (sm k i : Int) (cells : List Int) (rest : S) : dputk ρ (.p (.int i)) (.obj 0) (.p (.str "small")) (mk sm k cells rest) = .ok (.nx ρ) (mk i k cells rest) := rfl
@[simp] theorem mk_put_at (sm k i : Int) (cells : List Int) (rest : S) : dputk ρ (.p (.int i)) (.obj 0) (.p (.str "at")) (mk sm k cells rest) = .ok (.nx ρ) (mk sm i cells rest) := rfl
theorem ixN_ok {n : Nat} {z : Int} (h0 : 0 ≤ z) (h : z < n) : ixN n z = some z.toNat := by
  unfold ixN
  rw [if_pos h0]
  exact if_pos (by omega)
end
end CW
end
section
set_option maxRecDepth 100000
set_option maxHeartbeats 2000000
namespace CW
open PySem PySem.Spec PyProof.Rows L2
section
variable {C : Cf} {sc scope : Scope} {N : List Str} {k : Nat} {pos p2 p3 pt apos cpos : Pos} {e a b o i tg iter elt : Expr} {m ma mb mo mi md : EF} {es ifs ts : List Expr} {ms : List EF} {sts : List Stmt} {f : SF}
def dputG (md mi : EF) : GF := fun v ρ => bnd (md ρ) fun d => bnd (mi ρ) fun i s => match d, dctD d s, keyD i with
  | .obj n, some kvs, some q => if kvs.length < sizeLine then .ok ρ (s.set n (some (.dic (putD kvs q v)))) else .bad
  | _, _, _ => .bad
def lputG (mo mi : EF) : GF := fun v ρ => bnd (mo ρ) fun d => bnd (mi ρ) fun i s => match d, v, i with
  | .obj n, .p x, .p (.int z) => match s[n]? with
    | some (some (.lst xs)) => match ixN xs.length z with
      | some j => .ok ρ (s.set n (some (.lst (xs.set j x))))
      | none => .bad
    | _ => .bad
  | _, _, _ => .bad
def SGD (C : Cf) (sc : Scope) (N : List Str) (k : Nat) (ts : List Expr) (g : List D → En → M En) (pl : List Nat) : Prop :=
  ∀ X, Cok C sc N k X → ∃ t, PGs X ts t ∧ ∀ vs ds σ H W s ρ Q, DVs C.K W H vs ds → ER C W H σ ρ → Abs C.K W s H → Good (g ds ρ s) (PoG C W H pl σ Q) → t vs σ H Q
def nilT : List D → En → M En := fun ds ρ s => match ds with
  | [] => .ok ρ s
  | _ => .bad
def consT (g : GF) (r : List D → En → M En) : List D → En → M En := fun ds ρ => match ds with
  | d :: ds => bnd (g d ρ) fun ρ' => r ds ρ'
  | [] => bad
theorem gd_nil : SGD C sc N k [] nilT [] := fun X ok => by
  refine ⟨_, pgs_nil, fun vs ds σ H W s ρ Q r er A g => ?_⟩
  cases r with
  | nil => exact ⟨rfl, g W H _ Ev.rfl er A Agr.rfl⟩
  | cons _ _ => exact g.elim
theorem gd_cons {h : GF} {r : List D → En → M En} {pl pl' : List Nat} (h1 : SG C sc N k tg h pl) (h2 : SGD C sc N k ts r pl') (hs : ∀ env, (assignEach (tg :: ts) env).map (·.2) = assign tg env :: (assignEach ts env).map (·.2) := by intro _; rfl) : SGD C sc N k (tg :: ts) (consT h r) (pl ++ pl') := fun X ok => by
  obtain ⟨t, p, q⟩ := h1 X ok
  obtain ⟨u, p', q'⟩ := h2 X ok
  refine ⟨_, pgs_cons p p' (hs X.env), fun vs ds σ H W s ρ Q rv er A g => ?_⟩
  cases rv with
  | nil => exact g.elim
  | cons hv hr =>
    refine ⟨_, _, rfl, q _ _ σ H W s ρ _ hv er A (Good.mono (Good.bnd g) fun ρ1 s1 h1 W1 H1 σ1 e1 er1 A1 ag => ?_)⟩
    exact q' _ _ σ1 H1 W1 s1 ρ1 Q (DVs.up e1 hr) er1 A1 (Good.mono h1 fun _ _ z W2 H2 σ2 e2 er2 A2 ag2 => z W2 H2 σ2 (e1.trans e2) er2 A2 (ag.trans ag2))
def tasF (ms : List EF) (g : List D → En → M En) : SF := fun ρ => bnd (evA ms ρ) fun ds => bnd (g ds ρ) fun ρ' => ret (.nx ρ')
theorem x_tas {j x1 : Nat} {g : List D → En → M En} {pl : List Nat} (he : SAs C sc N k es ms) (hg : SGD C sc N k ts g pl) (hl : ms.length ≤ sizeLine := by decide) (hlt : ts.length = ms.length := by rfl) (hs : ∀ env : Env, env.scope = sc → swapsWithSole [.Tuple ts j pt] (.Tuple es x1 p2) pos.line env = pure false := by intro _ _; rfl)
    (hw : ∀ env : Env, env.scope = sc → swappedStores [.Tuple ts j pt] (.Tuple es x1 p2) env = pure none := by intro env h; cases env; cases h; rfl)
    (hn : ∀ env, (assignEach ts env).length = ts.length := by intro _; rfl) (hst : ∀ env, (assignEach ts env).findIdx? (·.1) = none := by intro _; rfl)
    (h1 : ∀ env, (assignEach [.Tuple ts j pt] env).map (·.2) = [assign (.Tuple ts j pt) env] := by intro _; rfl) : SS C sc N k (.Assign [.Tuple ts j pt] (.Tuple es x1 p2) pos) (tasF ms g) := fun X ok => by
  obtain ⟨t, p, q⟩ := he X ok.toCok
  obtain ⟨u, p', q'⟩ := hg X ok.toCok
  refine ⟨_, ps_asg (pe_tup p) (pg_tup ok.calm p' (hn X.env) (hst X.env)) (hs X.env ok.eS) (hw X.env ok.eS) (h1 X.env), fun D σ H W s ρ er A g => ?_⟩
  rw [ok.eK]
  refine q σ H W s ρ _ er A (g.bnd.len.mono fun ds s1 ⟨z, h2⟩ W1 H1 vs e1 r1 A1 => ?_)
  refine ⟨by rw [Paired.length r1, z]; exact hl, fun o ho => ?_⟩
  have ev := Ev.new (W := W1) (o := HO.tup vs) ho
  refine ⟨_, _, rfl, SqT.of upd_same, by rw [Paired.length r1, z, hlt], ?_⟩
  refine q' _ _ σ _ W1 s1 ρ _ (DVs.up ev r1) ((er.up e1).up ev) (A1.new ho) ((Good.bnd h2).mono fun ρ' s2 z2 W2 H2 σ2 e2 er2 A2 _ => ?_)
  exact z2 W2 H2 σ2 ((e1.trans ev).trans e2) er2 A2
variable {ρ : En} {s : S}
@[simp] theorem nilT_ev : nilT [] ρ s = .ok ρ s := rfl
@[simp] theorem consT_ev (g : GF) (r : List D → En → M En) (x : D) (xs : List D) : consT g r (x :: xs) ρ s = R.bind (g x ρ s) (r xs) := by
  show bnd _ _ _ = _
  rw [bnd_ev]
@[simp] theorem tasF_ev (g : List D → En → M En) : tasF ms g ρ s = R.bind (evA ms ρ s) fun ds s1 => R.bind (g ds ρ s1) fun ρ' s2 => .ok (.nx ρ') s2 := by
  unfold tasF; rw [bnd_ev]; congr
def gk (ρ : En) : Fl → M En := fun r s => match r with
  | .nx _ => .ok ρ s
  | _ => .bad
@[simp] theorem gk_nx (ρ' : En) : gk ρ (.nx ρ') s = .ok ρ s := rfl
@[simp] theorem dputG_ev (v : D) : dputG ma mb v ρ s = R.bind (ma ρ s) fun d s2 => R.bind (mb ρ s2) fun i s3 => R.bind (dputk ρ v d i s3) (gk ρ) := by
  unfold dputG
  rw [bnd_ev]
  congr
  funext d s2
  rw [bnd_ev]
  congr
  funext i s3
  unfold dputk
  cases d with
  | p x => rfl
  | obj n =>
    cases dctD (.obj n) s3 with
    | none => rfl
    | some kvs =>
      cases keyD i with
      | none => rfl
      | some q =>
        dsimp only
        by_cases h : kvs.length < sizeLine
        · rw [if_pos h, if_pos h]; rfl
        · rw [if_neg h, if_neg h]; rfl
@[simp] theorem lputG_ev (v : D) : lputG ma mb v ρ s = R.bind (ma ρ s) fun d s2 => R.bind (mb ρ s2) fun i s3 => R.bind (lputk ρ v d i s3) (gk ρ) := by
  unfold lputG
  rw [bnd_ev]
  congr
  funext d s2
  rw [bnd_ev]
  congr
  funext i s3
  unfold lputk
  cases d with
  | p x => rfl
  | obj n =>
    cases v with
    | obj _ => rfl
    | p x =>
      cases i with
      | obj _ => rfl
      | p y =>
        cases y with
        | int z =>
          dsimp only
          cases s3[n]? with
          | none => rfl
          | some o => cases o with
            | none => rfl
            | some o => cases o with
              | dic _ => rfl
              | row _ => rfl
              | tpl _ => rfl
              | ins _ _ => rfl
              | own _ _ => rfl
              | lst xs =>
                dsimp only
                cases ixN xs.length z <;> rfl
        | _ => rfl
end
end CW
end
section
set_option maxRecDepth 100000
set_option maxHeartbeats 2000000
namespace CW
open PySem PySem.Spec PyProof.Rows L2
end CW
namespace CW
open PySem PySem.Spec PyProof.Rows L2
end CW
namespace CW
open PySem PySem.Spec PyProof.Rows L2
section
variable {C : Cf} {k : Nat}
def popD : D → List D → M D := fun d ds s => match d, ds with
  | .obj n, [] => match s[n]? with
    | some (some (.lst xs)) => match xs[xs.length - 1]? with
      | some y => .ok (.p y) (s.set n (some (.lst xs.dropLast)))
      | none => .bad
    | _ => .bad
  | _, _ => .bad
def popk (xs : Option (List P)) (n : Nat) : M D := fun s => match xs with
  | some xs => match xs[xs.length - 1]? with
    | some y => .ok (.p y) (s.set n (some (.lst xs.dropLast)))
    | none => .bad
  | none => .bad
@[simp] theorem pop_obj (n : Nat) (s : S) : popD (.obj n) [] s = popk (lsAt n s) n s := by
  unfold popD popk lsAt
  dsimp only
  cases s[n]? with
  | none => rfl
  | some o => cases o with
    | none => rfl
    | some o => cases o <;> rfl
end
end CW
end
section
set_option maxRecDepth 100000
set_option maxHeartbeats 2000000
namespace CW
open PySem PySem.Spec PyProof.Rows L2
section
variable {C : Cf} {sc : Scope} {N : List Str} {k : Nat} {pos p2 : Pos} {e a b : Expr} {m ma mb : EF}
def intsOf : List P → Option (List Int)
  | [] => some []
  | .int i :: r => (intsOf r).map (i :: ·)
  | _ => none
theorem intsOf_eq : ∀ {xs : List P} {is : List Int}, intsOf xs = some is → xs = is.map P.int
  | [], is, h => by
    cases h
    rfl
  | .int i :: r, is, h => by
    unfold intsOf at h
    cases hr : intsOf r with
    | none => rw [hr] at h; cases h
    | some js =>
      rw [hr] at h
      cases h
      rw [intsOf_eq hr]
      rfl
  | .non :: r, is, h => by cases h
  | .bl _ :: r, is, h => by cases h
  | .str _ :: r, is, h => by cases h
  | .ty _ :: r, is, h => by cases h
  | .ref _ :: r, is, h => by cases h
  | .tup _ :: r, is, h => by cases h
  | .lst _ :: r, is, h => by cases h
  | .con _ :: r, is, h => by cases h
/-- x in a list of data; a whole number in a tuple of such -/
def inD (neg : Bool) (x y : D) : M D := fun s => match y with
  | .p (.tup ys) => match x, intsOf ys with
    | .p (.int i), some is => .ok (.p (.bl (if neg = true then !is.any fun j => decide (j = i) else is.any fun j => decide (j = i)))) s
    | _, _ => .bad
  | y => match toPyD x s, toPyD y s with
    | some d, some (.list ds) => if SeqAt.shaped d = true ∧ SeqAt.shaped (.list ds) = true then .ok (.p (.bl (if neg = true then !ds.any fun z => PyData.eqv z d else ds.any fun z => PyData.eqv z d))) s else .bad
    | _, _ => .bad
theorem inV_ints (i : Int) (is : List Int) : inV (.int i) (is.map V.int) = is.any fun j => decide (j = i) := by
  unfold inV
  rw [List.any_map]
  congr 1
theorem flat_ints (is : List Int) : (is.map V.int).all flatV = true := by
  rw [List.all_map]
  exact List.all_eq_true.mpr fun _ _ => rfl
theorem op_or2 {X : Cx} {f : Value → Value → Sem Value} {r r' : R2} (h : OpR X f r) (h' : OpR X f r') : OpR X f (fun x y H Q => r x y H Q ∨ r' x y H Q) := by
  intro pins s σ H x y v u Q I rx ry q
  rcases q with q | q
  · exact h pins s σ H x y v u Q I rx ry q
  · exact h' pins s σ H x y v u Q I rx ry q
theorem inD_go {neg : Bool} {W : Wd} {s : S} {H : Hp} {x y : V} {dx dy : D} {Q : VK} (rx : DV C.K W H x dx) (ry : DV C.K W H y dy) (A : Abs C.K W s H) (g : Good (inD neg dx dy s) (Po C.K W H Q)) :
    (∃ d ds, Dp C.K H x d ∧ Dp C.K H y (.list ds) ∧ SeqAt.shaped d = true ∧ SeqAt.shaped (.list ds) = true ∧ Q (.bl (if neg = true then !ds.any fun z => PyData.eqv z d else ds.any fun z => PyData.eqv z d)) H) ∨ rIn C.K neg x y H Q := by
  unfold inD at g
  split at g
  · rename_i ys
    split at g
    · rename_i i is h2
      cases ry with
      | tup hq hr =>
        have e := intsOf_eq h2
        subst e
        have e2 := hr.int_eq
        subst e2
        cases rx
        refine Or.inr ⟨_, _, rfl, Or.inr hq, rfl, flat_ints is, ?_⟩
        rw [inV_ints]
        cases neg
        · exact g W H _ Ev.rfl (PV.bl _) A
        · exact g W H _ Ev.rfl (PV.bl _) A
    · exact g.elim
  · split at g
    · rename_i d ds h1 h2
      split at g
      · rename_i hs
        exact Or.inl ⟨d, ds, DV.dp rx A h1, DV.dp ry A h2, hs.1, hs.2, g W H _ Ev.rfl (PV.bl _) A⟩
      · exact g.elim
    · exact g.elim
theorem u65 {X : Cx} (hr : Room k X.A) : X.A.units + 65 < cLine := by have := hr.un; omega
theorem o_in1 : OpS C k (compareOp .In) (inD false) := fun X ok => by
  refine ⟨_, op_or2 (op_inD (u65 ok.rm)) op_in_seq, fun W s H x y dx dy Q rx ry A g => ?_⟩
  rw [ok.eK]
  exact inD_go rx ry A g
theorem o_in2 : OpS C k (compareOp .NotIn) (inD true) := fun X ok => by
  refine ⟨_, op_or2 (op_notInD (u65 ok.rm)) op_notIn_seq, fun W s H x y dx dy Q rx ry A g => ?_⟩
  rw [ok.eK]
  exact inD_go rx ry A g
end
end CW
end
section
set_option maxRecDepth 100000
set_option maxHeartbeats 2000000
namespace CW
open PySem PySem.Spec PyProof.Rows L2
/-- a piece that is not asked to raise -/
def R.nox {α : Type} : R α → R α
  | .ok a s => .ok a s
  | .bad => .bad
  | .exn _ _ => .bad
def noX {α : Type} (m : En → M α) : En → M α := fun ρ s => R.nox (m ρ s)
@[simp] theorem R.nox_ok {α : Type} (a : α) (s : S) : R.nox (.ok a s) = .ok a s := rfl
@[simp] theorem R.nox_bad {α : Type} : R.nox (.bad : R α) = .bad := rfl
@[simp] theorem R.nox_exn {α : Type} (c : Xc) (s : S) : R.nox (.exn c s : R α) = .bad := rfl
@[simp] theorem noX_ev {α : Type} (m : En → M α) (ρ : En) (s : S) : noX m ρ s = R.nox (m ρ s) := rfl
section
variable {C : Cf} {sc : Scope} {N : List Str} {k : Nat} {pos p2 : Pos} {e a b tg : Expr} {m ma mb : EF} {es : List Expr} {ms : List EF} {st : Stmt} {sts : List Stmt} {f g : SF}
def noG (g : GF) : GF := fun d => noX (g d)
@[simp] theorem noG_ev (g : GF) (d : D) (ρ : En) (s : S) : noG g d ρ s = R.nox (g d ρ s) := rfl
/-- raise c(e); raiX where the field is asked for later -/
def raiF (c : Str) (m : EF) : SF := fun ρ => bnd (noX m ρ) fun _ => rais c
end
end CW
end
section
set_option maxRecDepth 100000
set_option maxHeartbeats 2000000
namespace CW
open PySem PySem.Spec PyProof.Rows L2
def tryF (cat : Str → Bool) (i j : Nat) (m : SF) : SF := fun ρ s => match m ρ s with
  | .ok fl s' => .ok fl s'
  | .exn c s' => if cat c.c = true then .ok (.nx (((ρ.set i (some (.p c.toP))).set j (some (.p c.toP))).set i none)) s' else .bad
  | .bad => .bad
end CW
end
section
set_option maxRecDepth 100000
set_option maxHeartbeats 2000000
namespace CW
open PySem PySem.Spec PyProof.Rows L2
end CW
end
section
set_option maxRecDepth 100000
set_option maxHeartbeats 2000000
namespace CW
open PySem PySem.Spec PyProof.Rows L2
/-- the lambda that lies in slot 0 does q -/
def actE (f c : Addr) (qn : Str) (q : M D) : EF := fun ρ s => match (ρ[0]? : Option (Option D)) with
  | some (some (.p (.lam f1 c1 q1))) => if f1 = f ∧ c1 = c ∧ q1 = qn then q s else .bad
  | _ => .bad
/-- the said def's term for a lambda -/
abbrev SaidF := Addr → Addr → Str → M D → SF
open Classical in
noncomputable def saidM (n : Nat) (B : SaidF) (q : M D) : M D := fun s => if h : ∃ r, ∀ f c qn, defM 1 n (B f c qn q) [.p (.lam f c qn)] s = r then Classical.choose h else .bad
noncomputable def saidE (n : Nat) (B : SaidF) (m : EF) : EF := fun ρ => saidM n B (m ρ)
@[simp] theorem saidE_ev (n : Nat) (B : SaidF) (m : EF) (ρ : En) (s : S) : saidE n B m ρ s = saidM n B (m ρ) s := rfl
end CW
end
section
set_option maxRecDepth 100000
set_option maxHeartbeats 2000000
namespace CW
open PySem PySem.Spec PyProof.Rows L2
abbrev Cf.noq (C : Cf) : Cf := { C with cq := none }
theorem Fn.noq {C : Cf} {k n : Nat} {f : Addr} {fd : FuncData} {ps : List Str} {m : List D → M D} (F : Fn C.noq k f fd ps (spM C.noq n m)) : Fn C k f fd ps (spM C n m) := ⟨F.len, F.run⟩
section
variable {s : S} {ρ : En}
@[simp] theorem raiF_ev (c : Str) (m : EF) : raiF c m ρ s = R.bind (R.nox (m ρ s)) fun _ s1 => .exn c s1 := by
  unfold raiF
  rw [bnd_ev]
  rfl
def tryk (cat : Str → Bool) (i j : Nat) (ρ : En) : R Fl → R Fl
  | .ok fl s' => .ok fl s'
  | .exn c s' => if cat c.c = true then .ok (.nx (((ρ.set i (some (.p c.toP))).set j (some (.p c.toP))).set i none)) s' else .bad
  | .bad => .bad
@[simp] theorem tryF_ev (cat : Str → Bool) (i j : Nat) (m : SF) : tryF cat i j m ρ s = tryk cat i j ρ (m ρ s) := rfl
@[simp] theorem tryk_ok (cat : Str → Bool) (i j : Nat) (fl : Fl) : tryk cat i j ρ (.ok fl s) = .ok fl s := rfl
@[simp] theorem tryk_exn (cat : Str → Bool) (i j : Nat) (c : Xc) : tryk cat i j ρ (.exn c s) = if cat c.c = true then .ok (.nx (((ρ.set i (some (.p c.toP))).set j (some (.p c.toP))).set i none)) s else .bad := rfl
@[simp] theorem actE_ev (f c : Addr) (qn : Str) (q : M D) (r : En) : actE f c qn q (some (.p (.lam f c qn)) :: r) s = q s := by
  show (if f = f ∧ c = c ∧ qn = qn then q s else .bad) = q s
  rw [if_pos ⟨rfl, rfl, rfl⟩]
@[simp] theorem its_end (xs : List P) : its (.obj s.length) (s ++ [some (.lst xs)]) = some xs := by
  rw [its_obj]
  unfold lsAt
  rw [List.getElem?_append_right (Nat.le_refl _), Nat.sub_self]
  rfl
@[simp] theorem isN3_exn (g : Bool) (c : Str) : isN g (.p (.exn c)) (.p .non) s = .ok (.p (.bl g)) s := rfl
@[simp] theorem isN3_str (g : Bool) (c : Str) : isN g (.p (.str c)) (.p .non) s = .ok (.p (.bl g)) s := rfl
@[simp] theorem isN3_lst (g : Bool) (c : List P) : isN g (.p (.lst c)) (.p .non) s = .ok (.p (.bl g)) s := rfl
@[simp] theorem isN3_tup (g : Bool) (c : List P) : isN g (.p (.tup c)) (.p .non) s = .ok (.p (.bl g)) s := rfl
@[simp] theorem isN3_int (g : Bool) (c : Int) : isN g (.p (.int c)) (.p .non) s = .ok (.p (.bl g)) s := rfl
@[simp] theorem isN3_bl (g : Bool) (c : Bool) : isN g (.p (.bl c)) (.p .non) s = .ok (.p (.bl g)) s := rfl
@[simp] theorem isN3_emp (g : Bool) : isN g (.p .emp) (.p .non) s = .ok (.p (.bl g)) s := rfl
@[simp] theorem isN3_obj (g : Bool) (n : Nat) : isN g (.obj n) (.p .non) s = .ok (.p (.bl g)) s := rfl
@[simp] theorem isN3_non (g : Bool) : isN g (.p .non) (.p .non) s = .ok (.p (.bl (!g))) s := rfl
def lcq (k : M (List P)) : D → M (List P)
  | .p y => fun s => R.bind (k s) fun r s' => .ok (y :: r) s'
  | .obj _ => fun _ => .bad
@[simp] theorem lcq_p (k : M (List P)) (y : P) : lcq k (.p y) s = R.bind (k s) fun r s' => .ok (y :: r) s' := rfl
theorem lcL_cns {own : List Nat} {t : GF} {c : TF} {m : EF} (x : P) (xs : List P) : lcL own [] t c m ρ (x :: xs) s = R.bind (t (.p x) (wipE ρ own) s) fun ρ1 s1 => R.bind (c ρ1 s1) fun b s2 => if b = true then R.bind (m ρ1 s2) (lcq (lcL own [] t c m ρ xs)) else lcL own [] t c m ρ xs s2 := by
  conv => lhs; unfold lcL
  rw [if_pos (gok_nil s), bnd_ev]
  congr 1
  funext ρ1 s1
  rw [bnd_ev]
  congr 1
  funext b s2
  by_cases hb : b = true
  · rw [if_pos hb, if_pos hb, bnd_ev]
    congr 1
  · rw [if_neg hb, if_neg hb]
def rowk : D → M (List P × Gd) := fun d s => match d with
  | .p (.tup xs) => .ok (xs, []) s
  | d => match rowD d s with
    | some r => .ok r s
    | none => .bad
theorem rowI_k (m : EF) : rowI m ρ s = R.bind (m ρ s) rowk := by
  unfold rowI
  rw [bnd_ev]
  rfl
@[simp] theorem rowk_tup (xs : List P) : rowk (.p (.tup xs)) s = .ok (xs, []) s := rfl
@[simp] theorem rowk_lst (xs : List P) : rowk (.p (.lst xs)) s = .ok (xs, []) s := rfl
@[simp] theorem rowk_con (xs : List P) : rowk (.p (.con xs)) s = .ok (xs, []) s := rfl
end
end CW
end
section
set_option maxRecDepth 100000
set_option maxHeartbeats 2000000
namespace CW
open PySem PySem.Spec PyProof.Rows L2
/-- the items of a row from lo to hi -/
def cutP (xs : List P) (lo hi : Option Int) : List P := (xs.drop (HT.sIx xs.length 0 lo)).take (HT.sIx xs.length xs.length hi - HT.sIx xs.length 0 lo)
theorem PVs.cut {K : PySem.W.Frag} {F : Addr → Prop} {H : Hp} {vs : List V} {xs : List P} (h : PVs K F H vs xs) (lo hi : Option Int) : PVs K F H (cutV vs lo hi) (cutP xs lo hi) := by
  unfold cutV cutP
  rw [h.len]
  exact PVs.take _ (PVs.drop _ h)
def slcD (fr : Bool) (x : D) (lo hi : Option Int) : M D := fun s => match x with
  | .p (.str z) => if z.length ≤ sizeLine then .ok (.p (.str (Txt.slice z lo hi))) s else .bad
  | .p (.tup xs) => .ok (.p (.tup (cutP xs lo hi))) s
  | x => match its x s with
    | some xs => mkL fr (cutP xs lo hi) s
    | none => .bad
def partE (d : D) : M (Option Int) := fun s => match d with
  | .p (.int i) => .ok (some i) s
  | _ => .bad
def optE : Option EF → En → M (Option Int)
  | none => fun _ s => .ok none s
  | some m => fun ρ => bnd (m ρ) partE
def slcE (fr : Bool) (ma : EF) (lo hi : Option EF) : EF := fun ρ => bnd (ma ρ) fun x => bnd (optE lo ρ) fun l => bnd (optE hi ρ) fun u => slcD fr x l u
def PoI (K : PySem.W.Frag) (W : Wd) (H : Hp) (Q : Option Int → Hp → Prop) : Option Int → S → Prop := fun d s => ∀ W' H', Ev W H W' H' → Abs K W' s H' → Q d H'
def SO (C : Cf) (sc : Scope) (N : List Str) (k : Nat) (e : Option Expr) (m : En → M (Option Int)) : Prop :=
  ∀ X, Cok C sc N k X → ∃ t, PO X e t ∧ ∀ σ H W s ρ Q, ER C W H σ ρ → Abs C.K W s H → Good (m ρ s) (PoI C.K W H Q) → t σ H Q
section
variable {C : Cf} {sc : Scope} {N : List Str} {k : Nat} {pos p2 : Pos} {e a b : Expr} {m ma mb : EF} {lo hi : Option Expr} {l u : Option EF}
theorem o_none : SO C sc N k none (optE none) := fun X ok => ⟨_, po_none, fun σ H W s ρ Q er A g => g W H Ev.rfl A⟩
theorem o_some (ha : SE C sc N k a ma) : SO C sc N k (some a) (optE (some ma)) := fun X ok => by
  obtain ⟨ta, pa, qa⟩ := ha X ok
  refine ⟨_, po_some pa, fun σ H W s ρ Q er A g => ?_⟩
  refine qa σ H W s ρ _ er A (Good.bnd g |>.mono fun dx s1 h1 W1 H1 x e1 r1 A1 => ?_)
  unfold partE at h1
  split at h1
  · cases r1
    exact ⟨_, rfl, h1 W1 H1 e1 A1⟩
  · exact h1.elim
theorem slc_go {W : Wd} {s : S} {H : Hp} {fr : Bool} {x : V} {d : D} {lo hi : Option Int} {Q : VK} (rx : DV C.K W H x d) (A : Abs C.K W s H) (g : Good (slcD fr d lo hi s) (Po C.K W H Q)) : ((C8.rSlX x lo hi H Q ∨ rSlA C.K x lo hi H Q) ∨ rSlL C.K x lo hi H Q) := by
  unfold slcD at g
  split at g
  · rename_i z
    split at g
    · rename_i hl
      cases rx
      exact Or.inl (Or.inl ⟨z, rfl, hl, g W H _ Ev.rfl (PV.str _) A⟩)
    · exact g.elim
  · rename_i xs
    cases rx with
    | tup h1 h2 =>
      have hn := h2.len
      refine Or.inl (Or.inr ⟨_, _, rfl, h1, fun hw => ?_, fun hw p hp => ?_⟩)
      · rw [hn] at hw
        have e : cutP xs lo hi = xs := by
          unfold cutP
          rw [hw.1, hw.2, List.drop_zero, Nat.sub_zero, List.take_length]
        rw [e] at g
        exact g W H _ Ev.rfl (PV.tup h1 h2) A
      · exact g W _ _ (Ev.new hp) (PV.tup (SqT.of upd_same) (PVs.up (Ev.new hp) (h2.cut lo hi))) (A.new hp)
  · split at g
    · rename_i xs e1
      obtain ⟨a, vs, rfl, h1, h2⟩ := its_sq rx A e1
      exact Or.inr ⟨a, vs, rfl, h1, fun p hp => mkL_go Ev.rfl A (h2.cut lo hi) g hp⟩
    · exact g.elim
theorem s_slc (fr : Bool) (ha : SE C sc N k a ma) (hl : SO C sc N k lo (optE l)) (hu : SO C sc N k hi (optE u)) : SE C sc N k (.Subscript a (.Slice lo hi none p2) pos) (slcE fr ma l u) := fun X ok => by
  obtain ⟨ta, pa, qa⟩ := ha X ok
  obtain ⟨tl, pl, ql⟩ := hl X ok
  obtain ⟨tu, pu, qu⟩ := hu X ok
  refine ⟨_, pe_slice (SlR.or (SlR.or C8.sl_txt sl_tupA) sl_list) pa pl pu, fun σ H W s ρ Q er A g => ?_⟩
  refine qa σ H W s ρ _ er A (Good.bnd g |>.mono fun dx s1 h1 W1 H1 x e1 r1 A1 => ?_)
  refine ql σ H1 W1 s1 ρ _ (er.up e1) A1 (h1.bnd.mono fun dl s2 h2 W2 H2 e2 A2 => ?_)
  refine qu σ H2 W2 s2 ρ _ (er.up (e1.trans e2)) A2 (h2.bnd.mono fun du s3 h3 W3 H3 e3 A3 => ?_)
  rw [ok.eK]
  exact slc_go (r1.up (e2.trans e3)) A3 (h3.mono fun d s z => z.up (e1.trans (e2.trans e3)))
end
end CW
end
section
set_option maxRecDepth 100000
set_option maxHeartbeats 2000000
namespace CW
open PySem PySem.Spec PyProof.Rows L2
section
variable {C : Cf} {K : PySem.W.Frag} {W W' : Wd} {H H' : Hp} {s s' : S} {ps : List Addr}
variable {sc scope : Scope} {N : List Str} {k : Nat} {pos p2 : Pos} {e a b tg iter elt : Expr} {m ma mb : EF} {sts : List Stmt} {f : SF}
theorem Paired.taken {α β : Type} {R : α → β → Prop} {as : List α} {bs : List β} (h : Paired R as bs) : ∀ n : Nat, Paired R (as.take n) (bs.take n) := by
  induction h with
  | nil => exact fun n => by simp; exact .nil
  | cons h1 h2 ih => exact fun n => match n with
    | 0 => .nil
    | n + 1 => .cons h1 (ih n)
theorem cut_front (xs : List V) (n : Nat) : cutV xs none (some (n : Int)) = xs.take n := by
  unfold cutV
  rw [HT.sIx_none, HT.sIx_nat, List.drop_zero, Nat.sub_zero]
  rcases Nat.le_total n xs.length with h | h
  · rw [Nat.min_eq_left h]
  · rw [Nat.min_eq_right h, List.take_length, List.take_of_length_le h]
theorem i_div : OpS C k (inplaceOp .FloorDiv) divD := fun X ok => ⟨_, (opI (C := divOk) (g := fun i j => i.fdiv j) fun i j _ _ _ _ _ hc q => ifloordiv_int hc.1 q (Or.inl hc.2)), fun W s H x y dx dy Q rx ry A g => by
  obtain ⟨i, j, rfl, rfl, c, q⟩ := ii_go rx ry g
  exact ⟨i, j, rfl, rfl, of_decide_eq_true c, q W H _ Ev.rfl (PV.int _) A⟩⟩
end
end CW
end
section
set_option maxRecDepth 100000
set_option maxHeartbeats 2000000
namespace CW
open PySem PySem.Spec PyProof.Rows L2
/-- the items of a row of things -/
def rowAt (d : D) (s : S) : Option (List D) := match d with
  | .obj n => match s[n]? with
    | some (some (.row ds)) => some ds
    | _ => none
  | _ => none
section
variable {C : Cf} {K : PySem.W.Frag} {W : Wd} {H : Hp} {s : S} {v : V} {d : D}
theorem rowAt_obj {W : Wd} {H : Hp} {s : S} {v : V} {d : D} {ds : List D} (r : DV C.K W H v d) (A : Abs C.K W s H) (h : rowAt d s = some ds) : ∃ n a vs, d = .obj n ∧ s[n]? = some (some (.row ds)) ∧ W.io[n]? = some a ∧ v = .ref a ∧ H a = some (.lst vs) ∧ DVs C.K W H vs ds := by
  unfold rowAt at h
  split at h
  · rename_i n
    split at h
    · rename_i qs hs
      cases h
      obtain ⟨a, h4, rfl⟩ := r
      obtain ⟨a', h5, _, vs, h6, h7⟩ := A.ob n _ hs
      rw [h4] at h5
      cases h5
      exact ⟨n, a, vs, rfl, hs, h4, rfl, h6, h7⟩
    · cases h
  · cases h
theorem DVs.get : ∀ {vs : List V} {ds : List D} {i : Nat} {d : D}, DVs K W H vs ds → ds[i]? = some d → ∃ v, vs[i]? = some v ∧ DV K W H v d
  | _, _, _, _, .nil, e => by simp at e
  | _, _, 0, _, .cons h _, e => by
    simp at e
    subst e
    exact ⟨_, rfl, h⟩
  | _, _, i + 1, d, .cons _ r, e => by
    obtain ⟨v, h1, h2⟩ := DVs.get (i := i) (d := d) r (by simpa using e)
    exact ⟨v, by simpa using h1, h2⟩
theorem DVs.atI {vs : List V} {ds : List D} {i : Int} {d : D} (h : DVs K W H vs ds) (e : L2.atI ds i = some d) : ∃ v, L2.atI vs i = some v ∧ DV K W H v d := by
  unfold L2.atI at e ⊢
  rw [Paired.length h]
  cases hj : ixN ds.length i with
  | none =>
    rw [hj] at e
    cases e
  | some j =>
    rw [hj] at e
    exact h.get e
end
/-- a new row of things -/
def newR (ds : List D) : M D := fun s => .ok (.obj s.length) (s ++ [some (.row ds)])
/-- an item of a row of things -/
def rixD (x y : D) : M D := fun s => match rowAt x s, y with
  | some ds, .p (.int i) => match L2.atI ds i with
    | some d => .ok d s
    | none => .bad
  | _, _ => .bad
section
variable {C : Cf} {sc : Scope} {N : List Str} {k : Nat} {pos p2 : Pos} {e a b c tg : Expr} {m ma mb : EF} {es : List Expr} {ms : List EF}
theorem s_rix (ha : SE C sc N k a ma) (hb : SE C sc N k b mb) (hs : PlainIx b := by exact fun _ _ => rfl) : SE C sc N k (.Subscript a b pos) (op2 rixD ma mb) := fun X ok => by
  obtain ⟨ta, pa, qa⟩ := ha X ok
  obtain ⟨tb, pb, qb⟩ := hb X ok
  refine ⟨_, pe_ix ix_seq pa pb hs, fun σ H W s ρ Q er A g => ?_⟩
  rw [ok.eK]
  exact two qa qb er A g fun W' H' s' x y dx dy e rx ry A' g' => by
    unfold rixD at g'
    split at g'
    · rename_i ds i hd
      cases ry
      split at g'
      · rename_i d hz
        obtain ⟨n, a, vs, rfl, hs, h3, rfl, h4, h5⟩ := rowAt_obj rx A' hd
        obtain ⟨v, h1, h2⟩ := h5.atI hz
        exact Or.inl ⟨_, _, _, _, rfl, rfl, SqL.of h4, h1, g' W' H' v Ev.rfl h2 A'⟩
      · exact g'.elim
    · exact g'.elim
end
end CW
end
section
set_option maxRecDepth 100000
set_option maxHeartbeats 2000000
open PySem PySem.Spec PyProof.Rows L2
namespace CW
end CW
end
section
set_option maxRecDepth 100000
set_option maxHeartbeats 2000000
namespace CW
open PySem PySem.Spec PyProof.Rows L2
end CW
end
section
set_option maxRecDepth 100000
set_option maxHeartbeats 2000000
namespace CW
open PySem PySem.Spec PyProof.Rows L2
section
variable {C : Cf} {sc : Scope} {N : List Str} {k : Nat} {apos pos : Pos} {o e tg : Expr} {mo m : EF}
instance (x : Str) (n : Int) : Decidable (PySem.MulOk x n) := by
  unfold PySem.MulOk
  infer_instance
end
end CW
end
section
set_option maxRecDepth 100000
set_option maxHeartbeats 2000000
namespace CW
open PySem PySem.Spec PyProof.Rows L2
end CW
end
section
set_option maxRecDepth 100000
set_option maxHeartbeats 2000000
namespace CW
open PySem PySem.Spec PyProof.Rows L2
noncomputable section
theorem law_endE {l : PySem.W.OpenLaw} {n k : Nat} {q : Program} {loose : List Str} {XP : (Str → Option Value) → Heap → Prop} {YP : World → Heap → Prop} {d : DefRec} {Sy : World → PySem.W.Frag → Prop} {x : Str} {m : World → List D → M D}
    (hn : l.most = some n) (hn2 : n ≤ sizeLine) (hdf : d.params.defaults = []) (hr : Room k callerA) (hY : ∀ (w : World) (h : Heap), YP w h → ∃ K : PySem.W.Frag, K.In h ∧ Sy w K)
    (F : ∀ (w : World) (mg : Str → Option Value) (fa : Addr) (h : Heap) (K : PySem.W.Frag), K.In h → Sy w K → h.Ns mainGlobals mg → mg d.name = some (.ref fa) →
      ∃ (fd : FuncData) (ms : Mks), (∀ p ∈ ms, p.2.1 ∈ ([] : List Addr)) ∧ MkK K ms ∧ (∀ (s : Shared) (u : Value), BindsTo s fd ⟨[u], []⟩ [(x, u)]) ∧ ∀ base : Heap, TabF ms mg base → Fn (cfL l.prog w K mg base ms.tb) k fa fd [x] (spM (cfL l.prog w K mg base ms.tb) 1 (m w)))
    (hm : ∀ w (ns : List Int), ns.length ≤ n → (∀ z ∈ ns, Builtin.Int.intBits z ≤ 1048576) → ∃ s', m w [.p (.con (ns.map P.int))] [] = .ok (.p (.bl true)) s') :
    PySem.W.WalkO q loose XP YP l.row.toRowW d [] (fun f vs => PySem.call f vs) := by
  refine Att.attach_callB hn hdf fun w s₀ s₁ mg mb fa o pm cd doc a vs ns G Y ho hd hcd hmg hobj hints hlen hbits hg => ?_
  obtain ⟨K, KX, SK⟩ := hY w _ Y
  obtain ⟨fd, ms, hts, MK, hb, hF⟩ := F w mg fa _ K KX SK G.T.g hmg
  have hT : ∀ p ∈ ms, s₁.heap.get? p.2.1 = some (PySem.W.tabObj #[]) := fun p hp => nomatch hts p hp
  have rv := vals_ints hints
  have lv := hints.length
  have hz : (ns.map V.int).length ≤ sizeLine := by rw [List.length_map]; exact Nat.le_trans hlen hn2
  have fin_ : ∀ {H : Hp}, CS K H a (ns.map V.int) → HOk l.prog w H s₁.heap → (∀ p ∈ ms, H p.2.1 = some (.tbl #[])) → (∀ b u, H b = some u → K.lookup b = none ∧ ((∃ o xs vs n, u = .frz o (.lst xs) ∧ s₁.heap.get? b = some o ∧ o.data = .seq vs n) ∨ (u = .tbl #[] ∧ ∃ p ∈ ms, p.2.1 = b))) → _ :=
    fun {H} h1 h2 h3 h4 => law_way (H := H) (m := m w) KX G.T.g G.T.b G.T.builtins G.T.nolimit hg hr MK hT G.T.bmain hF hb (hm w ns hlen hbits) h1 h2 h3 h4
  have na : ∀ p ∈ ms, p.2.1 ≠ a := fun p hp z => by
    have e := hT p hp
    rw [z, hobj] at e
    cases e
  let T0 : Hp := fun b => @ite _ (∃ p ∈ ms, p.2.1 = b) (Classical.propDecidable _) (some (.tbl #[])) none
  have T0i : ∀ b u, T0 b = some u → u = .tbl #[] ∧ ∃ p ∈ ms, p.2.1 = b := fun b u z => by
    by_cases h : ∃ p ∈ ms, p.2.1 = b
    · have z' := (if_pos h).symm.trans z
      cases z'
      exact ⟨rfl, h⟩
    · have z' := (if_neg h).symm.trans z
      cases z'
  have T0p : ∀ p ∈ ms, T0 p.2.1 = some (.tbl #[]) := fun p hp => if_pos ⟨p, hp, rfl⟩
  cases hk : K.lookup a with
  | some ob =>
    have e := KX a ob hk
    rw [hobj] at e
    cases e
    refine fin_ (H := T0) (Or.inr (Or.inr ⟨_, vs.toArray, _, hk, rfl, rfl, rfl, ?_, by simpa using rv⟩)) (fun b u z => ?_) T0p (fun b u z => ?_)
    · rw [List.size_toArray, ← rv.length]
      exact hz
    · obtain ⟨rfl, p, hp, rfl⟩ := T0i b u z
      exact hT p hp
    · obtain ⟨rfl, p, hp, rfl⟩ := T0i b u z
      exact ⟨MK.no p hp, Or.inr ⟨rfl, p, hp, rfl⟩⟩
  | none =>
    refine fin_ (H := fun b => if b = a then some (.frz { cls := .type "list", data := .seq vs.toArray } (.lst (ns.map V.int))) else T0 b) (Or.inl ⟨_, if_pos rfl⟩) (fun b u z => ?_) (fun p hp => (if_neg (na p hp)).trans (T0p p hp)) (fun b u z => ?_)
    · by_cases e : b = a
      · subst e
        have z' := (if_pos rfl).symm.trans z
        cases z'
        exact ⟨hobj, hz, vs, _, rv, hobj⟩
      · have z' := (if_neg e).symm.trans z
        obtain ⟨rfl, p, hp, rfl⟩ := T0i b u z'
        exact hT p hp
    · by_cases e : b = a
      · subst e
        have z' := (if_pos rfl).symm.trans z
        cases z'
        exact ⟨hk, Or.inl ⟨_, _, vs.toArray, _, rfl, hobj, rfl⟩⟩
      · have z' := (if_neg e).symm.trans z
        obtain ⟨rfl, p, hp, rfl⟩ := T0i b u z'
        exact ⟨MK.no p hp, Or.inr ⟨rfl, p, hp, rfl⟩⟩
end
namespace HdE
theorem int_in {K : PySem.W.Frag} {x : Str} {i : Int} (c : (He.Fa.int x i).ok K = true) : ∃ t, PySem.W.nsIn K mainGlobals x = some (some (.int i t)) := by
  have c2 : (match PySem.W.nsIn K mainGlobals x with
    | some (some (.int j _)) => decide (j = i)
    | _ => false) = true := c
  cases e : PySem.W.nsIn K mainGlobals x with
  | none =>
    rw [e] at c2
    cases c2
  | some o =>
    rw [e] at c2
    cases o with
    | none => cases c2
    | some v =>
      cases v with
      | int j t =>
        have ej : j = i := of_decide_eq_true c2
        exact ⟨t, by rw [ej]⟩
      | _ => cases c2
structure Pt4 where
  fa : List He.Fa
  fn : List He.FnD
abbrev Al : Type := (He.Al × Bool × List Int) × He.Al × He.Al × He.Al
def ob0 (p : Pt4) (ex : PySem.W.Frag → Bool) (hs : PySem.W.Frag → List Int) (K : PySem.W.Frag) : He.Al × Bool × List Int := (He.obsE p.fa p.fn K, ex K, hs K)
def SaysK (p0 p1 p2 p3 : Pt4) (ex : PySem.W.Frag → Bool) (hs : PySem.W.Frag → List Int) (hv : World → List Int) (w : World) (K : PySem.W.Frag) : Prop := (He.SaysE p0.fa p0.fn K ∧ ex K = true ∧ hs K = hv w) ∧ He.SaysE p1.fa p1.fn K ∧ He.SaysE p2.fa p2.fn K ∧ He.SaysE p3.fa p3.fn K
def hookK (n : Nat) (p0 p1 p2 p3 : Pt4) (ex : PySem.W.Frag → Bool) (hs : PySem.W.Frag → List Int) (hv : World → List Int) : PySem.W.Hook where
  α := Al
  obs := fun s => (ob0 p0 ex hs (He.frG s.heap.get? (List.range n)), He.obsE p1.fa p1.fn (He.frG s.heap.get? (List.range n)), He.obsE p2.fa p2.fn (He.frG s.heap.get? (List.range n)), He.obsE p3.fa p3.fn (He.frG s.heap.get? (List.range n)))
  val := fun w => ((He.valE p0.fn, true, hv w), He.valE p1.fn, He.valE p2.fn, He.valE p3.fn)
  says := fun w h => ∃ K : PySem.W.Frag, K.In h ∧ SaysK p0 p1 p2 p3 ex hs hv w K
  of := fun _ _ e => ⟨_, He.frG_in, ⟨congrArg (fun z : Al => z.1.1) e, congrArg (fun z : Al => z.1.2.1) e, congrArg (fun z : Al => z.1.2.2) e⟩, congrArg (fun z : Al => z.2.1) e, congrArg (fun z : Al => z.2.2.1) e, congrArg (fun z : Al => z.2.2.2) e⟩
  keeps := fun _ _ _ ⟨K, hK, c⟩ k => ⟨K, PySem.W.Frag.In.keeps hK k, c⟩
/-- what one run shows -/
noncomputable def RunO (r : PySem.W.OpenRow) {α : Type} (ob : PySem.W.SharedT → α) (v : World → α) (M : Nat) (w : World) : Prop :=
  ∀ os : OsState, (HandSHeadRun.endF (HandSHeadRun.stepQ (HandSHeadRun.denQ HandSHeadRun.tabQ) r.prog w) M r.prog w os).map ob = some (v w)
theorem RunO.pair {r : PySem.W.OpenRow} {α β : Type} {a : PySem.W.SharedT → α} {b : PySem.W.SharedT → β} {v : World → α} {u : World → β} {M : Nat} {w : World} (h1 : RunO r a v M w) (h2 : RunO r b u M w) : RunO r (fun s => (a s, b s)) (fun w => (v w, u w)) M w := fun os => by
  obtain ⟨s, hs, e1⟩ := Option.map_eq_some_iff.mp (h1 os)
  obtain ⟨s2, hs2, e2⟩ := Option.map_eq_some_iff.mp (h2 os)
  rw [hs] at hs2
  cases hs2
  rw [hs]
  show some (a s, b s) = some (v w, u w)
  rw [e1, e2]
theorem run_eq {r : PySem.W.OpenRow} {q : Program} {H : PySem.W.Hook} {ob : PySem.W.SharedT → H.α} {M : Nat} {loose : List Str} {w : World} (h1 : HandSHeadRun.RunEq r q PySem.W.Hook.none (fun _ => ()) M loose w) (h2 : RunO r ob H.val M w) : HandSHeadRun.RunEq r q H ob M loose w := fun os => by
  obtain ⟨s, hs, e1⟩ := Option.map_eq_some_iff.mp (h1 os)
  obtain ⟨s2, hs2, e2⟩ := Option.map_eq_some_iff.mp (h2 os)
  rw [hs] at hs2
  cases hs2
  rw [hs]
  have e3 := congrArg (fun z => z.1) e1
  have e4 := congrArg (fun z => z.2.1) e1
  show some (_, _, ob s) = some (true, PySem.W.openGood q loose, H.val w)
  rw [e2]
  exact congrArg some (Prod.ext e3 (Prod.ext e4 rfl))
end HdE
end CW
end
section
set_option maxRecDepth 100000
set_option maxHeartbeats 2000000
namespace CW
open PySem PySem.Spec PyProof.Rows L2
def ItD (K : PySem.W.Frag) (J : It) (W0 : Wd) (H0 : Hp) (xs : List D) (g : S → Prop) : Prop :=
  ∀ W H s, Ev W0 H0 W H → Abs K W s H → g s → ∀ i, (∀ x, xs[i]? = some x → J.go i H ∧ ∀ v H', J.yld i H v H' → Ev W H W H' ∧ DV K W H' v x ∧ Abs K W s H') ∧ (xs.length = i → J.stop i H)
abbrev IFD := En → M (List D × (S → Prop))
def SID (C : Cf) (sc : Scope) (N : List Str) (k : Nat) (tg iter : Expr) (m : IFD) : Prop :=
  ∀ X, Cok C sc N k X → ∃ t, PI X tg iter t ∧ ∀ σ H W s ρ (R : It → Hp → Prop), ER C W H σ ρ → Abs C.K W s H →
    Good (m ρ s) (fun xg s' => ∀ W' H' J, Ev W H W' H' → Abs C.K W' s' H' → ItD C.K J W' H' xg.1 xg.2 → R J H') → t σ H R
section
variable {C : Cf} {sc : Scope} {N : List Str} {k : Nat} {pos p2 : Pos} {e a b tg iter elt : Expr} {ifs : List Expr} {scope : Scope} {m ma mb : EF} {es : List Expr} {ms : List EF} {sts : List Stmt} {f : SF}
/-- plain items -/
def dI (m : IF) : IFD := fun ρ => bnd (m ρ) fun xg => ret (xg.1.map .p, gok xg.2)
theorem id_of {m : IF} (h : SI C sc N k tg iter m) : SID C sc N k tg iter (dI m) := fun X ok => by
  obtain ⟨t, p, q⟩ := h X ok
  refine ⟨t, p, fun σ H W s ρ R er A g => q σ H W s ρ R er A ((Good.bnd g).mono fun xg s1 z W1 H1 J e1 A1 io => z W1 H1 J e1 A1 fun W2 H2 s2 e2 A2 hg i => ?_)⟩
  obtain ⟨h1, h2⟩ := io W2 H2 s2 e2 A2 hg i
  refine ⟨fun x hx => ?_, fun hi => h2 (by rw [← hi, List.length_map])⟩
  rw [List.getElem?_map] at hx
  cases hy : xg.1[i]? with
  | none =>
    rw [hy] at hx
    cases hx
  | some y =>
    rw [hy] at hx
    cases hx
    exact h1 y hy
/-- the items of a row of things -/
def rowdI (m : EF) : IFD := fun ρ => bnd (m ρ) fun d s => match rowAt d s with
  | some ds => .ok (ds, fun s' => rowAt d s' = some ds) s
  | none => .bad
theorem id_row (h : SE C sc N k e m) : SID C sc N k tg e (rowdI m) := fun X ok => by
  obtain ⟨t, p, q⟩ := h X ok
  refine ⟨_, pi_list p, fun σ H W s ρ R er A g => ?_⟩
  refine q σ H W s ρ _ er A ((Good.bnd g).mono fun d s1 z W1 H1 v e1 r1 A1 => ?_)
  split at z
  · rename_i ds hr
    obtain ⟨n, a, vs, rfl, h1, h2, rfl, h3, h4⟩ := rowAt_obj r1 A1 hr
    rw [ok.eK]
    refine ⟨a, rfl, ⟨vs, SqL.of h3⟩, z W1 H1 (Itl C.K a) e1 A1 fun W2 H2 s2 e2 A2 hg i => ?_⟩
    have r2 : DV C.K W2 H2 (.ref a) (.obj n) := DV.up e2 (d := .obj n) ⟨a, h2, rfl⟩
    obtain ⟨n', a', us, en, k1, k2, ea, k3, k4⟩ := rowAt_obj r2 A2 hg
    cases ea
    refine ⟨fun x hx => ?_, fun hi => ⟨us, SqL.of k3, by rw [Paired.length k4]; exact Nat.le_of_eq hi⟩⟩
    obtain ⟨u, hu, ru⟩ := DVs.get k4 hx
    refine ⟨⟨us, u, SqL.of k3, hu⟩, fun w H' hy => ?_⟩
    obtain ⟨rfl, hw⟩ := hy
    have hw2 := hw us (SqL.of k3)
    rw [hu] at hw2
    cases hw2
    exact ⟨Ev.rfl, ru, A2⟩
  · exact z.elim
open Classical in
noncomputable def lcDL (own : List Nat) (g : S → Prop) (t : GF) (c : TF) (m : EF) (ρ : En) : List D → M (List D)
  | [] => fun s => if g s then .ok [] s else .bad
  | x :: xs => fun s => if g s then bnd (t x (wipE ρ own)) (fun ρ1 => bnd (c ρ1) fun b => if b = true then bnd (m ρ1) (fun d => bnd (lcDL own g t c m ρ xs) fun r => ret (d :: r)) else lcDL own g t c m ρ xs) s else .bad
/-- all plain: a list; else a row of things -/
def mkDs (fr : Bool) (ds : List D) : M D := fun s => match plain ds with
  | some xs => mkL fr xs s
  | none => newR ds s
noncomputable def lcDE (row fr : Bool) (i : IFD) (own : List Nat) (t : GF) (c : TF) (m : EF) : EF := fun ρ => bnd (i ρ) fun xg s => if xg.1.length ≤ sizeLine then bnd (lcDL own xg.2 t c m ρ xg.1) (if row = true then newR else mkDs fr) s else .bad
theorem DVs.snoc {W : Wd} {H : Hp} {v : V} {d : D} (h : DV C.K W H v d) : ∀ {vs : List V} {ds : List D}, DVs C.K W H vs ds → DVs C.K W H (vs ++ [v]) (ds ++ [d])
  | _, _, .nil => .cons h .nil
  | _, _, .cons q r => .cons q (DVs.snoc h r)
theorem plain_dvs {W : Wd} {H : Hp} : ∀ {vs : List V} {ds : List D} {xs : List P}, DVs C.K W H vs ds → plain ds = some xs → PVs C.K W.fr H vs xs := by
  intro vs ds xs r
  induction r generalizing xs with
  | nil =>
    intro e
    cases e
    exact .nil
  | @cons v d vs ds h r ih =>
    intro e
    cases d with
    | obj n => cases e
    | p x =>
      cases hp : plain ds with
      | none =>
        unfold plain at e
        rw [hp] at e
        cases e
      | some ys =>
        unfold plain at e
        rw [hp] at e
        cases e
        exact .cons h (ih hp)
/-- a list of the heap that the world does not know yet: a row of things from now on -/
theorem own_goR {W : Wd} {H : Hp} {s : S} {ds : List D} {vs : List V} {Q : VK} {p : Addr} (A : Abs C.K W s H) (hp : H p = some (.lst vs)) (n1 : ¬ W.fr p) (n2 : p ∉ W.io) (n3 : ¬ W.pv p) (n4 : W.ow p = none) (r : DVs C.K W H vs ds) (g : Good (newR ds s) (Po C.K W H Q)) : Q (.ref p) H := by
  have there : H p ≠ none := by rw [hp]; exact fun z => nomatch z
  have notb : ∀ a ps, H a = some (.tbl ps) → a ≠ p := fun a ps h e => by
    rw [e, hp] at h
    cases h
  have ev : Ev W H (W.add p) H := ⟨⟨[p], rfl⟩, fun _ h => h, fun _ _ _ h => h, fun _ _ h => h, fun _ _ _ h => h, fun _ h => h, fun _ _ _ h => h, rfl, fun _ _ h => h⟩
  have at_ : (W.add p).io[s.length]? = some p := by
    show (W.io ++ [p])[s.length]? = some p
    rw [← A.len]
    simp
  refine g (W.add p) H _ ev ⟨p, at_, rfl⟩ ⟨by simp [Wd.add, A.len], ?_, fun a h => ?_, A.ft, fun n o h => ?_, fun a h => ⟨(A.pd a h).1, (A.pd a h).2.1, fun z => ?_⟩, A.tt, fun a ps h => ⟨(A.tn a ps h).1, (A.tn a ps h).2.1, fun z => (List.mem_append.mp z).elim (A.tn a ps h).2.2 fun e => notb a ps h (by simpa using e)⟩, fun b q h => ⟨(A.po b q h).1, (A.po b q h).2.1, (A.po b q h).2.2.1, fun z => (List.mem_append.mp z).elim (A.po b q h).2.2.2 fun e => (by
      have e : b = p := by simpa using e
      have h : W.ow b = some q := h
      rw [e, n4] at h
      cases h)⟩⟩
  · refine List.nodup_append.mpr ⟨A.nd, by simp, fun a ha b hb e => ?_⟩
    have hb' : b = p := by simpa using hb
    exact n2 (by rw [← hb', ← e]; exact ha)
  · rcases List.mem_append.mp h with h | h
    · exact A.tr a h
    · have e : a = p := by simpa using h
      rw [e]
      exact there
  · by_cases hn : n < s.length
    · rw [List.getElem?_append_left hn] at h
      obtain ⟨a, h1, h2, h3⟩ := A.ob n o h
      refine ⟨a, ?_, h2, OV.up ev rfl (fun _ _ _ => rfl) h3⟩
      show (W.io ++ [p])[n]? = some a
      rw [List.getElem?_append_left (by rw [A.len]; exact hn)]
      exact h1
    · have hn2 : n = s.length := by
        have := (List.getElem?_eq_some_iff.mp h).1
        simp at this
        omega
      subst hn2
      rw [List.getElem?_append_right (Nat.le_refl _), Nat.sub_self] at h
      cases h
      exact ⟨p, at_, n1, vs, hp, DVs.up ev r⟩
  · rcases List.mem_append.mp z with z | z
    · exact (A.pd a h).2.2 z
    · have e : a = p := by simpa using z
      exact n3 (by rw [← e]; exact h)
theorem lcd_go {i : IFD} {own : List Nat} {pl : List Nat} {t : GF} {c : TF} {row fr : Bool} {ti : TI} {tt : TG} {tc : TT} {te : TE} {σ : L2.St} {H : Hp} {W : Wd} {s : S} {ρ : En} {Q : VK}
    (q : ∀ σ H W s ρ (R : It → Hp → Prop), ER C W H σ ρ → Abs C.K W s H → Good (i ρ s) (fun xg s' => ∀ W' H' J, Ev W H W' H' → Abs C.K W' s' H' → ItD C.K J W' H' xg.1 xg.2 → R J H') → ti σ H R)
    (q1 : ∀ v d σ H W s ρ Q, DV C.K W H v d → ER C W H σ ρ → Abs C.K W s H → Good (t d ρ s) (PoG C W H pl σ Q) → tt v σ H Q) (hpl : ∀ i ∈ pl, i ∈ own)
    (q2 : ∀ σ H W s ρ Q, ER C W H σ ρ → Abs C.K W s H → Good (c ρ s) (PoT C.K W H Q) → tc σ H Q) (q3 : ∀ σ H W s ρ Q, ER C W H σ ρ → Abs C.K W s H → Good (m ρ s) (Po C.K W H Q) → te σ H Q)
    (er : ER C W H σ ρ) (A : Abs C.K W s H) (g : Good (lcDE row fr i own t c m ρ s) (Po C.K W H Q)) : tLc ti tt tc te own σ H Q := by
  refine q σ H W s ρ _ er A ((Good.bnd g).mono fun xg s1 z W1 H1 J e1 A1 io => ?_)
  obtain ⟨xs, gd⟩ := xg
  let mk : List D → M D := if row = true then newR else mkDs fr
  have z : Good (if xs.length ≤ sizeLine then bnd (lcDL own gd t c m ρ xs) mk s1 else .bad) (Po C.K W H Q) := z
  split at z
  · rename_i hsz
    intro D hD
    have io : ItD C.K J W1 H1 xs gd := io
    have nD1 : ¬ W1.fr D := fun z => A1.ft D z hD
    have nD2 : D ∉ W1.io := fun z => A1.tr D z hD
    have nD3 : ¬ W1.pv D := fun z => A1.pn z hD
    refine ⟨fun i m' H' => ∃ W' s' acc ys, Ev W1 H1 W' H' ∧ ¬ W'.fr D ∧ D ∉ W'.io ∧ ¬ W'.pv D ∧ W'.ow D = none ∧ H' D = some (.lst acc) ∧ DVs C.K W' H' acc ys ∧ Abs C.K W' s' H' ∧ i + m' = xs.length ∧ ys.length ≤ i ∧
      Good (lcDL own gd t c m ρ (xs.drop i) s') (fun r s2 => Good (mk (ys ++ r) s2) (Po C.K W' H' Q)), ⟨xs.length, W1, s1, [], [], Ev.new hD, nD1, nD2, nD3, A1.nw hD, upd_same, .nil, A1.new hD, by simp, Nat.le_refl _, ?_⟩, ?_⟩
    · exact (Good.bnd z).mono fun r s2 w => Good.mono w fun _ _ w2 => w2.up (e1.trans (Ev.new hD))
    rintro i m' H2 ⟨W2, s2, acc, ys, e2, f1, f2, f3, f4, hd, ra, A2, hm, hy, g2⟩
    have hid : Ev W2 H2 (W2.hide D) H2 := Ev.hide
    have Ah : Abs C.K (W2.hide D) s2 H2 := A2.hide ⟨_, hd⟩ f1 f2 f4
    by_cases hi : i < xs.length
    · rw [List.drop_eq_getElem_cons hi] at g2
      unfold lcDL at g2
      split at g2
      · rename_i gk
        obtain ⟨hgo, hyl⟩ := (io (W2.hide D) H2 s2 (e2.trans hid) Ah gk i).1 xs[i] (List.getElem?_eq_getElem hi)
        refine Or.inr ⟨hgo, fun H' => ∃ W' s' acc ys, Ev W1 H1 W' H' ∧ ¬ W'.fr D ∧ D ∉ W'.io ∧ ¬ W'.pv D ∧ W'.ow D = none ∧ H' D = some (.lst acc) ∧ DVs C.K W' H' acc ys ∧ Abs C.K W' s' H' ∧ ys.length ≤ i + 1 ∧
          Good (lcDL own gd t c m ρ (xs.drop (i + 1)) s') (fun r s2 => Good (mk (ys ++ r) s2) (Po C.K W' H' Q)), ?_, fun v H3 hv => ?_⟩
        · rintro H' ⟨W', s', acc', ys', b1, b2, b3, b4, b4o, b5, b6, b7, b8, b9⟩
          exact ⟨m' - 1, by omega, W', s', acc', ys', b1, b2, b3, b4, b4o, b5, b6, b7, by omega, b8, b9⟩
        · obtain ⟨e3, r3, A3⟩ := hyl v H3 hv
          have er3 : ER C (W2.hide D) H3 (L2.wipe σ own) (wipE ρ own) := ER.wip (er.up (e1.trans (e2.trans (hid.trans e3)))) own
          refine q1 v _ _ H3 _ s2 _ _ r3 er3 A3 ((Good.bnd g2).mono fun ρ1 s4 z4 W4 H4 σ4 e4 er4 A4 ag => ?_)
          refine ⟨wipe_agr ag hpl, q2 σ4 H4 W4 s4 ρ1 _ er4 A4 ((Good.bnd z4).mono fun bb s5 z5 W5 H5 e5 A5 => ?_)⟩
          cases bb with
          | true =>
            rw [if_pos rfl] at z5
            refine iteT (q3 σ4 H5 W5 s5 ρ1 _ (er4.up e5) A5 ((Good.bnd z5).mono fun d s6 z6 W6 H6 y e6 r6 A6 => ?_))
            have e36 : Ev (W2.hide D) H2 W6 H6 := e3.trans (e4.trans (e5.trans e6))
            have hd6 : H6 D = some (.lst acc) := e36.pk D _ (Or.inr rfl) hd
            have pp : W6.pv D := e36.pv D (Or.inr rfl)
            have hal : acc.length < sizeLine := by rw [Paired.length ra]; omega
            have ev : Ev W2 H2 (W6.show D) (upd H6 D (.lst (acc ++ [y]))) := Ev.grow e36 f3 A6 ⟨acc, hd6⟩
            obtain ⟨ev6, A7⟩ := Abs.grow (u := .lst (acc ++ [y])) A6 pp ⟨acc, hd6⟩
            have r7 : DV C.K (W6.show D) (upd H6 D (.lst (acc ++ [y]))) y d := by
              cases d with
              | p y' =>
                have r6' : PV C.K (W6.show D).fr H6 y y' := r6
                exact PV.up ev6 r6'
              | obj n => exact r6
            refine ⟨acc, hd6, hal, W6.show D, s6, acc ++ [y], ys ++ [d], e2.trans ev, (A6.pd D pp).2.1, (A6.pd D pp).2.2, fun z => z.2 rfl, A6.npo pp, upd_same, DVs.snoc r7 (DVs.up ev ra), A7, by rw [List.length_append]; simp only [List.length_singleton]; omega, ?_⟩
            refine (Good.bnd z6).mono fun r s7 w => ?_
            rw [List.append_assoc]
            exact Good.mono w fun _ _ w2 => w2.up ev
          | false =>
            rw [if_neg Bool.false_ne_true] at z5
            refine iteF ?_
            have e35 : Ev (W2.hide D) H2 W5 H5 := e3.trans (e4.trans e5)
            have hd5 : H5 D = some (.lst acc) := e35.pk D _ (Or.inr rfl) hd
            have pp : W5.pv D := e35.pv D (Or.inr rfl)
            have ev : Ev W2 H2 (W5.show D) (upd H5 D (.lst acc)) := Ev.grow e35 f3 A5 ⟨acc, hd5⟩
            obtain ⟨ev5, A7⟩ := Abs.grow (u := .lst acc) A5 pp ⟨acc, hd5⟩
            rw [upd_id hd5] at ev A7
            exact ⟨W5.show D, s5, acc, ys, e2.trans ev, (A5.pd D pp).2.1, (A5.pd D pp).2.2, fun z => z.2 rfl, A5.npo pp, hd5, DVs.up ev ra, A7, by omega, Good.mono z5 fun _ _ w => Good.mono w fun _ _ w2 => w2.up ev⟩
      · exact g2.elim
    · rw [List.drop_eq_nil_of_le (Nat.le_of_not_lt hi)] at g2
      unfold lcDL at g2
      split at g2
      · rename_i gk
        have g3 : Good (mk (ys ++ []) s2) (Po C.K W2 H2 Q) := g2
        rw [List.append_nil] at g3
        refine Or.inl ⟨(io W2 H2 s2 e2 A2 gk i).2 (show xs.length = i by omega), ?_⟩
        cases row with
        | true => exact own_goR A2 hd f1 f2 f3 f4 ra g3
        | false =>
          have g4 : Good (mkDs fr ys s2) (Po C.K W2 H2 Q) := g3
          unfold mkDs at g4
          cases hp : plain ys with
          | none =>
            rw [hp] at g4
            exact own_goR A2 hd f1 f2 f3 f4 ra g4
          | some zs =>
            rw [hp] at g4
            exact own_go A2 hd f1 f2 f3 f4 (plain_dvs ra hp) g4
      · exact g2.elim
  · exact z.elim
theorem s_lcD (row fr : Bool) (own : List (Str × Nat)) {i : IFD} {t : GF} {c : TF} {pl : List Nat} (hi : SID C sc N k tg iter i) (hg : SG C scope N k tg t pl) (ht : STs C scope N k ifs c) (he : SE C scope N k elt m) (hpl : ∀ i ∈ pl, i ∈ own.map (·.2) := by decide)
    (bk : blkC N sc scope own = true := by decide +kernel) (hs : ∀ env x, foldedSetIterable iter env x = pure x := by intro _ _; rfl) : SE C sc N k (.ListComp elt [⟨tg, iter, ifs, 0⟩] scope pos) (lcDE row fr i (own.map (·.2)) t c m) := fun X ok => by
  obtain ⟨ti, p, q⟩ := hi X ok
  obtain ⟨tt, p1, q1⟩ := uni_g ok hg
  obtain ⟨tc, p2, q2⟩ := uni_t ok ht
  obtain ⟨te, p3, q3⟩ := uni_e ok he
  refine ⟨_, pe_lc ok.calm (by rw [ok.nN]; exact ok.nd) p (by rw [ok.nN]; exact blk_lik (blkOk_by bk) ok.eL) (fun s H C cl fp => p1 (s, H, C, cl, fp)) (fun s H C cl fp => p2 (s, H, C, cl, fp)) (fun s H C cl fp => p3 (s, H, C, cl, fp)) (hs X.env), fun σ H W s ρ Q er A g => ?_⟩
  exact lcd_go q q1 hpl q2 q3 er A g
/-- row[:n] -/
def cutR (n : Nat) (ma : EF) : EF := fun ρ => bnd (ma ρ) fun d s => match rowAt d s with
  | some ds => newR (ds.take n) s
  | none => .bad
theorem s_slcR (n : Nat) (ha : SE C sc N k a ma) {u : Expr} (hu : SE C sc N k u (cE (.int n))) : SE C sc N k (.Subscript a (.Slice none (some u) none p2) pos) (cutR n ma) := fun X ok => by
  obtain ⟨ta, pa, qa⟩ := ha X ok
  obtain ⟨tl, pl, ql⟩ := o_none X ok
  obtain ⟨tu, pu, qu⟩ := (o_some hu) X ok
  refine ⟨_, pe_slice sl_list pa pl pu, fun σ H W s ρ Q er A g => ?_⟩
  refine qa σ H W s ρ _ er A ((Good.bnd g).mono fun d s1 z W1 H1 v e1 r1 A1 => ?_)
  split at z
  · rename_i ds hr
    refine ql σ H1 W1 s1 ρ _ (er.up e1) A1 (show Good (R.ok none s1) _ from fun W2 H2 e2 A2 => ?_)
    refine qu σ H2 W2 s1 ρ _ (er.up (e1.trans e2)) A2 (show Good (R.ok (some (n : Int)) s1) _ from fun W3 H3 e3 A3 => ?_)
    obtain ⟨m, a, vs, rfl, h1, h2, rfl, h3, h4⟩ := rowAt_obj (DV.up (e2.trans e3) r1) A3 hr
    rw [ok.eK]
    refine ⟨a, vs, rfl, SqL.of h3, fun p hp => ?_⟩
    rw [cut_front]
    have ev : Ev W3 H3 (W3.add p) (upd H3 p (.lst (vs.take n))) := Ev.add hp
    have hv : DVs C.K (W3.add p) (upd H3 p (.lst (vs.take n))) (vs.take n) (ds.take n) := CW.Paired.taken (DVs.up ev h4) n
    have A4 := A3.add (u := .row (ds.take n)) hp ⟨_, upd_same, hv⟩
    refine z (W3.add p) _ (.ref p) (e1.trans ((e2.trans e3).trans ev)) ⟨p, ?_, rfl⟩ A4
    show (W3.io ++ [p])[s1.length]? = some p
    rw [← A3.len]
    simp
  · exact z.elim
end
end CW
end
section
set_option maxRecDepth 100000
set_option maxHeartbeats 2000000
namespace CW
open PySem PySem.Spec PyProof.Rows L2
/-- a fraction as the program writes it -/
def fq (q : Rat) : P := if q.den = 1 then .int q.num else .tup [.int q.num, .int q.den]
/-- both numbers lie below 2 ^ b -/
def sz (q : Rat) (b : Nat) : Prop := q.num.natAbs < 2 ^ b ∧ q.den < 2 ^ b
def szi (i : Int) (b : Nat) : Prop := i.natAbs < 2 ^ b
instance (i : Int) (b : Nat) : Decidable (szi i b) := inferInstanceAs (Decidable (_ < _))
theorem szi.log {i : Int} {b : Nat} (h : szi i b) (hb : 0 < b) : i.natAbs.log2 < b := by
  by_cases h0 : i.natAbs = 0
  · rw [h0]; simpa using hb
  · exact (Nat.log2_lt h0).mpr h
theorem szi.mulOk {i j : Int} {a b : Nat} (hi : szi i a) (hj : szi j b) (h : a + b < 1000000) (ha : 0 < a) (hb : 0 < b) : mulOk i j := by
  have := hi.log ha
  have := hj.log hb
  exact Or.inl (by omega)
theorem szi.divOk {i j : Int} {b : Nat} (hj : szi j b) (h : b < 9000) (hb : 0 < b) (h0 : j ≠ 0) : divOk i j :=
  ⟨h0, PyProof.noPylong_of_log2 (by have := hj.log hb; omega)⟩
theorem szi.mono {i : Int} {a b : Nat} (h : szi i a) (hab : a ≤ b) : szi i b := Nat.lt_of_lt_of_le h (Nat.pow_le_pow_right (by decide) hab)
theorem szi.mul {i j : Int} {a b : Nat} (hi : szi i a) (hj : szi j b) : szi (i * j) (a + b) := by
  unfold szi at *
  rw [Int.natAbs_mul, Nat.pow_add]
  by_cases h : j.natAbs = 0
  · rw [h, Nat.mul_zero]; exact Nat.mul_pos (Nat.pow_pos (by decide)) (Nat.pow_pos (by decide))
  · exact Nat.mul_lt_mul_of_lt_of_lt hi hj
theorem szi.add {i j : Int} {a : Nat} (hi : szi i a) (hj : szi j a) : szi (i + j) (a + 1) := by
  unfold szi at *
  rw [Nat.pow_succ]
  have := Int.natAbs_add_le i j
  omega
theorem szi.neg {i : Int} {a : Nat} (hi : szi i a) : szi (-i) a := by
  unfold szi at *
  rwa [Int.natAbs_neg]
theorem szi.sub {i j : Int} {a : Nat} (hi : szi i a) (hj : szi j a) : szi (i - j) (a + 1) := by
  rw [Int.sub_eq_add_neg]
  exact hi.add hj.neg
/-- what the greatest common divisor, with the sign of the bottom, leaves -/
theorem low_eq {t b g : Int} (hb : b ≠ 0) (hg : g = b.sign * (Int.gcd t b : Nat)) : g ≠ 0 ∧ t = (Rat.divInt t b).num * g ∧ b = ((Rat.divInt t b).den : Int) * g := by
  have h0 : Int.gcd t b ≠ 0 := by
    intro h
    exact hb (Int.gcd_eq_zero_iff.mp h).2
  have hs : b.sign ≠ 0 := by
    intro h
    exact hb (Int.sign_eq_zero_iff_zero.mp h)
  have hg0 : g ≠ 0 := by
    rw [hg]
    exact Int.mul_ne_zero hs (by omega)
  have hss : b.sign * b.sign = 1 := by
    rcases Int.lt_trichotomy b 0 with h | h | h
    · rw [Int.sign_eq_neg_one_of_neg h]; rfl
    · exact absurd h hb
    · rw [Int.sign_eq_one_of_pos h]; rfl
  refine ⟨hg0, ?_, ?_⟩
  · rw [Rat.num_divInt, hg, Int.gcd_comm b t]
    obtain ⟨c, hc⟩ : (Int.gcd t b : Int) ∣ t := Int.gcd_dvd_left ..
    have e : b.sign * t = (b.sign * c) * (Int.gcd t b : Int) := by
      conv => lhs; rw [hc]
      simp only [Int.mul_comm, Int.mul_left_comm, Int.mul_assoc]
    rw [e, Int.mul_ediv_cancel _ (by omega)]
    have e2 : b.sign * c * (b.sign * (Int.gcd t b : Int)) = (b.sign * b.sign) * ((Int.gcd t b : Int) * c) := by
      simp only [Int.mul_comm, Int.mul_left_comm, Int.mul_assoc]
    rw [e2, hss, Int.one_mul]
    exact hc
  · rw [Rat.den_divInt, if_neg hb, hg, Int.gcd_comm b t]
    have e1 : b.natAbs = (b.natAbs / Int.gcd t b) * Int.gcd t b := (Nat.div_mul_cancel (Int.gcd_dvd_natAbs_right t b)).symm
    have e2 : b = b.sign * (b.natAbs : Int) := (Int.sign_mul_natAbs b).symm
    have e3 : (b.natAbs : Int) = ((b.natAbs / Int.gcd t b : Nat) : Int) * (Int.gcd t b : Int) := by
      rw [← Int.natCast_mul, ← e1]
    conv => lhs; rw [e2, e3]
    simp only [Int.mul_comm, Int.mul_left_comm, Int.mul_assoc]
theorem fdiv_exact {x g : Int} (h : g ≠ 0) : (x * g).fdiv g = x := Int.mul_fdiv_cancel _ h
theorem gcd_mod (a b : Int) (h : b ≠ 0) : Int.gcd b (a.fmod b) = Int.gcd a b := by
  have e : a.fmod b = a + b * (-(a.fdiv b)) := by
    have := Int.fmod_add_mul_fdiv a b
    have : b * -(a.fdiv b) = -(b * a.fdiv b) := by rw [Int.mul_neg]
    omega
  rw [e, Int.gcd_add_mul_left_right, Int.gcd_comm]
end CW
end
section
set_option maxRecDepth 100000
set_option maxHeartbeats 2000000
namespace CW
open PySem PySem.Spec PyProof.Rows L2
/-- how many bits a fraction needs -/
def hz (q : Rat) : Nat := max q.num.natAbs.log2 q.den.log2 + 1
theorem lt_log (n : Nat) : n < 2 ^ (n.log2 + 1) := by
  by_cases h : n = 0
  · subst h; decide
  · exact (Nat.log2_lt h).mp (Nat.lt_succ_self _)
theorem hz_sz (q : Rat) : sz q (hz q) := by
  constructor
  · exact Nat.lt_of_lt_of_le (lt_log _) (Nat.pow_le_pow_right (by decide) (by unfold hz; omega))
  · exact Nat.lt_of_lt_of_le (lt_log _) (Nat.pow_le_pow_right (by decide) (by unfold hz; omega))
theorem hz_pos (q : Rat) : 0 < hz q := Nat.succ_pos _
theorem hz_le {q : Rat} {b : Nat} (hb : 0 < b) (h : sz q b) : hz q ≤ b := by
  unfold hz
  have h1 : q.num.natAbs.log2 < b := by
    by_cases h0 : q.num.natAbs = 0
    · rw [h0]; exact hb
    · exact (Nat.log2_lt h0).mpr h.1
  have h2 : q.den.log2 < b := (Nat.log2_lt q.den_nz).mpr h.2
  omega
theorem hz_num (q : Rat) : szi q.num (hz q) := (hz_sz q).1
theorem hz_den (q : Rat) : szi (q.den : Int) (hz q) := by
  unfold szi
  rw [Int.natAbs_natCast]
  exact (hz_sz q).2
theorem sz_divInt {t b : Int} {n : Nat} (ht : szi t n) (hb : szi b n) (hn : 0 < n) : sz (Rat.divInt t b) n := by
  by_cases h0 : b = 0
  · subst h0
    rw [Rat.divInt_zero]
    exact ⟨Nat.pow_pos (by decide), Nat.one_lt_pow (by omega) (by decide)⟩
  · obtain ⟨hg, e1, e2⟩ := low_eq (t := t) (b := b) h0 rfl
    have hg1 : 1 ≤ (b.sign * (Int.gcd t b : Nat)).natAbs := by omega
    constructor
    · refine Nat.lt_of_le_of_lt ?_ ht
      conv => rhs; rw [e1, Int.natAbs_mul]
      exact Nat.le_mul_of_pos_right _ hg1
    · refine Nat.lt_of_le_of_lt ?_ hb
      conv => rhs; rw [e2, Int.natAbs_mul]
      exact Nat.le_mul_of_pos_right _ hg1
theorem hz_add (a b : Rat) : hz (a + b) ≤ hz a + hz b + 1 := by
  refine hz_le (by omega) ?_
  rw [Rat.add_def', ← Rat.divInt_ofNat]
  refine sz_divInt ?_ ?_ (by omega)
  · exact ((hz_num a).mul (hz_den b)).add (((hz_num b).mul (hz_den a)).mono (by omega))
  · rw [Int.natCast_mul]
    exact ((hz_den a).mul (hz_den b)).mono (by omega)
theorem hz_mul (a b : Rat) : hz (a * b) ≤ hz a + hz b := by
  have := hz_pos a
  refine hz_le (by omega) ?_
  rw [Rat.mul_def', ← Rat.divInt_ofNat]
  refine sz_divInt ?_ ?_ (by omega)
  · exact (hz_num a).mul (hz_num b)
  · rw [Int.natCast_mul]
    exact (hz_den a).mul (hz_den b)
theorem hz_neg (a : Rat) : hz (-a) = hz a := by
  unfold hz
  rw [Rat.neg_num, Rat.neg_den, Int.natAbs_neg]
theorem hz_inv (a : Rat) : hz a⁻¹ ≤ hz a := by
  refine hz_le (hz_pos a) ?_
  rw [Rat.inv_def]
  exact sz_divInt (hz_den a) (hz_num a) (hz_pos a)
theorem hz_div (a b : Rat) : hz (a / b) ≤ hz a + hz b := by
  rw [Rat.div_def]
  have := hz_mul a b⁻¹
  have := hz_inv b
  omega
theorem hz_int (n : Int) : hz (n : Rat) = n.natAbs.log2 + 1 := by
  have h : ((1 : Nat)).log2 = 0 := by decide
  show max n.natAbs.log2 (1 : Nat).log2 + 1 = _
  rw [h]
  omega
theorem mulOk_szi {i j : Int} {a b : Nat} (hi : szi i a) (hj : szi j b) (h : a + b ≤ 100000) (ha : 0 < a) (hb : 0 < b) : mulOk i j := hi.mulOk hj (by omega) ha hb
end CW
end
section
set_option maxRecDepth 100000
set_option maxHeartbeats 2000000
namespace CW
open PySem PySem.Spec PyProof.Rows L2
theorem fmod_less (a : Int) {b : Int} (h : b ≠ 0) : (a.fmod b).natAbs < b.natAbs := by
  rcases Int.lt_or_gt_of_ne h with hb | hb
  · have e := Int.neg_fmod_neg (-a) (-b)
    rw [Int.neg_neg, Int.neg_neg] at e
    have h1 := Int.fmod_nonneg_of_pos (-a) (b := -b) (by omega)
    have h2 := Int.fmod_lt_of_pos (-a) (b := -b) (by omega)
    omega
  · have h1 := Int.fmod_nonneg_of_pos a hb
    have h2 := Int.fmod_lt_of_pos a hb
    omega
def fqPy (q : Rat) : PyData := if q.den = 1 then .int q.num else .tuple [.int q.num, .int q.den]
theorem toPy_fq (q : Rat) : toPy (fq q) = some (fqPy q) := by
  unfold fq fqPy
  split <;> rfl
theorem shaped_fq (q : Rat) : SeqAt.shaped (fqPy q) = true := by
  unfold fqPy
  split
  · rfl
  · rfl
theorem eqv_fq (a b : Rat) : PyData.eqv (fqPy a) (fqPy b) = decide (a = b) := by
  unfold fqPy
  split <;> split
  · rename_i h1 h2
    rw [eqv_int]
    exact decide_eq_decide.mpr ⟨fun h => Rat.ext h (h1.trans h2.symm), fun h => by rw [h]⟩
  · rename_i h1 h2
    rw [show PyData.eqv (.int a.num) (.tuple [.int b.num, .int b.den]) = false from by unfold PyData.eqv; rfl]
    exact (decide_eq_false fun h => h2 (by rw [← h]; exact h1)).symm
  · rename_i h1 h2
    rw [show PyData.eqv (.tuple [.int a.num, .int a.den]) (.int b.num) = false from by unfold PyData.eqv; rfl]
    exact (decide_eq_false fun h => h1 (by rw [h]; exact h2)).symm
  · rename_i h1 h2
    have e : PyData.eqv (.tuple [.int a.num, .int a.den]) (.tuple [.int b.num, .int b.den]) = (decide (a.num = b.num) && (decide ((a.den : Int) = b.den) && true)) := by
      show PyData.eqvAll _ _ = _
      unfold PyData.eqvAll
      rw [eqv_int]
      unfold PyData.eqvAll
      rw [eqv_int]
      unfold PyData.eqvAll
      rfl
    rw [e]
    by_cases h : a = b
    · subst h; simp
    · rw [decide_eq_false h]
      by_cases hn : a.num = b.num
      · have hd : ¬ (a.den : Int) = b.den := fun hd => h (Rat.ext hn (by omega))
        simp [hd]
      · simp [hn]
theorem eq_fq (neg : Bool) (a b : Rat) (s : S) : eqD neg (.p (fq a)) (.p (fq b)) s = .ok (.p (.bl (if neg = true then !decide (a = b) else decide (a = b)))) s := by
  rw [eq_dat neg (d := fqPy a) (e := fqPy b) (by exact toPy_fq a) (by exact toPy_fq b) ⟨shaped_fq a, shaped_fq b⟩, eqv_fq]
theorem ne_fq0 (a : Rat) (s : S) : eqD true (.p (fq a)) (.p (.int 0)) s = .ok (.p (.bl (!decide (a = 0)))) s := eq_fq true a 0 s
end CW
end
section
set_option maxRecDepth 100000
set_option maxHeartbeats 2000000
namespace CW
open PySem PySem.Spec PyProof.Rows L2
theorem wide_fq {q : Rat} (h : hz q ≤ 7800) : wideP (fqPy q) = true := by
  have h1 : q.num.natAbs.log2 < 8000 := by unfold hz at h; omega
  have h2 : q.den.log2 < 8000 := by unfold hz at h; omega
  unfold fqPy
  split
  · simp only [wideP]
    exact decide_eq_true h1
  · simp [wideP, wideL, h1, h2]
theorem noDict_fq (q : Rat) : (fqPy q).hasDict = false := by
  unfold fqPy
  split <;> simp [PyData.hasDict, PyData.hasDictAll]
theorem toS_len {i : Int} (h : i.natAbs.log2 < 1920) : (Str.ofString (toString i)).length ≤ 1921 := by
  rw [PySem.ofString_length]
  exact int_text_length_le (k := 1920) (by decide) h
theorem tupleText2_len (a b : Str) : (tupleText [a, b]).length = a.length + b.length + 4 := by
  have e : tupleText [a, b] = ("(" : Str) ++ (a ++ ", " ++ b) ++ ((if 2 == 1 then ",)" else ")" : String) : Str) := rfl
  rw [e, strLen_append, strLen_append, strLen_append, strLen_append]
  have e1 : ((", " : String) : Str).length = 2 := rfl
  have e2 : ((if 2 == 1 then ",)" else ")" : String) : Str).length = 1 := rfl
  have e3 : ("(" : Str).length = 1 := rfl
  omega
theorem strOk_app {x y : Str} (hx : PyData.strOk x = true) (hy : PyData.strOk y = true) : PyData.strOk (x ++ y) = true := by
  show (x.cps ++ y.cps).all _ = true
  rw [Array.all_append]
  exact Bool.and_eq_true_iff.mpr ⟨hx, hy⟩
theorem strOk_of (s : String) : PyData.strOk (Str.ofString s) = true := by
  unfold PyData.strOk
  rw [Str.ofString_eq_toList]
  simp only [List.all_toArray, List.all_map, List.all_eq_true, Function.comp_apply, decide_eq_true_eq]
  intro c _
  have := c.valid
  rcases this with h | h
  · exact Nat.lt_trans h (by decide)
  · exact h.2
theorem strOk_fq (q : Rat) : PyData.strOk (fqPy q).shown = true := by
  unfold fqPy
  split
  · exact strOk_of _
  · show PyData.strOk (("(" : Str) ++ (Str.ofString (toString q.num) ++ ", " ++ Str.ofString (toString (q.den : Int))) ++ ((if 2 == 1 then ",)" else ")" : String) : Str)) = true
    exact strOk_app (strOk_app (strOk_of _) (strOk_app (strOk_app (strOk_of _) (strOk_of _)) (strOk_of _))) (strOk_of _)
theorem shaped_str {x : Str} (h : PyData.strOk x = true) : SeqAt.shaped (.str x) = true := by
  unfold SeqAt.shaped PyData.canLay0 PyData.depth
  simp [h]
theorem eq_str (neg : Bool) (a b : Str) (s : S) (ha : PyData.strOk a = true) (hb : PyData.strOk b = true) : eqD neg (.p (.str a)) (.p (.str b)) s = .ok (.p (.bl (if neg = true then !(a == b) else (a == b)))) s := by
  rw [eq_dat neg (d := .str a) (e := .str b) rfl rfl ⟨shaped_str ha, shaped_str hb⟩]
  unfold PyData.eqv
  rfl
end CW
end
section
set_option maxRecDepth 100000
set_option maxHeartbeats 2000000
namespace CW
open PySem PySem.Spec PyProof.Rows L2
/-- q is a whole number of at most n bits over the k-th power of W -/
def Wn (W : Int) (n k : Nat) (q : Rat) : Prop := ∃ N : Int, q * (W : Rat) ^ k = N ∧ szi N n
section
variable {W : Int} {w n m k l : Nat} {a b : Rat}
theorem rc_mul (a b : Int) : ((a * b : Int) : Rat) = (a : Rat) * b := Rat.intCast_mul a b
theorem rc_add (a b : Int) : ((a + b : Int) : Rat) = (a : Rat) + b := Rat.intCast_add a b
theorem rc_neg (a : Int) : ((-a : Int) : Rat) = -(a : Rat) := Rat.intCast_neg a
theorem rc_pow (a : Int) (k : Nat) : ((a ^ k : Int) : Rat) = (a : Rat) ^ k := by
  induction k with
  | zero => rfl
  | succ k ih => rw [Int.pow_succ, rc_mul, ih, Rat.pow_succ]
theorem rpow_add (x : Rat) (k l : Nat) : x ^ (k + l) = x ^ k * x ^ l := by
  induction l with
  | zero => rw [Nat.add_zero, Rat.pow_zero, Rat.mul_one]
  | succ l ih => rw [← Nat.add_assoc, Rat.pow_succ, ih, Rat.pow_succ, Rat.mul_assoc]
theorem szi_pow {i : Int} (h : szi i w) : ∀ k, szi (i ^ k) (w * k + 1)
  | 0 => by rw [Int.pow_zero]; show 1 < 2 ^ 1; decide
  | k + 1 => by
    rw [Int.pow_succ]
    exact ((szi_pow h k).mul h).mono (by rw [Nat.mul_succ]; omega)
theorem Wn.mul (ha : Wn W n k a) (hb : Wn W m l b) : Wn W (n + m) (k + l) (a * b) := by
  obtain ⟨A, a1, a2⟩ := ha
  obtain ⟨B, b1, b2⟩ := hb
  refine ⟨A * B, ?_, a2.mul b2⟩
  rw [rpow_add, rc_mul, ← a1, ← b1]
  grind
theorem Wn.add (ha : Wn W n k a) (hb : Wn W n k b) : Wn W (n + 1) k (a + b) := by
  obtain ⟨A, a1, a2⟩ := ha
  obtain ⟨B, b1, b2⟩ := hb
  refine ⟨A + B, ?_, a2.add b2⟩
  rw [rc_add, ← a1, ← b1]
  grind
theorem Wn.neg (ha : Wn W n k a) : Wn W n k (-a) := by
  obtain ⟨A, a1, a2⟩ := ha
  refine ⟨-A, ?_, a2.neg⟩
  rw [rc_neg, ← a1]
  grind
theorem Wn.mono (ha : Wn W n k a) (h : n ≤ m) : Wn W m k a := by
  obtain ⟨A, a1, a2⟩ := ha
  exact ⟨A, a1, a2.mono h⟩
theorem Wn.up (hw : szi W w) (ha : Wn W n k a) (j : Nat) : Wn W (n + (w * j + 1)) (k + j) a := by
  obtain ⟨A, a1, a2⟩ := ha
  refine ⟨A * W ^ j, ?_, a2.mul (szi_pow hw j)⟩
  rw [rpow_add, rc_mul, rc_pow, ← a1]
  grind
/-- raised to what is asked -/
theorem Wn.to (hw : szi W w) (ha : Wn W n k a) (h : k ≤ l) (h2 : n + (w * (l - k) + 1) ≤ m) : Wn W m l a := by
  have := (ha.up hw (l - k)).mono h2
  rwa [show k + (l - k) = l by omega] at this
theorem Wn.int {c : Int} (h : szi c n) : Wn W n 0 (c : Rat) := ⟨c, by rw [Rat.pow_zero, Rat.mul_one], h⟩
theorem Wn.hz (h0 : W ≠ 0) (hw : szi W w) (ha : Wn W n k a) (h1 : n ≤ m) (h2 : w * k + 1 ≤ m) : hz a ≤ m := by
  obtain ⟨A, a1, a2⟩ := ha
  have hp : (W : Rat) ^ k ≠ 0 := by
    rw [← rc_pow]
    intro h
    have h' : (W ^ k : Int) = 0 := by exact_mod_cast h
    exact Int.pow_ne_zero h0 h'
  have e : a = Rat.divInt A (W ^ k) := by
    rw [Rat.divInt_eq_div, rc_pow, ← a1]
    grind
  refine hz_le (by omega) ?_
  rw [e]
  exact sz_divInt (a2.mono h1) ((szi_pow hw k).mono h2) (by omega)
end
end CW
end
section
set_option maxRecDepth 100000
set_option maxHeartbeats 2000000
namespace CW
open PySem PySem.Spec PyProof.Rows L2
def prodR (acc : Rat) (r : List Rat) : Rat := r.foldl (· * ·) acc
def sumR (acc : Rat) (rows : List (List Rat)) : Rat := rows.foldl (fun a r => a + prodR 1 r) acc
def totR : List Rat → Nat
  | [] => 0
  | q :: r => hz q + totR r
def totZ : List (List Rat) → Nat
  | [] => 0
  | r :: rows => totR r + 2 + totZ rows
theorem prodR_hz : ∀ (r : List Rat) (acc : Rat), hz (prodR acc r) ≤ hz acc + totR r
  | [], acc => Nat.le_refl _
  | q :: r, acc => by
    have h := prodR_hz r (acc * q)
    have := hz_mul acc q
    show hz (prodR (acc * q) r) ≤ hz acc + (hz q + totR r)
    omega
noncomputable def sumB (pr su : List D → M D) : SF := seqF (asgF (cE (.int 0)) (setG 1)) (seqF (forF (rowI (vE 0)) (setG 2) (seqF (asgF (cE (.int 1)) (setG 3)) (seqF (forF (rowI (vE 2)) (setG 4) (asgF (calE pr [vE 3, vE 4]) (setG 3))) (asgF (calE su [vE 1, vE 3]) (setG 1))))) (retF (vE 1)))
section
variable {pr su : List D → M D} (hp : ∀ a b s, hz a + hz b ≤ 8800 → pr [.p (fq a), .p (fq b)] s = .ok (.p (fq (a * b))) s) (hs : ∀ a b s, hz a + hz b ≤ 8800 → su [.p (fq a), .p (fq b)] s = .ok (.p (fq (a + b))) s)
include hp in
theorem sum_inner (x0 x1 x2 : Option D) (s : S) : ∀ (r : List Rat) (acc : Rat) (y : Option D), hz acc + totR r ≤ 8800 →
    ∃ y', forL [] (setG 4) (asgF (calE pr [vE 3, vE 4]) (setG 3)) (r.map fq) [x0, x1, x2, some (.p (fq acc)), y] s = .ok (.nx [x0, x1, x2, some (.p (fq (prodR acc r))), y']) s
  | [], acc, y, _ => ⟨y, forL_nil⟩
  | q :: r, acc, y, h => by
    have h' : hz acc + (hz q + totR r) ≤ 8800 := h
    have := hz_mul acc q
    obtain ⟨y', h1⟩ := sum_inner x0 x1 x2 s r (acc * q) (some (.p (fq q))) (by omega)
    refine ⟨y', ?_⟩
    have h2 := hp acc q s (by omega)
    rw [List.map_cons, forL_cons]
    simp [h2]
    exact h1
include hp hs in
theorem sum_outer (x0 : Option D) (s : S) (mkr : List P → P) (hm : ∀ (ρ : En) (xs : List P), ρ[2]? = some (some (.p (mkr xs))) → rowI (vE 2) ρ s = .ok (xs, []) s) : ∀ (rows : List (List Rat)) (acc : Rat) (y2 y3 y4 : Option D), hz acc + totZ rows ≤ 8800 →
    ∃ y2' y3' y4', forL [] (setG 2) (seqF (asgF (cE (.int 1)) (setG 3)) (seqF (forF (rowI (vE 2)) (setG 4) (asgF (calE pr [vE 3, vE 4]) (setG 3))) (asgF (calE su [vE 1, vE 3]) (setG 1)))) (rows.map fun r => mkr (r.map fq)) [x0, some (.p (fq acc)), y2, y3, y4] s = .ok (.nx [x0, some (.p (fq (sumR acc rows))), y2', y3', y4']) s
  | [], acc, y2, y3, y4, _ => ⟨y2, y3, y4, forL_nil⟩
  | r :: rows, acc, y2, y3, y4, h => by
    have h' : hz acc + (totR r + 2 + totZ rows) ≤ 8800 := h
    have h1 : hz 1 = 1 := by decide
    have hpz := prodR_hz r 1
    have haz := hz_add acc (prodR 1 r)
    obtain ⟨y', e1⟩ := sum_inner hp x0 (some (.p (fq acc))) (some (.p (mkr (r.map fq)))) s r 1 y4 (by omega)
    obtain ⟨y2', y3', y4', e2⟩ := sum_outer x0 s mkr hm rows (acc + prodR 1 r) (some (.p (mkr (r.map fq)))) (some (.p (fq (prodR 1 r)))) y' (by omega)
    refine ⟨y2', y3', y4', ?_⟩
    have h2 := hs acc (prodR 1 r) s (by omega)
    have hf : forF (rowI (vE 2)) (setG 4) (asgF (calE pr [vE 3, vE 4]) (setG 3)) [x0, some (.p (fq acc)), some (.p (mkr (r.map fq))), some (.p (.int 1)), y4] s = .ok (.nx [x0, some (.p (fq acc)), some (.p (mkr (r.map fq))), some (.p (fq (prodR 1 r))), y']) s := by
      rw [forF_ev, hm _ (r.map fq) rfl, R.bind_ok]
      exact e1
    rw [List.map_cons, forL_cons]
    simp [hf, h2]
    exact e2
include hp hs in
theorem sumB_ok (s : S) (mkr : List P → P) (hm : ∀ (ρ : En) (xs : List P), ρ[2]? = some (some (.p (mkr xs))) → rowI (vE 2) ρ s = .ok (xs, []) s) (rows : List (List Rat)) (v : Rat) (hv : sumR 0 rows = v) (h : totZ rows ≤ 8700) :
    defM 1 5 (sumB pr su) [.p (.lst (rows.map fun r => mkr (r.map fq)))] s = .ok (.p (fq v)) s := by
  have h0 : hz 0 = 1 := by decide
  obtain ⟨y2', y3', y4', e1⟩ := sum_outer hp hs (some (.p (.lst (rows.map fun r => mkr (r.map fq))))) s mkr hm rows 0 none none none (by omega)
  subst hv
  have hf : forF (rowI (vE 0)) (setG 2) (seqF (asgF (cE (.int 1)) (setG 3)) (seqF (forF (rowI (vE 2)) (setG 4) (asgF (calE pr [vE 3, vE 4]) (setG 3))) (asgF (calE su [vE 1, vE 3]) (setG 1)))) [some (.p (.lst (rows.map fun r => mkr (r.map fq)))), some (.p (.int 0)), none, none, none] s = .ok (.nx [some (.p (.lst (rows.map fun r => mkr (r.map fq)))), some (.p (fq (sumR 0 rows))), y2', y3', y4']) s := by
    rw [forF_ev, rowI_lst (xs := rows.map fun r => mkr (r.map fq)) (s' := s) rfl, R.bind_ok]
    exact e1
  simp [defM_if, sumB, hf]
end
theorem vE_of {ρ : En} {i : Nat} {d : D} {s : S} (h : ρ[i]? = some (some d)) : vE i ρ s = .ok d s := by
  unfold vE
  rw [h]
theorem hm_tup (s : S) (ρ : En) (xs : List P) (h : ρ[2]? = some (some (.p (.tup xs)))) : rowI (vE 2) ρ s = .ok (xs, []) s := rowI_ev (vE_of h)
def b2 (a1 a2 a3 a4 a6 : Rat) : Rat := a1 * a1 + 4 * a2
def b4 (a1 a2 a3 a4 a6 : Rat) : Rat := 2 * a4 + a1 * a3
def b6 (a1 a2 a3 a4 a6 : Rat) : Rat := a3 * a3 + 4 * a6
def b8 (a1 a2 a3 a4 a6 : Rat) : Rat := a1 * a1 * a6 + 4 * a2 * a6 - a1 * a3 * a4 + a2 * a3 * a3 - a4 * a4
def dD (p q r t : Rat) : Rat := 9 * p * q * r - p * p * t - 8 * q * q * q - 27 * r * r
def dd (a1 a2 a3 a4 a6 : Rat) : Rat := dD (b2 a1 a2 a3 a4 a6) (b4 a1 a2 a3 a4 a6) (b6 a1 a2 a3 a4 a6) (b8 a1 a2 a3 a4 a6)
def c4 (a1 a2 a3 a4 a6 : Rat) : Rat := b2 a1 a2 a3 a4 a6 * b2 a1 a2 a3 a4 a6 - 24 * b4 a1 a2 a3 a4 a6
def c6 (a1 a2 a3 a4 a6 : Rat) : Rat := 36 * b2 a1 a2 a3 a4 a6 * b4 a1 a2 a3 a4 a6 - b2 a1 a2 a3 a4 a6 * b2 a1 a2 a3 a4 a6 * b2 a1 a2 a3 a4 a6 - 216 * b6 a1 a2 a3 a4 a6
/-- degree k over W, c bits more than n a degree -/
def Dg (W : Int) (n k c : Nat) (q : Rat) : Prop := Wn W (n * k + c) k q
section
variable {W : Int} {n k l c d : Nat} {a b : Rat}
theorem Dg.mono (h : Dg W n k c a) (hc : c ≤ d := by omega) : Dg W n k d a := Wn.mono h (by omega)
theorem Dg.mul (ha : Dg W n k c a) (hb : Dg W n l d b) : Dg W n (k + l) (c + d) (a * b) := Wn.mono (Wn.mul ha hb) (by rw [Nat.mul_add]; omega)
theorem Dg.add (ha : Dg W n k c a) (hb : Dg W n k c b) : Dg W n k (c + 1) (a + b) := Wn.mono (Wn.add ha hb) (by omega)
theorem Dg.neg (ha : Dg W n k c a) : Dg W n k c (-a) := Wn.neg ha
theorem Dg.sub (ha : Dg W n k c a) (hb : Dg W n k c b) : Dg W n k (c + 1) (a - b) := by
  rw [Rat.sub_eq_add_neg]
  exact ha.add hb.neg
theorem Dg.up (hw : szi W n) (ha : Dg W n k c a) (hkl : k ≤ l := by omega) (hc : c + 1 ≤ d := by omega) : Dg W n l d a := by
  refine Wn.to hw ha hkl ?_
  have : n * l = n * k + n * (l - k) := by rw [← Nat.mul_add]; congr 1; omega
  omega
theorem Dg.int {i : Int} (h : szi i c) : Dg W n 0 c (i : Rat) := Wn.mono (Wn.int h) (by omega)
theorem Dg.hz (h0 : W ≠ 0) (hw : szi W n) (h : Dg W n k c a) : hz a ≤ n * k + c + 1 := Wn.hz h0 hw h (by omega) (by omega)
end
/-- the sizes of a curve: over one bottom W, both of n bits -/
structure Cv (W : Int) (n : Nat) (a1 a2 a3 a4 a6 : Rat) : Prop where
  W0 : W ≠ 0
  hw : szi W n
  h1 : Dg W n 1 0 a1
  h2 : Dg W n 1 0 a2
  h3 : Dg W n 1 0 a3
  h4 : Dg W n 1 0 a4
  h6 : Dg W n 1 0 a6
section
variable {W : Int} {n : Nat} {a1 a2 a3 a4 a6 : Rat}
theorem Cv.b2 (c : Cv W n a1 a2 a3 a4 a6) : Dg W n 2 5 (b2 a1 a2 a3 a4 a6) :=
  ((c.h1.mul c.h1).mono (d := 4)).add (((Dg.int (i := 4) (c := 3) (by decide)).mul c.h2).up (l := 2) c.hw)
theorem Cv.b4 (c : Cv W n a1 a2 a3 a4 a6) : Dg W n 2 4 (b4 a1 a2 a3 a4 a6) :=
  (((Dg.int (i := 2) (c := 2) (by decide)).mul c.h4).up (l := 2) c.hw).add ((c.h1.mul c.h3).mono (d := 3))
theorem Cv.b6 (c : Cv W n a1 a2 a3 a4 a6) : Dg W n 2 5 (b6 a1 a2 a3 a4 a6) :=
  ((c.h3.mul c.h3).mono (d := 4)).add (((Dg.int (i := 4) (c := 3) (by decide)).mul c.h6).up (l := 2) c.hw)
theorem Cv.b8 (c : Cv W n a1 a2 a3 a4 a6) : Dg W n 3 8 (b8 a1 a2 a3 a4 a6) :=
  (((((c.h1.mul c.h1).mul c.h6).mono (d := 4)).add ((((Dg.int (i := 4) (c := 3) (by decide)).mul c.h2).mul c.h6).up (l := 3) c.hw (d := 4))).sub (((c.h1.mul c.h3).mul c.h4).mono (d := 5))).add (((c.h2.mul c.h3).mul c.h3).mono (d := 6)) |>.sub ((c.h4.mul c.h4).up (l := 3) c.hw (d := 7))
end
end CW
end
section
set_option maxRecDepth 100000
set_option maxHeartbeats 2000000
namespace CW
open PySem PySem.Spec PyProof.Rows L2
/-- may be shown: at most n deep, at most l long -/
structure Rp (d : PyData) (n l : Nat) : Prop where
  sh : wideP d = true
  de : d.depth ≤ n
  ln : d.shown.length ≤ l
  ok : PyData.strOk d.shown = true
theorem Rp.mono {d : PyData} {n l n' l' : Nat} (h : Rp d n l) (hn : n ≤ n') (hl : l ≤ l') : Rp d n' l' := ⟨h.sh, Nat.le_trans h.de hn, Nat.le_trans h.ln hl, h.ok⟩
theorem Rp.int {i : Int} (h : i.natAbs.log2 < 1920) : Rp (.int i) 0 2000 := by
  refine ⟨by simp [wideP]; omega, Nat.le_refl _, ?_, ?_⟩
  · have := toS_len h
    show (Str.ofString (toString i)).length ≤ 2000
    omega
  · exact strOk_of _
/-- of up to 7800 bits -/
theorem Rp.fqW {q : Rat} (h : hz q ≤ 7800) : Rp (fqPy q) 1 17000 := by
  refine ⟨wide_fq h, ?_, ?_, strOk_fq q⟩
  · unfold fqPy
    split <;> simp [PyData.depth, PyData.depthAll]
  · have h1 : q.num.natAbs.log2 < 8000 := by unfold hz at h; omega
    have h2 : (q.den : Int).natAbs.log2 < 8000 := by rw [Int.natAbs_natCast]; unfold hz at h; omega
    have l1 : (Str.ofString (toString q.num)).length ≤ 8001 := by
      rw [PySem.ofString_length]
      exact int_text_length_le (k := 8000) (by decide) h1
    have l2 : (Str.ofString (toString (q.den : Int))).length ≤ 8001 := by
      rw [PySem.ofString_length]
      exact int_text_length_le (k := 8000) (by decide) h2
    unfold fqPy
    split
    · show (Str.ofString (toString q.num)).length ≤ 17000
      omega
    · show (tupleText [Str.ofString (toString q.num), Str.ofString (toString (q.den : Int))]).length ≤ 17000
      rw [tupleText2_len]
      omega
theorem Rp.non : Rp .none 0 4 := ⟨rfl, Nat.le_refl _, by decide, strOk_of "None"⟩
theorem Rp.bl (b : Bool) : Rp (.bool b) 0 5 := by
  cases b
  · exact ⟨rfl, Nat.le_refl _, by decide, strOk_of "False"⟩
  · exact ⟨rfl, Nat.le_refl _, by decide, strOk_of "True"⟩
theorem join_le (L : Nat) : ∀ ts : List Str, (∀ t ∈ ts, t.length ≤ L) → (Str.join ", " ts).length ≤ (L + 2) * ts.length
  | [], _ => Nat.zero_le _
  | [x], h => by
    have := h x (List.mem_cons_self)
    show x.length ≤ (L + 2) * 1
    omega
  | x :: y :: r, h => by
    have ih := join_le L (y :: r) fun t ht => h t (List.mem_cons_of_mem _ ht)
    have := h x (List.mem_cons_self)
    show (x ++ ", " ++ Str.join ", " (y :: r)).length ≤ (L + 2) * ((y :: r).length + 1)
    have e2 : ((", " : String) : Str).length = 2 := rfl
    rw [strLen_append, strLen_append, e2, Nat.mul_succ]
    omega
theorem join_ok : ∀ ts : List Str, (∀ t ∈ ts, PyData.strOk t = true) → PyData.strOk (Str.join ", " ts) = true
  | [], _ => by
    unfold Str.join PyData.strOk Str.empty
    simp
  | [x], h => h x (List.mem_cons_self)
  | x :: y :: r, h => strOk_app (strOk_app (h x (List.mem_cons_self)) (strOk_of _)) (join_ok (y :: r) fun t ht => h t (List.mem_cons_of_mem _ ht))
theorem textFrom_le (L : Nat) : ∀ (ts : List Str) (k : Nat) (acc : Str), (∀ t ∈ ts, t.length ≤ L) → (textFrom k acc ts).length ≤ acc.length + (L + 2) * ts.length
  | [], k, acc, _ => Nat.le_add_right _ _
  | t :: r, k, acc, h => by
    have ih := textFrom_le L r (k + 1) (acc ++ (if k > 0 then ", " else "" : String) ++ t) fun u hu => h u (List.mem_cons_of_mem _ hu)
    have := h t (List.mem_cons_self)
    have e : (acc ++ (if k > 0 then ", " else "" : String) ++ t).length ≤ acc.length + 2 + t.length := by
      rw [strLen_append, strLen_append]
      have : ((if k > 0 then ", " else "" : String) : Str).length ≤ 2 := by split <;> decide
      omega
    show (textFrom (k + 1) (acc ++ (if k > 0 then ", " else "" : String) ++ t) r).length ≤ acc.length + (L + 2) * (r.length + 1)
    rw [Nat.mul_succ]
    omega
theorem textFrom_ok : ∀ (ts : List Str) (k : Nat) (acc : Str), PyData.strOk acc = true → (∀ t ∈ ts, PyData.strOk t = true) → PyData.strOk (textFrom k acc ts) = true
  | [], k, acc, h, _ => h
  | t :: r, k, acc, h, ht => textFrom_ok r (k + 1) (acc ++ (if k > 0 then ", " else "" : String) ++ t) (strOk_app (strOk_app h (strOk_of _)) (ht t (List.mem_cons_self))) fun u hu => ht u (List.mem_cons_of_mem _ hu)
theorem shownAll_eq : ∀ ds : List PyData, PyData.shownAll ds = ds.map PyData.shown
  | [] => by simp [PyData.shownAll]
  | d :: ds => by simp [PyData.shownAll, shownAll_eq ds]
theorem hasDictAll_eq : ∀ ds : List PyData, (∀ d ∈ ds, d.hasDict = false) → PyData.hasDictAll ds = false
  | [], _ => by simp [PyData.hasDictAll]
  | d :: ds, h => by simp [PyData.hasDictAll, h d List.mem_cons_self, hasDictAll_eq ds fun x hx => h x (List.mem_cons_of_mem _ hx)]
theorem depthAll_le (n : Nat) : ∀ ds : List PyData, (∀ d ∈ ds, d.depth ≤ n) → PyData.depthAll ds ≤ n
  | [], _ => by simp [PyData.depthAll]
  | d :: ds, h => by
    have h1 := h d List.mem_cons_self
    have h2 := depthAll_le n ds fun x hx => h x (List.mem_cons_of_mem _ hx)
    simp only [PyData.depthAll]
    omega
theorem Rp.tup {ds : List PyData} {n L : Nat} (h : ∀ d ∈ ds, Rp d n L) : Rp (.tuple ds) (n + 1) ((L + 2) * ds.length + 3) := by
  refine ⟨by simp only [wideP]; exact wideL_all fun d hd => (h d hd).sh, ?_, ?_, ?_⟩
  · have := depthAll_le n ds fun d hd => (h d hd).de
    simp only [PyData.depth]
    omega
  · simp only [PyData.shown]
    rw [shownAll_eq]
    unfold tupleText
    rw [strLen_append, strLen_append]
    have h1 := join_le L (ds.map PyData.shown) fun t ht => by
      obtain ⟨d, hd, rfl⟩ := List.mem_map.mp ht
      exact (h d hd).ln
    rw [List.length_map] at h1
    have e1 : ((("(" : String) : Str)).length = 1 := rfl
    have e3 : (((if (ds.map PyData.shown).length == 1 then ",)" else ")" : String) : Str)).length ≤ 2 := by split <;> decide
    omega
  · simp only [PyData.shown]
    rw [shownAll_eq]
    unfold tupleText
    refine strOk_app (strOk_app (strOk_of _) (join_ok _ fun t ht => ?_)) (strOk_of _)
    obtain ⟨d, hd, rfl⟩ := List.mem_map.mp ht
    exact (h d hd).ok
theorem Rp.lst {ds : List PyData} {n L : Nat} (h : ∀ d ∈ ds, Rp d n L) : Rp (.list ds) (n + 1) ((L + 2) * ds.length + 3) := by
  refine ⟨by simp only [wideP]; exact wideL_all fun d hd => (h d hd).sh, ?_, ?_, ?_⟩
  · have := depthAll_le n ds fun d hd => (h d hd).de
    simp only [PyData.depth]
    omega
  · simp only [PyData.shown]
    rw [shownAll_eq]
    unfold listText
    rw [strLen_append]
    have h1 := textFrom_le L (ds.map PyData.shown) 0 "[" fun t ht => by
      obtain ⟨d, hd, rfl⟩ := List.mem_map.mp ht
      exact (h d hd).ln
    rw [List.length_map] at h1
    have e1 : ((("[" : String) : Str)).length = 1 := rfl
    have e3 : ((("]" : String) : Str)).length = 1 := rfl
    omega
  · simp only [PyData.shown]
    rw [shownAll_eq]
    unfold listText
    refine strOk_app (textFrom_ok _ _ _ (strOk_of _) fun t ht => ?_) (strOk_of _)
    obtain ⟨d, hd, rfl⟩ := List.mem_map.mp ht
    exact (h d hd).ok
theorem shw_rp {x : D} {d : PyData} {n l : Nat} {s : S} (hx : toPyD x s = some d) (h : Rp d n l) (hn : n ≤ 60) (hl : l ≤ sizeLine) : shwD [x] s = .ok (.p (.str d.shown)) s := by
  unfold shwD
  dsimp only
  rw [hx]
  exact if_pos ⟨h.sh, Nat.le_trans h.de hn, Nat.le_trans h.ln hl⟩
theorem toPy_tup {xs : List P} {ds : List PyData} (h : toPys xs = some ds) : toPy (.tup xs) = some (.tuple ds) := by
  show (toPys xs).map PyData.tuple = _
  rw [h]; rfl
theorem toPy_lst {xs : List P} {ds : List PyData} (h : toPys xs = some ds) : toPy (.lst xs) = some (.list ds) := by
  show (toPys xs).map PyData.list = _
  rw [h]; rfl
theorem toPys_nil : toPys [] = some [] := rfl
theorem toPys_cons {x : P} {xs : List P} {d : PyData} {ds : List PyData} (h : toPy x = some d) (h2 : toPys xs = some ds) : toPys (x :: xs) = some (d :: ds) := by
  show (match toPy x, toPys xs with
      | some d, some ds => some (d :: ds)
      | _, _ => none) = _
  rw [h, h2]
end CW
end
section
set_option maxRecDepth 100000
set_option maxHeartbeats 2000000
namespace CW
open PySem PySem.Spec PyProof.Rows L2
/-- a loop that goes on or returns -/
theorem forL_or {tg : GF} {f : SF} (I : En → S → Prop) (T : D → S → Prop) : ∀ {xs : List P} {ρ : En} {s : S}, I ρ s → (∀ x ∈ xs, ∀ ρ s, I ρ s → ∃ ρ1 s1, tg (.p x) ρ s = .ok ρ1 s1 ∧ ((∃ ρ2 s2, f ρ1 s1 = .ok (.nx ρ2) s2 ∧ I ρ2 s2) ∨ ∃ d s2, f ρ1 s1 = .ok (.rt d) s2 ∧ T d s2)) →
    (∃ ρ' s', forL [] tg f xs ρ s = .ok (.nx ρ') s' ∧ I ρ' s') ∨ ∃ d s', forL [] tg f xs ρ s = .ok (.rt d) s' ∧ T d s'
  | [], ρ, s, h, _ => .inl ⟨ρ, s, forL_nil, h⟩
  | x :: xs, ρ, s, h, k => by
    obtain ⟨ρ1, s1, e1, ⟨ρ2, s2, e2, i2⟩ | ⟨d, s2, e2, t2⟩⟩ := k x List.mem_cons_self ρ s h
    · rcases forL_or I T i2 (fun y hy => k y (List.mem_cons_of_mem _ hy)) with ⟨ρ', s', e3, i3⟩ | ⟨d, s', e3, t3⟩
      · exact .inl ⟨ρ', s', by rw [forL_cons, e1, R.bind_ok, e2, R.bind_ok, fork_nx, e3], i3⟩
      · exact .inr ⟨d, s', by rw [forL_cons, e1, R.bind_ok, e2, R.bind_ok, fork_nx, e3], t3⟩
    · exact .inr ⟨d, s2, by rw [forL_cons, e1, R.bind_ok, e2, R.bind_ok, fork_rt], t2⟩
/-- left side less right side without a4, a6 -/
def vs (a b c x y : Rat) : Rat := y * y + a * x * y + c * y - x * x * x - b * x * x
def ev (a1 a2 a3 a4 a6 x y : Rat) : Rat := y * y + a1 * x * y + a3 * y - x * x * x - a2 * x * x - a4 * x - a6
end CW
end
section
set_option maxRecDepth 100000
set_option maxHeartbeats 2000000
namespace CW
open PySem PySem.Spec PyProof.Rows L2
theorem canLay_fq (q : Rat) : (fqPy q).canLay0 = true := (Bool.and_eq_true_iff.mp (shaped_fq q)).1
theorem canLayAll_eq : ∀ ds : List PyData, (∀ d ∈ ds, d.canLay0 = true) → PyData.canLayAll0 ds = true
  | [], _ => by simp [PyData.canLayAll0]
  | d :: ds, h => by simp [PyData.canLayAll0, h d List.mem_cons_self, canLayAll_eq ds fun x hx => h x (List.mem_cons_of_mem _ hx)]
end CW
end
section
set_option maxRecDepth 100000
set_option maxHeartbeats 2000000
namespace CW
open PySem PySem.Spec PyProof.Rows L2
section
variable (a1 a2 a3 a4 a6 v r s t : Rat)
def l1 : Rat := (a1 + 2 * s) * v
def l2 : Rat := (a2 - s * a1 + 3 * r - s * s) * v * v
def l3 : Rat := (a3 + r * a1 + 2 * t) * v * v * v
def l4 : Rat := (a4 - s * a3 + 2 * r * a2 - t * a1 - r * s * a1 + 3 * r * r - 2 * s * t) * v * v * v * v
def l6 : Rat := (a6 + r * a4 + r * r * a2 + r * r * r - t * a3 - t * t - r * t * a1) * v * v * v * v * v * v
end
end CW
end
section
set_option maxRecDepth 100000
set_option maxHeartbeats 2000000
namespace CW
open PySem PySem.Spec PyProof.Rows L2
theorem rc_sub (a b : Int) : ((a - b : Int) : Rat) = (a : Rat) - b := Rat.intCast_sub a b
theorem szi.sum {i j : Int} {a b c : Nat} (hi : szi i a) (hj : szi j b) (ha : a + 1 ≤ c := by omega) (hb : b + 1 ≤ c := by omega) : szi (i + j) c := by
  have h1 := hi.mono (show a ≤ c - 1 by omega)
  have h2 := hj.mono (show b ≤ c - 1 by omega)
  have := h1.add h2
  rwa [show c - 1 + 1 = c by omega] at this
theorem szi.dif {i j : Int} {a b c : Nat} (hi : szi i a) (hj : szi j b) (ha : a + 1 ≤ c := by omega) (hb : b + 1 ≤ c := by omega) : szi (i - j) c := by
  rw [Int.sub_eq_add_neg]
  exact hi.sum hj.neg
end CW
end
section
set_option maxRecDepth 100000
set_option maxHeartbeats 2000000
namespace CW
open PySem PySem.Spec PyProof.Rows L2
section
variable {ρ : En} {s : S} {xs : List P} {m ma mb : EF}
theorem r1_ev (ms : List EF) (ρ : En) (s : S) (j : Int) (s1 : S) (h : evA ms ρ s = .ok [.p (.int j)] s1) (h1 : -4611686018427387904 ≤ j) (h2 : j < 4611686018427387904) : r1I ms ρ s = .ok (ranP 0 j.toNat, []) s1 := by
  unfold r1I
  rw [bnd_ev, h, R.bind_ok]
  exact if_pos ⟨h1, h2⟩
@[simp] theorem tupk_7 (f : List P → P) (a b c d e e1 e2 : P) : tupk f [.p a, .p b, .p c, .p d, .p e, .p e1, .p e2] s = .ok (.p (f [a, b, c, d, e, e1, e2])) s := rfl
@[simp] theorem tupk_9 (f : List P → P) (a b c d e e1 e2 e3 e4 : P) : tupk f [.p a, .p b, .p c, .p d, .p e, .p e1, .p e2, .p e3, .p e4] s = .ok (.p (f [a, b, c, d, e, e1, e2, e3, e4])) s := rfl
@[simp] theorem tupk_10 (f : List P → P) (a b c d e e1 e2 e3 e4 e5 : P) : tupk f [.p a, .p b, .p c, .p d, .p e, .p e1, .p e2, .p e3, .p e4, .p e5] s = .ok (.p (f [a, b, c, d, e, e1, e2, e3, e4, e5])) s := rfl
def lck (k : M (List P)) : D → M (List P) := fun d s => match d with
  | .p y => R.bind (k s) fun r s' => .ok (y :: r) s'
  | .obj _ => .bad
@[simp] theorem lck_p (k : M (List P)) (y : P) : lck k (.p y) s = R.bind (k s) fun r s' => .ok (y :: r) s' := rfl
@[simp] theorem tup_lst (xs : List P) : tupD [.p (.lst xs)] s = .ok (.p (.tup xs)) s := rfl
end
end CW
end
section
set_option maxRecDepth 100000
set_option maxHeartbeats 2000000
namespace CW
open PySem PySem.Spec PyProof.Rows L2
/-- data that may be compared: at most n deep -/
structure Cp (d : PyData) (n : Nat) : Prop where
  lay : d.canLay0 = true
  nd : d.hasDict = false
  de : d.depth ≤ n
theorem Cp.fq1 (q : Rat) : Cp (fqPy q) 1 := by
  refine ⟨canLay_fq q, noDict_fq q, ?_⟩
  unfold fqPy
  split <;> simp [PyData.depth, PyData.depthAll]
theorem Cp.tup {ds : List PyData} {n : Nat} (h : ∀ d ∈ ds, Cp d n) : Cp (.tuple ds) (n + 1) := by
  refine ⟨by simp only [PyData.canLay0]; exact canLayAll_eq ds fun d hd => (h d hd).lay, by simp only [PyData.hasDict]; exact hasDictAll_eq ds fun d hd => (h d hd).nd, ?_⟩
  have := depthAll_le n ds fun d hd => (h d hd).de
  simp only [PyData.depth]
  omega
theorem Cp.lst {ds : List PyData} {n : Nat} (h : ∀ d ∈ ds, Cp d n) : Cp (.list ds) (n + 1) := by
  refine ⟨by simp only [PyData.canLay0]; exact canLayAll_eq ds fun d hd => (h d hd).lay, by simp only [PyData.hasDict]; exact hasDictAll_eq ds fun d hd => (h d hd).nd, ?_⟩
  have := depthAll_le n ds fun d hd => (h d hd).de
  simp only [PyData.depth]
  omega
theorem Cp.shaped {d : PyData} {n : Nat} (h : Cp d n) (hn : n ≤ 64) : SeqAt.shaped d = true := by
  unfold SeqAt.shaped
  rw [h.lay]
  exact decide_eq_true (Nat.le_trans h.de hn)
end CW
end
section
set_option maxRecDepth 100000
set_option maxHeartbeats 2000000
namespace CW
open PySem PySem.Spec PyProof.Rows L2
section
variable {ρ : En} {s : S} {xs : List P} {m ma mb mc : EF}
def chnk (k : M D) : D → M D := fun d => match d with
  | .p (.bl true) => k
  | .p (.bl false) => ret (.p (.bl false))
  | _ => bad
@[simp] theorem chnk_bl (k : M D) (b : Bool) : chnk k (.p (.bl b)) s = if b = true then k s else .ok (.p (.bl false)) s := by cases b <;> rfl
@[simp] theorem chn_ev (g h : D → D → M D) : chn g h ma mb mc ρ s = R.bind (ma ρ s) fun x s1 => R.bind (mb ρ s1) fun y s2 => R.bind (g x y s2) (chnk fun s3 => R.bind (mc ρ s3) fun z s4 => h y z s4) := by
  unfold chn
  rw [bnd_ev]
  cases ma ρ s with
  | bad => rfl
  | exn _ _ => rfl
  | ok x s1 =>
    simp only [R.bind_ok]
    rw [bnd_ev]
    cases mb ρ s1 with
    | bad => rfl
    | exn _ _ => rfl
    | ok y s2 =>
      simp only [R.bind_ok]
      rw [bnd_ev]
      cases g x y s2 with
      | bad => rfl
      | exn _ _ => rfl
      | ok c s3 =>
        simp only [R.bind_ok]
        cases c with
        | obj n => rfl
        | p c =>
          cases c with
          | bl b =>
            cases b
            · rfl
            · show bnd _ _ _ = _
              rw [bnd_ev]
              rfl
          | _ => rfl
theorem in_lst (neg : Bool) {x : D} {ys : List P} {d : PyData} {ds : List PyData} (hx : toPyD x s = some d) (hy : toPys ys = some ds) (h : SeqAt.shaped d = true ∧ SeqAt.shaped (.list ds) = true) : inD neg x (.p (.lst ys)) s = .ok (.p (.bl (if neg = true then !ds.any fun z => PyData.eqv z d else ds.any fun z => PyData.eqv z d))) s := by
  unfold inD
  dsimp only
  rw [hx, show toPyD (.p (.lst ys)) s = some (.list ds) from toPy_lst hy]
  dsimp only
  rw [if_pos h]
end
/-- a loop that keeps something, counted -/
theorem forL_cnt {tg : GF} {f : SF} (N : Nat) (I : Nat → En → S → Prop) : ∀ {xs : List P} {n : Nat} {ρ : En} {s : S}, n + xs.length ≤ N → I n ρ s → (∀ x ∈ xs, ∀ n ρ s, n < N → I n ρ s → ∃ ρ1 s1 ρ2 s2, tg (.p x) ρ s = .ok ρ1 s1 ∧ f ρ1 s1 = .ok (.nx ρ2) s2 ∧ I (n + 1) ρ2 s2) →
    ∃ ρ' s', forL [] tg f xs ρ s = .ok (.nx ρ') s' ∧ I (n + xs.length) ρ' s'
  | [], n, ρ, s, _, h, _ => ⟨ρ, s, forL_nil, h⟩
  | x :: xs, n, ρ, s, hn, h, k => by
    have hn' : n + (xs.length + 1) ≤ N := hn
    obtain ⟨ρ1, s1, ρ2, s2, e1, e2, i2⟩ := k x List.mem_cons_self n ρ s (by omega) h
    obtain ⟨ρ', s', e3, i3⟩ := forL_cnt N I (by omega) i2 (fun y hy => k y (List.mem_cons_of_mem _ hy))
    refine ⟨ρ', s', by rw [forL_cons, e1, R.bind_ok, e2, R.bind_ok, fork_nx, e3], ?_⟩
    rw [List.length_cons, show n + (xs.length + 1) = n + 1 + xs.length by omega]
    exact i3
end CW
end
section
set_option maxRecDepth 100000
set_option maxHeartbeats 2000000
namespace CW
open PySem PySem.Spec PyProof.Rows L2
section
variable {s : S} {ρ : En}
theorem get_end (o : Option O) : (s ++ [o])[s.length]? = some o := by
  rw [List.getElem?_append_right (Nat.le_refl _), Nat.sub_self]
  rfl
theorem set_end (a b : Option O) : (s ++ [a]).set s.length b = s ++ [b] := by
  rw [List.set_append_right _ _ (Nat.le_refl _), Nat.sub_self]
  rfl
theorem lsAt_endL (xs : List P) : lsAt s.length (s ++ [some (.lst xs)]) = some xs := by
  unfold lsAt
  rw [get_end]
theorem app_end (xs : List P) (x : P) : appD (.obj s.length) [.p x] (s ++ [some (.lst xs)]) = if xs.length < sizeLine then .ok (.p .non) (s ++ [some (.lst (xs ++ [x]))]) else .bad := by
  unfold appD
  dsimp only
  rw [get_end]
  dsimp only
  rw [set_end]
theorem frz_endL (xs : List P) : frz (.obj s.length) (s ++ [some (.lst xs)]) = .ok (.p (.lst xs)) (s ++ [none]) := by
  unfold frz
  dsimp only
  rw [get_end]
  dsimp only
  rw [set_end]
theorem forF_of {i : IF} {tg : GF} {f : SF} {xs : List P} {s1 : S} {r : R Fl} (hi : i ρ s = .ok (xs, []) s1) (h : forL [] tg f xs ρ s1 = r) : forF i tg f ρ s = r := by
  rw [forF_ev, hi, R.bind_ok]
  exact h
end
theorem toPys_of {xs : List P} {n l : Nat} (h : ∀ x ∈ xs, ∃ d, toPy x = some d ∧ Rp d n l) : ∃ ds, toPys xs = some ds ∧ ds.length = xs.length ∧ ∀ d ∈ ds, Rp d n l := by
  induction xs with
  | nil => exact ⟨[], rfl, rfl, fun _ h => nomatch h⟩
  | cons x r ih =>
    obtain ⟨d, h1, h2⟩ := h x List.mem_cons_self
    obtain ⟨ds, h3, h4, h5⟩ := ih fun y hy => h y (List.mem_cons_of_mem _ hy)
    refine ⟨d :: ds, toPys_cons h1 h3, congrArg (· + 1) h4, fun e he => ?_⟩
    rcases List.mem_cons.mp he with z | z
    · rw [z]
      exact h2
    · exact h5 e z
end CW
end
section
set_option maxRecDepth 100000
set_option maxHeartbeats 2000000
namespace CW
section
variable {a1 a2 a3 a4 a6 x y v w l : Rat}
def fx (a1 a2 l x v : Rat) : Rat := l * l + a1 * l - a2 - x - v
def fy (a1 a3 l x y X : Rat) : Rat := -(l * X) - a1 * X - y + l * x - a3
end
section
variable {W V E : Int} {n m k b e c : Nat} {q a1 a2 a3 a4 a6 x y v w l : Rat}
theorem rpow_of_mul (a b : Rat) : ∀ k : Nat, (a * b) ^ k = a ^ k * b ^ k
  | 0 => by rw [Rat.pow_zero, Rat.pow_zero, Rat.pow_zero, Rat.mul_one]
  | k + 1 => by
    rw [Rat.pow_succ, Rat.pow_succ, Rat.pow_succ, rpow_of_mul a b k]
    grind
theorem Wn.base (hv : szi V b) (h : Wn W n k q) : Wn (V * W) (n + (b * k + 1)) k q := by
  obtain ⟨A, e1, e2⟩ := h
  refine ⟨A * V ^ k, ?_, e2.mul (szi_pow hv k)⟩
  rw [rc_mul, rc_mul, rc_pow, ← e1, rpow_of_mul]
  grind
theorem Wn.sub (ha : Wn W n k q) (hb : Wn W n k l) : Wn W (n + 1) k (q - l) := by
  rw [Rat.sub_eq_add_neg]
  exact ha.add hb.neg
/-- q is A by B, A and B of so many bits -/
theorem Wn.frac {A B : Int} (hl : l * B = A) (hB : B ≠ 0) (hA : szi A n) : Wn B n 1 l := ⟨A, by rw [Rat.pow_one]; exact hl, hA⟩
end
open PySem PySem.Spec PyProof.Rows L2
theorem ix_obj {n : Nat} {s : S} {xs : List P} {z : Int} {x : P} (hl : lsAt n s = some xs) (hx : L2.atI xs z = some x) : ixD (.obj n) (.p (.int z)) s = .ok (.p x) s := by
  show (match its (.obj n) s with
      | some xs => (match L2.atI xs z with
        | some z => R.ok (D.p z) s
        | none => .bad)
      | none => .bad) = _
  rw [its_obj, hl]
  dsimp only
  rw [hx]
theorem len_obj {n : Nat} {s : S} {xs : List P} (hl : lsAt n s = some xs) : lenD [.obj n] s = .ok (.p (.int xs.length)) s := by
  show (match its (.obj n) s with
    | some xs => R.ok (D.p (.int xs.length)) s
    | none => .bad) = _
  rw [its_obj, hl]
end CW
namespace CW
open PySem PySem.Spec PyProof.Rows L2
section
variable {s : S} {ρ : En} {m : EF}
theorem slcE_ev (fr : Bool) (ma : EF) (lo hi : Option EF) : slcE fr ma lo hi ρ s = R.bind (ma ρ s) fun x s1 => R.bind (optE lo ρ s1) fun l s2 => R.bind (optE hi ρ s2) fun u s3 => slcD fr x l u s3 := by
  unfold slcE
  rw [bnd_ev]
  congr 1
theorem optE_n : optE none ρ s = .ok none s := rfl
theorem optE_s : optE (some m) ρ s = R.bind (m ρ s) partE := by
  show bnd (m ρ) partE s = _
  rw [bnd_ev]
theorem partE_i (i : Int) : partE (.p (.int i)) s = .ok (some i) s := rfl
end
end CW
end
section
set_option maxRecDepth 100000
set_option maxHeartbeats 2000000
namespace CW
open PySem PySem.Spec PyProof.Rows L2
/-- a sixth of a whole number up to m -/
def S6 (m : Nat) (q : Rat) : Prop := ∃ N : Int, q * 6 = N ∧ N.natAbs ≤ m
def uu (a c x y : Rat) : Rat := y * y + a * x * y + c * y + -(x * x * x)
def tw (x u z v : Rat) : Rat := (v + -u) / (z + -x)
section
variable {a c x0 y0 x1 y1 x2 y2 : Rat}
def t2 (a c x0 y0 x1 y1 x2 y2 : Rat) : Rat := tw x0 (tw x0 (uu a c x0 y0) x1 (uu a c x1 y1)) x2 (tw x1 (uu a c x1 y1) x2 (uu a c x2 y2))
def t4 (a c x0 y0 x1 y1 x2 y2 : Rat) : Rat := tw x0 (uu a c x0 y0) x1 (uu a c x1 y1) + -(t2 a c x0 y0 x1 y1 x2 y2 * (x0 + x1))
def t6 (a c x0 y0 x1 y1 x2 y2 : Rat) : Rat := uu a c x0 y0 + -(t2 a c x0 y0 x1 y1 x2 y2 * x0 * x0) + -(t4 a c x0 y0 x1 y1 x2 y2 * x0)
theorem tw_eq {x u z v : Rat} (h : x ≠ z) : tw x u z v * (z - x) = v - u := by
  unfold tw
  have h' : z + -x ≠ 0 := fun e => h (by grind)
  have e := Rat.div_mul_cancel (a := v + -u) h'
  grind
theorem th3_on (h01 : x0 ≠ x1) (h12 : x1 ≠ x2) (h02 : x0 ≠ x2) : ev a (t2 a c x0 y0 x1 y1 x2 y2) c (t4 a c x0 y0 x1 y1 x2 y2) (t6 a c x0 y0 x1 y1 x2 y2) x0 y0 = 0 ∧
    ev a (t2 a c x0 y0 x1 y1 x2 y2) c (t4 a c x0 y0 x1 y1 x2 y2) (t6 a c x0 y0 x1 y1 x2 y2) x1 y1 = 0 ∧
    ev a (t2 a c x0 y0 x1 y1 x2 y2) c (t4 a c x0 y0 x1 y1 x2 y2) (t6 a c x0 y0 x1 y1 x2 y2) x2 y2 = 0 := by
  have e1 := tw_eq (u := uu a c x0 y0) (v := uu a c x1 y1) h01
  have e2 := tw_eq (u := uu a c x1 y1) (v := uu a c x2 y2) h12
  have e3 := tw_eq (u := tw x0 (uu a c x0 y0) x1 (uu a c x1 y1)) (v := tw x1 (uu a c x1 y1) x2 (uu a c x2 y2)) h02
  have f2 : t2 a c x0 y0 x1 y1 x2 y2 = tw x0 (tw x0 (uu a c x0 y0) x1 (uu a c x1 y1)) x2 (tw x1 (uu a c x1 y1) x2 (uu a c x2 y2)) := rfl
  rw [← f2] at e3
  unfold t6 t4 ev
  generalize tw x0 (uu a c x0 y0) x1 (uu a c x1 y1) = l1 at *
  generalize tw x1 (uu a c x1 y1) x2 (uu a c x2 y2) = l2 at *
  generalize t2 a c x0 y0 x1 y1 x2 y2 = p at *
  unfold uu at *
  refine ⟨?_, ?_, ?_⟩ <;> grind
theorem S6.hz {m : Nat} {q : Rat} (h : S6 m q) (hm : m < 512) : hz q ≤ 9 := by
  obtain ⟨N, h1, h2⟩ := h
  have e : q = Rat.divInt N 6 := by
    rw [Rat.divInt_eq_div, ← h1]
    have : ((6 : Int) : Rat) = 6 := rfl
    rw [this]
    grind
  rw [e]
  exact hz_le (by decide) (sz_divInt (show szi N 9 from Nat.lt_of_le_of_lt h2 hm) (show szi 6 9 by decide) (by decide))
theorem rg1 (l1 l2 x0 x1 x2 : Rat) : (l2 - l1) * ((x1 - x0) * (x2 - x1)) = (l2 * (x2 - x1)) * (x1 - x0) - (l1 * (x1 - x0)) * (x2 - x1) := by grind
theorem rg2 (p x0 x1 x2 : Rat) : p * (216 * ((x1 * 6 - x0 * 6) * ((x2 * 6 - x1 * 6) * (x2 * 6 - x0 * 6)))) = 46656 * (p * (x2 - x0) * ((x1 - x0) * (x2 - x1))) := by grind
theorem rg3 (u0 u1 u2 x0 x1 x2 : Rat) : 46656 * ((u2 - u1) * (x1 - x0) - (u1 - u0) * (x2 - x1)) = 36 * ((216 * u2 - 216 * u1) * (x1 * 6 - x0 * 6) - (216 * u1 - 216 * u0) * (x2 * 6 - x1 * 6)) := by grind
theorem rg4 (l p w f g h x0 x1 : Rat) : (l + -(p * (x0 + x1))) * (216 * ((f * 6) * (g * h))) = (l * f) * (1296 * (g * h)) - (p * (216 * ((f * 6) * (g * h)))) * (x0 + x1) := by grind
theorem rg5 (u0 u1 n x0 x1 x2 : Rat) : (u1 - u0) * (1296 * ((x2 * 6 - x1 * 6) * (x2 * 6 - x0 * 6))) - 36 * n * (x0 + x1) = 6 * ((216 * u1 - 216 * u0) * ((x2 * 6 - x1 * 6) * (x2 * 6 - x0 * 6)) - n * (x0 * 6 + x1 * 6)) := by grind
theorem rg6 (u p q w x : Rat) : (u + -(p * x * x) + -(q * x)) * w = u * w - (p * w) * (x * x) - (q * w) * x := by grind
theorem rg7 (u d m n x : Rat) : u * (216 * d) - 36 * m * (x * x) - 6 * n * x = 216 * u * d - m * (x * 6 * (x * 6)) - n * (x * 6) := by grind
theorem rg8 (c d : Rat) : c * (216 * d) = 36 * (c * 6 * d) := by grind
theorem rg9 (x0 x1 : Rat) : x1 * 6 - x0 * 6 = (x1 - x0) * 6 := by grind
theorem rg10 (a c x y : Rat) : 6 * (y * 6 * (y * 6)) + 6 * (a * (x * 6 * (y * 6))) + 6 * (c * 6 * (y * 6)) - x * 6 * (x * 6 * (x * 6)) = 216 * uu a c x y := by
  unfold uu
  grind
theorem th3_cv {A : Int} (ha : a = A) (hA : A.natAbs ≤ 2) (hc : S6 264 c) (k0 : S6 90 x0) (k1 : S6 90 x1) (k2 : S6 90 x2) (m0 : S6 42 y0) (m1 : S6 42 y1) (m2 : S6 42 y2) (h01 : x0 ≠ x1) (h12 : x1 ≠ x2) (h02 : x0 ≠ x2) :
    ∃ W, Cv W 50 a (t2 a c x0 y0 x1 y1 x2 y2) c (t4 a c x0 y0 x1 y1 x2 y2) (t6 a c x0 y0 x1 y1 x2 y2) := by
  have e1 := tw_eq (u := uu a c x0 y0) (v := uu a c x1 y1) h01
  have e2 := tw_eq (u := uu a c x1 y1) (v := uu a c x2 y2) h12
  have e3 := tw_eq (u := tw x0 (uu a c x0 y0) x1 (uu a c x1 y1)) (v := tw x1 (uu a c x1 y1) x2 (uu a c x2 y2)) h02
  have f2 : t2 a c x0 y0 x1 y1 x2 y2 = tw x0 (tw x0 (uu a c x0 y0) x1 (uu a c x1 y1)) x2 (tw x1 (uu a c x1 y1) x2 (uu a c x2 y2)) := rfl
  rw [← f2] at e3
  have f4 : t4 a c x0 y0 x1 y1 x2 y2 = tw x0 (uu a c x0 y0) x1 (uu a c x1 y1) + -(t2 a c x0 y0 x1 y1 x2 y2 * (x0 + x1)) := rfl
  have f6 : t6 a c x0 y0 x1 y1 x2 y2 = uu a c x0 y0 + -(t2 a c x0 y0 x1 y1 x2 y2 * x0 * x0) + -(t4 a c x0 y0 x1 y1 x2 y2 * x0) := rfl
  generalize tw x0 (uu a c x0 y0) x1 (uu a c x1 y1) = l1 at *
  generalize tw x1 (uu a c x1 y1) x2 (uu a c x2 y2) = l2 at *
  generalize t6 a c x0 y0 x1 y1 x2 y2 = p6 at *
  generalize t4 a c x0 y0 x1 y1 x2 y2 = p4 at *
  generalize t2 a c x0 y0 x1 y1 x2 y2 = p2 at *
  obtain ⟨C, c1, c2⟩ := hc
  obtain ⟨X0, q0, b0⟩ := k0
  obtain ⟨X1, q1, b1⟩ := k1
  obtain ⟨X2, q2, b2⟩ := k2
  obtain ⟨Y0, r0, d0⟩ := m0
  obtain ⟨Y1, r1, d1⟩ := m1
  obtain ⟨Y2, r2, d2⟩ := m2
  have n6 : ((6 : Int) : Rat) = 6 := rfl
  have n36 : ((36 : Int) : Rat) = 36 := rfl
  have n216 : ((216 : Int) : Rat) = 216 := rfl
  have hU : ∀ {x y : Rat} {X Y : Int}, x * 6 = X → y * 6 = Y → X.natAbs ≤ 90 → Y.natAbs ≤ 42 → ∃ U : Int, ((U : Int) : Rat) = 216 * uu a c x y ∧ szi U 22 := fun {x y X Y} hx hy bx by_ => by
    refine ⟨6 * (Y * Y) + 6 * (A * (X * Y)) + 6 * (C * Y) - X * (X * X), ?_, ?_⟩
    · simp only [rc_add, rc_mul, rc_sub, n6, ← hx, ← hy, ← c1, ← ha]
      exact rg10 a c x y
    · have sX : szi X 7 := Nat.lt_of_le_of_lt bx (by decide)
      have sY : szi Y 6 := Nat.lt_of_le_of_lt by_ (by decide)
      have sA : szi A 2 := Nat.lt_of_le_of_lt hA (by decide)
      have sC : szi C 9 := Nat.lt_of_le_of_lt c2 (by decide)
      have s6 : szi 6 3 := by decide
      have v1 : szi (6 * (Y * Y)) 15 := (s6.mul (sY.mul sY)).mono (by decide)
      have v2 : szi (6 * (A * (X * Y))) 18 := (s6.mul (sA.mul (sX.mul sY))).mono (by decide)
      have v3 : szi (6 * (C * Y)) 18 := (s6.mul (sC.mul sY)).mono (by decide)
      have v4 : szi (X * (X * X)) 21 := (sX.mul (sX.mul sX)).mono (by decide)
      exact ((v1.sum v2 (c := 19)).sum v3 (c := 20)).dif v4 (c := 22)
  obtain ⟨U0, g0, z0⟩ := hU q0 r0 b0 d0
  obtain ⟨U1, g1, z1⟩ := hU q1 r1 b1 d1
  obtain ⟨U2, g2, z2⟩ := hU q2 r2 b2 d2
  generalize uu a c x0 y0 = u0 at *
  generalize uu a c x1 y1 = u1 at *
  generalize uu a c x2 y2 = u2 at *
  have s8 : ∀ {X Z : Int}, X.natAbs ≤ 90 → Z.natAbs ≤ 90 → szi (Z - X) 8 := fun {X Z} h h' => Nat.lt_of_le_of_lt (m := 180) (by omega) (by decide)
  have s8' : szi (X0 + X1) 8 := Nat.lt_of_le_of_lt (m := 180) (by omega) (by decide)
  have w01 := s8 b0 b1
  have w12 := s8 b1 b2
  have w02 := s8 b0 b2
  have ne : ∀ {x z : Rat} {X Z : Int}, x ≠ z → x * 6 = X → z * 6 = Z → Z - X ≠ 0 := fun {x z X Z} h hx hz e => h (by
    have : Z = X := by omega
    rw [this] at hz
    grind)
  have o01 := ne h01 q0 q1
  have o12 := ne h12 q1 q2
  have o02 := ne h02 q0 q2
  have sX0 : szi X0 7 := Nat.lt_of_le_of_lt b0 (by decide)
  have zN2 : szi ((U2 - U1) * (X1 - X0) - (U1 - U0) * (X2 - X1)) 32 := (((z2.sub z1).mul w01).sub ((z1.sub z0).mul w12)).mono (by decide)
  have eN2 : p2 * ((216 * ((X1 - X0) * ((X2 - X1) * (X2 - X0))) : Int) : Rat) = ((36 * ((U2 - U1) * (X1 - X0) - (U1 - U0) * (X2 - X1)) : Int) : Rat) := by
    simp only [rc_mul, rc_sub, n36, n216, g0, g1, g2, ← q0, ← q1, ← q2]
    have k1 := rg1 l1 l2 x0 x1 x2
    rw [e1, e2, ← e3] at k1
    rw [rg2, k1, rg3]
  generalize hN2 : (U2 - U1) * (X1 - X0) - (U1 - U0) * (X2 - X1) = N2 at zN2 eN2
  have zN4 : szi ((U1 - U0) * ((X2 - X1) * (X2 - X0)) - N2 * (X0 + X1)) 41 := (((z1.sub z0).mul (w12.mul w02)).mono (b := 40) (by decide)).sub ((zN2.mul s8').mono (b := 40) (by decide))
  have eN4 : p4 * ((216 * ((X1 - X0) * ((X2 - X1) * (X2 - X0))) : Int) : Rat) = ((6 * ((U1 - U0) * ((X2 - X1) * (X2 - X0)) - N2 * (X0 + X1)) : Int) : Rat) := by
    simp only [rc_mul, rc_sub, rc_add, n6, n36, n216, g0, g1, g2, ← q0, ← q1, ← q2] at eN2 ⊢
    rw [f4, rg9 x0 x1] at *
    rw [rg4 l1 p2 0, e1, eN2, rg5]
  generalize hN4 : (U1 - U0) * ((X2 - X1) * (X2 - X0)) - N2 * (X0 + X1) = N4 at zN4 eN4
  have zN6 : szi (U0 * ((X1 - X0) * ((X2 - X1) * (X2 - X0))) - N2 * (X0 * X0) - N4 * X0) 50 := ((((z0.mul (w01.mul (w12.mul w02))).mono (b := 46) (by decide)).sub ((zN2.mul (sX0.mul sX0)).mono (b := 46) (by decide))).mono (b := 49) (by decide)).sub ((zN4.mul sX0).mono (b := 49) (by decide))
  have eN6 : p6 * ((216 * ((X1 - X0) * ((X2 - X1) * (X2 - X0))) : Int) : Rat) = ((U0 * ((X1 - X0) * ((X2 - X1) * (X2 - X0))) - N2 * (X0 * X0) - N4 * X0 : Int) : Rat) := by
    simp only [rc_mul, rc_sub, rc_add, n6, n36, n216, g0, g1, g2, ← q0, ← q1, ← q2] at eN2 eN4 ⊢
    rw [f6, rg6, eN2, eN4, rg7]
  have zW : szi (216 * ((X1 - X0) * ((X2 - X1) * (X2 - X0)))) 32 := (show szi 216 8 by decide).mul (w01.mul (w12.mul w02))
  have W0 : 216 * ((X1 - X0) * ((X2 - X1) * (X2 - X0))) ≠ 0 := Int.mul_ne_zero (by decide) (Int.mul_ne_zero o01 (Int.mul_ne_zero o12 o02))
  have eC : c * ((216 * ((X1 - X0) * ((X2 - X1) * (X2 - X0))) : Int) : Rat) = ((36 * (C * ((X1 - X0) * ((X2 - X1) * (X2 - X0)))) : Int) : Rat) := by
    simp only [rc_mul, n36, n216, ← c1]
    exact rg8 _ _
  have zC : szi (36 * (C * ((X1 - X0) * ((X2 - X1) * (X2 - X0))))) 39 := (show szi 36 6 by decide).mul ((show szi C 9 from Nat.lt_of_le_of_lt c2 (by decide)).mul (w01.mul (w12.mul w02)))
  generalize 216 * ((X1 - X0) * ((X2 - X1) * (X2 - X0))) = W at *
  have mk : ∀ {q : Rat} {N : Int}, q * (W : Rat) = N → szi N 50 → Dg W 50 1 0 q := fun {q N} h h' => ⟨N, by rw [Rat.pow_one]; exact h, h'⟩
  refine ⟨W, W0, zW.mono (by decide), mk (N := A * W) (by rw [ha, rc_mul]) (((show szi A 2 from Nat.lt_of_le_of_lt hA (by decide)).mul zW).mono (by decide)), mk eN2 (((show szi 36 6 by decide).mul zN2).mono (by decide)), mk eC (zC.mono (by decide)), mk eN4 (((show szi 6 3 by decide).mul zN4).mono (by decide)), mk eN6 zN6⟩
end
end CW
end
section
set_option maxRecDepth 100000
set_option maxHeartbeats 2000000
namespace CW
open PySem PySem.Spec PyProof.Rows L2
section
variable {a1 a2 a3 a4 a6 x y v w l : Rat}
/-- no point where both slopes vanish -/
theorem smooth (hd : dd a1 a2 a3 a4 a6 ≠ 0) (h : ev a1 a2 a3 a4 a6 v w = 0) (h1 : 2 * w + a1 * v + a3 = 0) (h2 : 3 * v * v + 2 * a2 * v + a4 - a1 * w = 0) : False := by
  apply hd
  have e3 : a3 = -2 * w - a1 * v := by grind
  have e4 : a4 = a1 * w - 3 * v * v - 2 * a2 * v := by grind
  have e6 : a6 = w * w + a1 * v * w + a3 * w - v * v * v - a2 * v * v - a4 * v := by
    unfold ev at h
    grind
  have k4 : b4 a1 a2 a3 a4 a6 = -6 * v * v - b2 a1 a2 a3 a4 a6 * v := by
    unfold b4 b2
    rw [e4, e3]
    grind
  have k6 : b6 a1 a2 a3 a4 a6 = 8 * v * v * v + b2 a1 a2 a3 a4 a6 * v * v := by
    unfold b6 b2
    rw [e6, e4, e3]
    grind
  have k8 : 4 * b8 a1 a2 a3 a4 a6 = b2 a1 a2 a3 a4 a6 * b6 a1 a2 a3 a4 a6 - b4 a1 a2 a3 a4 a6 * b4 a1 a2 a3 a4 a6 := by
    unfold b8 b6 b4 b2
    grind
  unfold dd dD
  generalize b2 a1 a2 a3 a4 a6 = p at *
  generalize b4 a1 a2 a3 a4 a6 = q at *
  generalize b6 a1 a2 a3 a4 a6 = r at *
  generalize b8 a1 a2 a3 a4 a6 = t at *
  have k9 : t = -(p * v * v * v) - 9 * v * v * v * v := by
    rw [k4, k6] at k8
    grind
  rw [k9, k4, k6]
  clear k8 k9 k4 k6 e6 e4 e3 h h1 h2 hd
  grind
end
end CW
end
section
set_option maxRecDepth 100000
set_option maxHeartbeats 2000000
namespace CW
structure CuG (F : Type) where
  a1 : F
  a2 : F
  a3 : F
  a4 : F
  a6 : F
section
variable {F : Type} [Lean.Grind.CommRing F]
/-- on the curve -/
def OnG (c : CuG F) (x y : F) : Prop := y * y + c.a1 * x * y + c.a3 * y = x * x * x + c.a2 * x * x + c.a4 * x + c.a6
/-- l is the slope of the line through both, or of that which touches -/
def SlG (c : CuG F) (l x y v w : F) : Prop := l * (x - v) = y - w ∧ l * (y + w + c.a1 * v + c.a3) = x * x + x * v + v * v + c.a2 * (x + v) + c.a4 - c.a1 * y
def OppG (c : CuG F) (x y v w : F) : Prop := x = v ∧ y + w + c.a1 * x + c.a3 = 0
def gx (c : CuG F) (l x v : F) : F := l * l + c.a1 * l - c.a2 - x - v
def gy (c : CuG F) (l x y X : F) : F := -(y + l * (X - x)) - c.a1 * X - c.a3
inductive SmG (c : CuG F) : Option (F × F) → Option (F × F) → Option (F × F) → Prop
  | n0 (Q : Option (F × F)) : SmG c none Q Q
  | n1 (P : Option (F × F)) : SmG c P none P
  | op {x y v w : F} : OppG c x y v w → SmG c (some (x, y)) (some (v, w)) none
  | ln {x y v w l : F} : ¬ OppG c x y v w → SlG c l x y v w → SmG c (some (x, y)) (some (v, w)) (some (gx c l x v, gy c l x y (gx c l x v)))
def ngG (c : CuG F) : Option (F × F) → Option (F × F)
  | none => none
  | some (x, y) => some (x, -y - c.a1 * x - c.a3)
def OnO (c : CuG F) : Option (F × F) → Prop
  | none => True
  | some (x, y) => OnG c x y
/-- no point at which both slopes vanish -/
def SmoG (c : CuG F) : Prop := ∀ x y : F, OnG c x y → 2 * y + c.a1 * x + c.a3 = 0 → 3 * x * x + 2 * c.a2 * x + c.a4 - c.a1 * y = 0 → False
variable {c : CuG F} {x y v w l X : F} {P Q S T : Option (F × F)}
theorem SlG.symm (h : SlG c l x y v w) : SlG c l v w x y := by
  obtain ⟨h1, h2⟩ := h
  refine ⟨by grind, ?_⟩
  have e : c.a1 * (l * (x - v)) = c.a1 * (y - w) := by rw [h1]
  grind
theorem gx_symm (c : CuG F) (l x v : F) : gx c l x v = gx c l v x := by
  unfold gx
  grind
theorem gy_symm (h : SlG c l x y v w) (X : F) : gy c l x y X = gy c l v w X := by
  unfold gy
  have := h.1
  grind
theorem OppG.symm (h : OppG c x y v w) : OppG c v w x y := by
  obtain ⟨h1, h2⟩ := h
  subst h1
  exact ⟨rfl, by grind⟩
theorem SmG.comm (h : SmG c P Q S) : SmG c Q P S := by
  cases h with
  | n0 Q => exact .n1 _
  | n1 P => exact .n0 _
  | op h => exact .op h.symm
  | @ln x y v w l h1 h2 =>
    rw [gx_symm, gy_symm h2]
    exact .ln (fun z => h1 z.symm) h2.symm
theorem ngG_ngG : ngG c (ngG c P) = P := by
  rcases P with _ | ⟨x, y⟩
  · rfl
  · show some (x, -(-y - c.a1 * x - c.a3) - c.a1 * x - c.a3) = _
    congr 2
    grind
/-- the line through the opposites -/
theorem SlG.ng (h : SlG c l x y v w) : SlG c (-l - c.a1) x (-y - c.a1 * x - c.a3) v (-w - c.a1 * v - c.a3) := by
  obtain ⟨h1, h2⟩ := h
  have e : c.a1 * (l * (x - v)) = c.a1 * (y - w) := by rw [h1]
  exact ⟨by grind, by grind⟩
theorem SmG.ng (h : SmG c P Q S) : SmG c (ngG c P) (ngG c Q) (ngG c S) := by
  cases h with
  | n0 Q => exact .n0 _
  | n1 P => exact .n1 _
  | op h =>
    refine .op ⟨h.1, ?_⟩
    have h1 := h.1
    have h2 := h.2
    subst h1
    grind
  | @ln x y v w l h1 h2 =>
    have k := SmG.ln (c := c) (fun z => h1 ⟨z.1, by have z1 := z.1; have z2 := z.2; subst z1; grind⟩) h2.ng
    have e1 : gx c (-l - c.a1) x v = gx c l x v := by
      unfold gx
      grind
    rw [e1] at k
    have e2 : gy c (-l - c.a1) x (-y - c.a1 * x - c.a3) (gx c l x v) = -gy c l x y (gx c l x v) - c.a1 * gx c l x v - c.a3 := by
      unfold gy
      generalize gx c l x v = X
      grind
    rw [e2] at k
    exact k
theorem OnO.ng (h : OnO c P) : OnO c (ngG c P) := by
  rcases P with _ | ⟨x, y⟩
  · trivial
  · show OnG c x (-y - c.a1 * x - c.a3)
    have h : OnG c x y := h
    unfold OnG at h ⊢
    grind
theorem on_ln (h1 : OnG c x y) (h : SlG c l x y v w) : OnG c (gx c l x v) (gy c l x y (gx c l x v)) := by
  obtain ⟨h2, h3⟩ := h
  have k : OnG c (gx c l x v) (y + l * (gx c l x v - x)) := by
    have hw : w = y - l * (x - v) := by grind
    subst hw
    have d : y * y + c.a1 * x * y + c.a3 * y - (x * x * x + c.a2 * x * x + c.a4 * x + c.a6) = 0 := by
      unfold OnG at h1
      grind
    have e : l * (y + (y - l * (x - v)) + c.a1 * v + c.a3) - (x * x + x * v + v * v + c.a2 * (x + v) + c.a4 - c.a1 * y) = 0 := by grind
    unfold OnG
    have key : (y + l * (gx c l x v - x)) * (y + l * (gx c l x v - x)) + c.a1 * gx c l x v * (y + l * (gx c l x v - x)) + c.a3 * (y + l * (gx c l x v - x)) - (gx c l x v * gx c l x v * gx c l x v + c.a2 * gx c l x v * gx c l x v + c.a4 * gx c l x v + c.a6) = (y * y + c.a1 * x * y + c.a3 * y - (x * x * x + c.a2 * x * x + c.a4 * x + c.a6)) + (gx c l x v - x) * (l * (y + (y - l * (x - v)) + c.a1 * v + c.a3) - (x * x + x * v + v * v + c.a2 * (x + v) + c.a4 - c.a1 * y)) := by
      clear d e h1 h2 h3
      unfold gx
      grind
    rw [d, e] at key
    have fin : ∀ a b t : F, a - b = 0 + t * 0 → a = b := by
      clear key d e h1 h2 h3
      intro a b t h
      grind
    exact fin _ _ _ key
  have k2 : OnO c (ngG c (some (gx c l x v, y + l * (gx c l x v - x)))) := OnO.ng k
  exact k2
theorem SmG.on (h : SmG c P Q S) (hP : OnO c P) (hQ : OnO c Q) : OnO c S := by
  cases h with
  | n0 Q => exact hQ
  | n1 P => exact hP
  | op h => trivial
  | ln h1 h2 => exact on_ln hP h2
theorem touch_id (h : SlG c l x y v w) : l * (2 * w + c.a1 * v + c.a3) - (3 * v * v + 2 * c.a2 * v + c.a4 - c.a1 * w) = (x - v) * (v - gx c l x v) := by
  obtain ⟨h1, h2⟩ := h
  have hy : y = w + l * (x - v) := by grind
  subst hy
  unfold gx
  grind
/-- taking the second away leads back -/
theorem SmG.back (nz : ∀ a b : F, a * b = 0 → a = 0 ∨ b = 0) (sm : SmoG c) (hQ : OnO c Q) (h : SmG c P Q S) : SmG c S (ngG c Q) P := by
  cases h with
  | n0 Q =>
    rcases Q with _ | ⟨x, y⟩
    · exact .n0 _
    · exact .op ⟨rfl, by grind⟩
  | n1 P => exact .n1 _
  | @op x y v w h =>
    have h1 := h.1
    have h2 := h.2
    subst h1
    have e : y = -w - c.a1 * x - c.a3 := by grind
    subst e
    exact .n0 _
  | @ln x y v w l h1 h2 =>
    have hs : SlG c (-l - c.a1) (gx c l x v) (gy c l x y (gx c l x v)) v (-w - c.a1 * v - c.a3) := by
      obtain ⟨h3, h4⟩ := h2
      have hw : w = y - l * (x - v) := by grind
      subst hw
      constructor
      · unfold gy
        generalize gx c l x v = X
        grind
      · unfold gy gx
        grind
    have hno : ¬ OppG c (gx c l x v) (gy c l x y (gx c l x v)) v (-w - c.a1 * v - c.a3) := by
      rintro ⟨k1, k2⟩
      have t := touch_id h2
      rw [k1] at k2 t
      have hyv : gy c l x y v = -w - c.a1 * v - c.a3 := by
        unfold gy
        have := h2.1
        grind
      rw [hyv] at k2
      have k3 : 2 * w + c.a1 * v + c.a3 = 0 := by grind
      rw [k3] at t
      exact sm v w hQ k3 (by grind)
    have k := SmG.ln hno hs
    have e1 : gx c (-l - c.a1) (gx c l x v) v = x := by
      unfold gx
      grind
    rw [e1] at k
    have e2 : gy c (-l - c.a1) (gx c l x v) (gy c l x y (gx c l x v)) x = y := by
      unfold gy
      generalize gx c l x v = X
      grind
    rw [e2] at k
    exact k
theorem slope_uniq (nz : ∀ a b : F, a * b = 0 → a = 0 ∨ b = 0) {m : F} (ho : ¬ OppG c x y v w) (h : SlG c l x y v w) (k : SlG c m x y v w) : l = m := by
  have e1 : (l - m) * (x - v) = 0 := by
    have := h.1
    have := k.1
    grind
  have e2 : (l - m) * (y + w + c.a1 * v + c.a3) = 0 := by
    have := h.2
    have := k.2
    grind
  rcases nz _ _ e1 with z | z
  · grind
  · rcases nz _ _ e2 with z2 | z2
    · grind
    · have hx : x = v := by grind
      exact absurd ⟨hx, by rw [hx]; exact z2⟩ ho
theorem SmG.uniq (nz : ∀ a b : F, a * b = 0 → a = 0 ∨ b = 0) (h : SmG c P Q S) (k : SmG c P Q T) : S = T := by
  cases h with
  | n0 Q =>
    cases k with
    | n0 _ => rfl
    | n1 _ => rfl
  | n1 P =>
    cases k with
    | n0 _ => rfl
    | n1 _ => rfl
  | op h =>
    cases k with
    | op _ => rfl
    | ln g _ => exact absurd h g
  | ln h1 h2 =>
    cases k with
    | op g => exact absurd g h1
    | ln g1 g2 => rw [slope_uniq nz h1 h2 g2]
end
section
variable {F : Type} [Lean.Grind.CommRing F]
theorem hz1 {la m x3 q : F} (h : -(la * (m * x3)) = x3 * x3 - q * x3) : x3 * (la * m + x3 - q) = 0 := by grind
theorem hz2 {la m x3 p q a1 a3 : F} (h : la * (x3 - p) = -(m * x3 + a1 * x3 + a3)) (t : m * m * x3 + m * (a1 * x3) + m * a3 = (x3 - p) * (x3 - q)) : (x3 - p) * (la * m + x3 - q) = 0 := by
  have e : (x3 - p) * (la * m + x3 - q) = m * (la * (x3 - p)) + (x3 - p) * (x3 - q) := by
    clear h t
    grind
  rw [e, h, ← t]
  clear e h t
  grind
theorem hz3 {m x1 x3 p q a1 a3 : F} (k2 : m * m = x3 + x1 - p - q - a1 * m) (vi : m * a3 = p * q - x1 * x3) : m * m * x3 + m * (a1 * x3) + m * a3 = (x3 - p) * (x3 - q) := by
  rw [k2, vi]
  clear k2 vi
  grind
theorem hz4 {m x1 x3 p q a1 mu : F} (k2 : m * m = x3 + x1 - p - q - a1 * m) (h : mu * (m * x1) = x1 * x1 - p * x1 - a1 * (m * x1)) : x1 * (m * mu - (m * m - x3 + q)) = 0 := by
  have e : x1 * (m * mu - (m * m - x3 + q)) = mu * (m * x1) - x1 * (m * m - x3 + q) := by
    clear h k2
    grind
  rw [e, h, k2]
  clear e h k2
  grind
theorem hz5 {m x1 x3 p q a1 a3 mu : F} (k2 : m * m = x3 + x1 - p - q - a1 * m) (vi : m * a3 = p * q - x1 * x3) (h : mu * (x1 - q) = m * x1 + a1 * q + a3) : (x1 - q) * (m * mu - (m * m - x3 + q)) = 0 := by
  have e : (x1 - q) * (m * mu - (m * m - x3 + q)) = m * (mu * (x1 - q)) - m * m * x1 + q * (m * m) - (x1 - q) * (q - x3) := by
    clear h k2 vi
    grind
  have e2 : m * (m * x1 + a1 * q + a3) = m * m * x1 + a1 * m * q + m * a3 := by
    clear h k2 vi e
    grind
  rw [e, h, e2, vi]
  have e3 : q * (m * m) = q * (x3 + x1 - p - q - a1 * m) := by rw [k2]
  rw [e3]
  clear e e2 e3 h k2 vi
  grind
theorem hz6 {m x1 x3 p q a1 la : F} (k2 : m * m = x3 + x1 - p - q - a1 * m) (u2 : la * m = q - x3) : m * (m * (la * la + a1 * la + q - x3) - la * (x1 - p)) = 0 := by
  have e : m * (m * (la * la + a1 * la + q - x3) - la * (x1 - p)) = (la * m) * (la * m) + a1 * m * (la * m) + m * m * (q - x3) - (la * m) * (x1 - p) := by
    clear k2 u2
    grind
  rw [e, u2, k2]
  clear e k2 u2
  grind
theorem hz7 {m x1 x3 p q a1 la : F} (k2 : m * m = x3 + x1 - p - q - a1 * m) (u2 : la * m = q - x3) : la * la + a1 * la + q - x3 = (la + m) * (la + m) + a1 * (la + m) + p - x1 := by
  have e : (la + m) * (la + m) + a1 * (la + m) + p - x1 = la * la + (la * m) + (la * m) + m * m + a1 * la + a1 * m + p - x1 := by
    clear k2 u2
    grind
  rw [e, u2, k2]
  clear e k2 u2
  grind
theorem hz8 {m x1 p q a1 a3 : F} (h : m * (m * x1) + m * (a1 * x1) + m * a3 = (x1 - p) * (x1 - q)) : m * a3 = p * q - x1 * (m * m + a1 * m + p + q - x1) := by
  have e : m * a3 = (m * (m * x1) + m * (a1 * x1) + m * a3) - m * (m * x1) - m * (a1 * x1) := by
    clear h
    grind
  rw [e, h]
  clear e h
  grind
theorem gsub0 {a b : F} (h : a - b = 0) : a = b := by grind
/-- the heart: the second point at (0, 0), the line through the second and the third flat -/
theorem heart (nz : ∀ a b : F, a * b = 0 → a = 0 ∨ b = 0) {a1 a3 p q x1 m x3 la mu : F}
    (h1 : m * (m * x1) + m * (a1 * x1) + m * a3 = (x1 - p) * (x1 - q)) (h3 : x3 = m * m + a1 * m + p + q - x1)
    (hl1 : la * (x3 - p) = -(m * x3 + a1 * x3 + a3)) (hl2 : -(la * (m * x3)) = x3 * x3 - q * x3) (hl : ¬ (x3 = p ∧ m * x3 = 0))
    (hm1 : mu * (x1 - q) = m * x1 + a1 * q + a3) (hm2 : mu * (m * x1) = x1 * x1 - p * x1 - a1 * (m * x1)) (hm : ¬ (x1 = q ∧ m * x1 = 0)) :
    la * la + a1 * la + q - x3 = mu * mu + a1 * mu + p - x1 ∧ la * ((la * la + a1 * la + q - x3) - p) = mu * ((la * la + a1 * la + q - x3) - x1) + m * x1 := by
  by_cases m0 : m = 0
  · subst m0
    have e1 : (x1 - p) * (x1 - q) = 0 := by
      rw [← h1]
      clear nz h1 h3 hl1 hl2 hl hm1 hm2 hm
      grind
    have e2 : x3 = p + q - x1 := by
      rw [h3]
      clear nz h1 h3 hl1 hl2 hl hm1 hm2 hm e1
      grind
    have nq : x1 ≠ q := fun z => hm ⟨z, by
      clear nz h1 h3 hl1 hl2 hl hm1 hm2 hm e1 e2 z
      grind⟩
    have hp : x1 = p := by
      rcases nz _ _ e1 with z | z
      · exact gsub0 z
      · exact absurd (gsub0 z) nq
    subst hp
    have e3 : x3 = q := by
      rw [e2]
      clear nz h1 h3 hl1 hl2 hl hm1 hm2 hm e1 e2 nq
      grind
    subst e3
    have e4 : (la - mu) * (x1 - x3) = 0 := by
      have : (la - mu) * (x1 - x3) = -(la * (x3 - x1)) - mu * (x1 - x3) := by
        clear nz h1 h3 hl1 hl2 hl hm1 hm2 hm e1 e2 nq
        grind
      rw [this, hl1, hm1]
      clear nz h1 h3 hl1 hl2 hl hm1 hm2 hm e1 e2 nq this
      grind
    have e5 : la = mu := by
      rcases nz _ _ e4 with z | z
      · exact gsub0 z
      · exact absurd (gsub0 z) nq
    subst e5
    clear nz h1 h3 hl1 hl2 hl hm1 hm2 hm e1 e2 nq e4
    constructor <;> grind
  · have vi : m * a3 = p * q - x1 * x3 := by
      rw [h3]
      exact hz8 h1
    have k2 : m * m = x3 + x1 - p - q - a1 * m := by
      rw [h3]
      clear nz h1 h3 hl1 hl2 hl hm1 hm2 hm vi
      grind
    have el : la * m + x3 - q = 0 := by
      rcases nz _ _ (hz1 hl2) with z | z
      · rcases nz _ _ (hz2 hl1 (hz3 k2 vi)) with z2 | z2
        · exact absurd ⟨gsub0 z2, by rw [z, Lean.Grind.Semiring.mul_zero]⟩ hl
        · exact z2
      · exact z
    have u2 : la * m = q - x3 := by
      clear nz h1 h3 hl1 hl2 hl hm1 hm2 hm vi k2
      grind
    have em : m * mu - (m * m - x3 + q) = 0 := by
      rcases nz _ _ (hz4 k2 hm2) with z | z
      · rcases nz _ _ (hz5 k2 vi hm1) with z2 | z2
        · exact absurd ⟨gsub0 z2, by rw [z, Lean.Grind.Semiring.mul_zero]⟩ hm
        · exact z2
      · exact z
    have es : mu = la + m := by
      have t : m * (mu - (la + m)) = 0 := by
        clear nz h1 h3 hl1 hl2 hl hm1 hm2 hm vi k2 el
        grind
      rcases nz _ _ t with z | z
      · exact absurd z m0
      · exact gsub0 z
    subst es
    refine ⟨hz7 k2 u2, ?_⟩
    rcases nz _ _ (hz6 k2 u2) with z | z
    · exact absurd z m0
    · have z := gsub0 z
      generalize la * la + a1 * la + q - x3 = X at z ⊢
      clear nz h1 h3 hl1 hl2 hl hm1 hm2 hm vi k2 el u2 em
      grind
end
section
variable {F : Type} [Lean.Grind.CommRing F] {c : CuG F} {x1 x2 x3 y1 y2 y3 al be la mu X Z : F}
theorem hg1 (a : SlG c al x1 y1 x2 y2) (b : SlG c be x2 y2 x3 y3) (hZ : Z = gx c be x2 x3) : (al - be) * ((al - be) * (x1 - x2)) + (al - be) * ((c.a1 + 2 * be) * (x1 - x2)) + (al - be) * (c.a3 + 2 * y2 + c.a1 * x2) = (x1 - x2 - (x3 - x2)) * (x1 - x2 - (Z - x2)) := by
  obtain ⟨p1, p2⟩ := a
  obtain ⟨q1, q2⟩ := b
  have h1 : y1 = y2 + al * (x1 - x2) := by
    clear hZ p2 q1 q2
    grind
  have h3 : y3 = y2 + be * (x3 - x2) := by
    clear hZ p1 p2 q2 h1
    grind
  rw [h1] at p2
  rw [h3] at q2
  clear p1 q1 h1 h3
  rw [hZ]
  unfold gx
  clear hZ
  grind
theorem hg3 (hZ : Z = gx c be x2 x3) : gx c al x1 x2 - x2 = (al - be) * (al - be) + (c.a1 + 2 * be) * (al - be) + (x3 - x2) + (Z - x2) - (x1 - x2) := by
  rw [hZ]
  unfold gx
  clear hZ
  grind
theorem hgl1 (a : al * (x1 - x2) = y1 - y2) (b : be * (x2 - x3) = y2 - y3) (l : la * (X - x3) = gy c al x1 y1 X - y3) : (la - be) * (X - x2 - (x3 - x2)) = -((al - be) * (X - x2) + (c.a1 + 2 * be) * (X - x2) + (c.a3 + 2 * y2 + c.a1 * x2)) := by
  unfold gy at l
  grind
theorem hgl2 (a : al * (x1 - x2) = y1 - y2) (b : SlG c be x2 y2 x3 y3) (hZ : Z = gx c be x2 x3) (l : SlG c la x3 y3 X (gy c al x1 y1 X)) : -((la - be) * ((al - be) * (X - x2))) = (X - x2) * (X - x2) - (Z - x2) * (X - x2) := by
  obtain ⟨q1, q2⟩ := b
  obtain ⟨l1, l2⟩ := l
  have h1 : y1 = y2 + al * (x1 - x2) := by
    clear hZ l1 l2 q1 q2
    grind
  have h3 : y3 = y2 + be * (x3 - x2) := by
    clear hZ l1 l2 q2 h1 a
    grind
  subst h1
  subst h3
  clear a q1
  unfold gy at l1 l2
  subst hZ
  unfold gx
  have e : (-((la - be) * ((al - be) * (X - x2)))) - ((X - x2) * (X - x2) - (be * be + c.a1 * be - c.a2 - x2 - x3 - x2) * (X - x2)) = (la * (y2 + be * (x3 - x2) + (-(y2 + al * (x1 - x2) + al * (X - x1)) - c.a1 * X - c.a3) + c.a1 * X + c.a3) - (x3 * x3 + x3 * X + X * X + c.a2 * (x3 + X) + c.a4 - c.a1 * (y2 + be * (x3 - x2)))) - be * (la * (x3 - X) - (y2 + be * (x3 - x2) - (-(y2 + al * (x1 - x2) + al * (X - x1)) - c.a1 * X - c.a3))) - (be * (y2 + (y2 + be * (x3 - x2)) + c.a1 * x3 + c.a3) - (x2 * x2 + x2 * x3 + x3 * x3 + c.a2 * (x2 + x3) + c.a4 - c.a1 * y2)) := by
    clear q2 l1 l2
    grind
  rw [q2, l1, l2] at e
  clear q2 l1 l2
  apply gsub0
  rw [e]
  clear e
  grind
theorem hgl (a : al * (x1 - x2) = y1 - y2) (b : be * (x2 - x3) = y2 - y3) (no : ¬ OppG c X (gy c al x1 y1 X) x3 y3) : ¬ (X - x2 = x3 - x2 ∧ (al - be) * (X - x2) = 0) := by
  rintro ⟨z1, z2⟩
  have e : X = x3 := by
    clear no z2 a b
    grind
  refine no ⟨e, ?_⟩
  subst e
  unfold gy
  clear no z1
  grind
theorem hgm1 (a : al * (x1 - x2) = y1 - y2) (m : mu * (x1 - Z) = y1 - gy c be x2 y2 Z) : (mu - be) * (x1 - x2 - (Z - x2)) = (al - be) * (x1 - x2) + (c.a1 + 2 * be) * (Z - x2) + (c.a3 + 2 * y2 + c.a1 * x2) := by
  unfold gy at m
  grind
theorem hgm2 (a : al * (x1 - x2) = y1 - y2) (b : SlG c be x2 y2 x3 y3) (hZ : Z = gx c be x2 x3) (m : SlG c mu x1 y1 Z (gy c be x2 y2 Z)) : (mu - be) * ((al - be) * (x1 - x2)) = (x1 - x2) * (x1 - x2) - (x3 - x2) * (x1 - x2) - (c.a1 + 2 * be) * ((al - be) * (x1 - x2)) := by
  obtain ⟨q1, q2⟩ := b
  obtain ⟨l1, l2⟩ := m
  have h1 : y1 = y2 + al * (x1 - x2) := by
    clear hZ l1 l2 q1 q2
    grind
  have h3 : y3 = y2 + be * (x3 - x2) := by
    clear hZ l1 l2 q2 h1 a
    grind
  subst h1
  subst h3
  clear a q1
  unfold gy at l1 l2
  subst hZ
  unfold gx at l1 l2
  generalize hZ : be * be + c.a1 * be - c.a2 - x2 - x3 = Z at *
  have e : (mu - be) * ((al - be) * (x1 - x2)) - ((x1 - x2) * (x1 - x2) - (x3 - x2) * (x1 - x2) - (c.a1 + 2 * be) * ((al - be) * (x1 - x2))) = (mu * (y2 + al * (x1 - x2) + (-(y2 + be * (Z - x2)) - c.a1 * Z - c.a3) + c.a1 * Z + c.a3) - (x1 * x1 + x1 * Z + Z * Z + c.a2 * (x1 + Z) + c.a4 - c.a1 * (y2 + al * (x1 - x2)))) - be * (mu * (x1 - Z) - (y2 + al * (x1 - x2) - (-(y2 + be * (Z - x2)) - c.a1 * Z - c.a3))) - (be * (y2 + (y2 + be * (x3 - x2)) + c.a1 * x3 + c.a3) - (x2 * x2 + x2 * x3 + x3 * x3 + c.a2 * (x2 + x3) + c.a4 - c.a1 * y2)) := by
    rw [← hZ]
    clear q2 l1 l2 hZ
    grind
  rw [q2, l1, l2] at e
  clear q2 l1 l2
  apply gsub0
  rw [e]
  clear e
  grind
theorem hgm (a : al * (x1 - x2) = y1 - y2) (no : ¬ OppG c x1 y1 Z (gy c be x2 y2 Z)) : ¬ (x1 - x2 = Z - x2 ∧ (al - be) * (x1 - x2) = 0) := by
  rintro ⟨z1, z2⟩
  have e : x1 = Z := by
    clear no z2 a
    grind
  refine no ⟨e, ?_⟩
  subst e
  unfold gy
  clear no z1
  grind
theorem assoc_ln (nz : ∀ a b : F, a * b = 0 → a = 0 ∨ b = 0) (a : SlG c al x1 y1 x2 y2) (b : SlG c be x2 y2 x3 y3)
    (nl : ¬ OppG c (gx c al x1 x2) (gy c al x1 y1 (gx c al x1 x2)) x3 y3) (l : SlG c la (gx c al x1 x2) (gy c al x1 y1 (gx c al x1 x2)) x3 y3)
    (nm : ¬ OppG c x1 y1 (gx c be x2 x3) (gy c be x2 y2 (gx c be x2 x3))) (m : SlG c mu x1 y1 (gx c be x2 x3) (gy c be x2 y2 (gx c be x2 x3))) :
    gx c la (gx c al x1 x2) x3 = gx c mu x1 (gx c be x2 x3) ∧ gy c la (gx c al x1 x2) (gy c al x1 y1 (gx c al x1 x2)) (gx c la (gx c al x1 x2) x3) = gy c mu x1 y1 (gx c la (gx c al x1 x2) x3) := by
  have t3 := hg3 (c := c) (al := al) (be := be) (x1 := x1) (x2 := x2) (x3 := x3) rfl
  have tl2 := hgl2 a.1 b rfl l.symm
  have tm2 := hgm2 a.1 b rfl m
  have t1 := hg1 a b rfl
  have sy := gy_symm l
  generalize hX : gx c al x1 x2 = X at *
  have ez : gx c la X x3 = (la - be) * (la - be) + (c.a1 + 2 * be) * (la - be) + (gx c be x2 x3 - x2) - (X - x2) + x2 := by
    unfold gx
    clear t3 tl2 tm2 t1 sy nl l nm m a b hX nz
    grind
  have ey : gx c mu x1 (gx c be x2 x3) = (mu - be) * (mu - be) + (c.a1 + 2 * be) * (mu - be) + (x3 - x2) - (x1 - x2) + x2 := by
    unfold gx
    clear t3 tl2 tm2 t1 sy nl l nm m a b hX nz ez
    grind
  generalize hZ : gx c be x2 x3 = Z at *
  obtain ⟨r1, r2⟩ := heart nz t1 t3 (hgl1 a.1 b.1 l.1) tl2 (hgl a.1 b.1 nl) (hgm1 a.1 m.1) tm2 (hgm a.1 nm)
  refine ⟨by rw [ez, ey, r1], ?_⟩
  rw [sy]
  have e2 : gx c la X x3 - x2 = (la - be) * (la - be) + (c.a1 + 2 * be) * (la - be) + (Z - x2) - (X - x2) := by
    rw [ez]
    clear t3 tl2 tm2 t1 sy nl l nm m a b hX nz ez ey hZ r1 r2
    grind
  rw [← e2] at r2
  generalize gx c la X x3 = T at *
  have h1 := a.1
  have h2 := b.1
  unfold gy
  clear t3 tl2 tm2 t1 sy nl l nm m a b hX nz ez ey hZ r1 e2
  grind
end
section
variable {F : Type} [Lean.Grind.CommRing F] {c : CuG F} {P Q R S T U V : Option (F × F)}
theorem SmG.opp (P : Option (F × F)) : SmG c P (ngG c P) none := by
  rcases P with _ | ⟨x, y⟩
  · exact .n0 _
  · exact .op ⟨rfl, by grind⟩
/-- the third of a sum that comes to none -/
theorem SmG.of_none (h : SmG c P Q none) : Q = ngG c P := by
  cases h with
  | n0 _ => rfl
  | n1 _ => rfl
  | @op x y v w h =>
    have h1 := h.1
    have h2 := h.2
    subst h1
    show _ = some (x, -y - c.a1 * x - c.a3)
    congr 2
    clear h
    grind
/-- a sum of three, one pair of which comes to none -/
theorem SmG.assoc_none (nz : ∀ a b : F, a * b = 0 → a = 0 ∨ b = 0) (sm : SmoG c) (hP : OnO c P) (hQ : OnO c Q) (hR : OnO c R) (h1 : SmG c P Q S) (h2 : SmG c S R none) (h3 : SmG c Q R T) (h4 : SmG c P T V) : V = none := by
  have hS := h1.on hP hQ
  have e := h2.of_none
  have k1 : SmG c S (ngG c P) Q := h1.comm.back nz sm hP
  have k2 : SmG c R P (ngG c Q) := by
    have := k1.ng
    rw [ngG_ngG, ← e] at this
    exact this
  have k3 : SmG c (ngG c Q) (ngG c R) P := k2.comm.back nz sm hR
  have k4 : SmG c Q R (ngG c P) := by
    have := k3.ng
    rw [ngG_ngG, ngG_ngG] at this
    exact this
  have e2 := h3.uniq nz k4
  subst e2
  exact h4.uniq nz (SmG.opp P)
theorem SmG.assoc (nz : ∀ a b : F, a * b = 0 → a = 0 ∨ b = 0) (sm : SmoG c) (hP : OnO c P) (hQ : OnO c Q) (hR : OnO c R) (h1 : SmG c P Q S) (h2 : SmG c S R U) (h3 : SmG c Q R T) (h4 : SmG c P T V) : U = V := by
  rcases U with _ | ⟨ux, uy⟩
  · exact (SmG.assoc_none nz sm hP hQ hR h1 h2 h3 h4).symm
  rcases V with _ | ⟨vx, vy⟩
  · exact SmG.assoc_none nz sm hR hQ hP h3.comm h4.comm h1.comm h2.comm
  rcases P with _ | ⟨x1, y1⟩
  · have e1 := h1.uniq nz (.n0 Q)
    subst e1
    have e2 := h4.uniq nz (.n0 T)
    rw [e2]
    exact h2.uniq nz h3
  rcases Q with _ | ⟨x2, y2⟩
  · have e1 := h1.uniq nz (.n1 _)
    subst e1
    have e2 := h3.uniq nz (.n0 _)
    subst e2
    exact h2.uniq nz h4
  rcases R with _ | ⟨x3, y3⟩
  · have e1 := h2.uniq nz (.n1 _)
    subst e1
    have e2 := h3.uniq nz (.n1 _)
    subst e2
    exact h1.uniq nz h4
  rcases S with _ | ⟨x4, y4⟩
  · have e := h1.of_none
    have e1 := h2.uniq nz (.n0 _)
    have k := h3.comm
    have e2 := h4.uniq nz (k.back nz sm hQ |>.comm |> fun z => by
      rw [show some (x1, y1) = ngG c (some (x2, y2)) by rw [e, ngG_ngG]]
      exact z)
    rw [e1, e2]
  rcases T with _ | ⟨x5, y5⟩
  · have e := h3.of_none
    have e1 := h4.uniq nz (.n1 _)
    have k := h1.back nz sm hQ
    rw [← e] at k
    rw [e1]
    exact h2.uniq nz k
  cases h1 with
  | ln n1 s1 =>
    cases h3 with
    | ln n3 s3 =>
      cases h2 with
      | ln n2 s2 =>
        cases h4 with
        | ln n4 s4 =>
          obtain ⟨r1, r2⟩ := assoc_ln nz s1 s3 n2 s2 n4 s4
          rw [r2, r1]
end
end CW
end
section
set_option maxRecDepth 100000
set_option maxHeartbeats 2000000
namespace CW
open PySem PySem.Spec PyProof.Rows L2
/-- whole over the i-th power of E and the j-th of F -/
def W2 (E F : Int) (n i j : Nat) (q : Rat) : Prop := ∃ N : Int, q * ((E : Rat) ^ i * (F : Rat) ^ j) = N ∧ szi N n
section
variable {E F : Int} {e f n m r i j k l d : Nat} {a b : Rat}
theorem W2.mul (ha : W2 E F n i j a) (hb : W2 E F m k l b) : W2 E F (n + m) (i + k) (j + l) (a * b) := by
  obtain ⟨A, a1, a2⟩ := ha
  obtain ⟨B, b1, b2⟩ := hb
  refine ⟨A * B, ?_, a2.mul b2⟩
  rw [rpow_add, rpow_add, rc_mul, ← a1, ← b1]
  grind
theorem W2.add (ha : W2 E F n i j a) (hb : W2 E F m i j b) (h1 : n + 1 ≤ r := by omega) (h2 : m + 1 ≤ r := by omega) : W2 E F r i j (a + b) := by
  obtain ⟨A, a1, a2⟩ := ha
  obtain ⟨B, b1, b2⟩ := hb
  refine ⟨A + B, ?_, szi.sum a2 b2 h1 h2⟩
  rw [rc_add, ← a1, ← b1]
  grind
theorem W2.neg (ha : W2 E F n i j a) : W2 E F n i j (-a) := by
  obtain ⟨A, a1, a2⟩ := ha
  refine ⟨-A, ?_, a2.neg⟩
  rw [rc_neg, ← a1]
  grind
theorem W2.sub (ha : W2 E F n i j a) (hb : W2 E F m i j b) (h1 : n + 1 ≤ r := by omega) (h2 : m + 1 ≤ r := by omega) : W2 E F r i j (a - b) := by
  rw [Rat.sub_eq_add_neg]
  exact ha.add hb.neg h1 h2
theorem W2.mono (ha : W2 E F n i j a) (h : n ≤ m := by omega) : W2 E F m i j a := by
  obtain ⟨A, a1, a2⟩ := ha
  exact ⟨A, a1, a2.mono h⟩
theorem W2.of1 (h : Wn E n k a) : W2 E F n k 0 a := by
  obtain ⟨A, a1, a2⟩ := h
  exact ⟨A, by rw [Rat.pow_zero, Rat.mul_one]; exact a1, a2⟩
theorem W2.of2 (h : Wn F n k a) : W2 E F n 0 k a := by
  obtain ⟨A, a1, a2⟩ := h
  exact ⟨A, by rw [Rat.pow_zero, Rat.one_mul]; exact a1, a2⟩
theorem W2.int {c : Int} (h : szi c n) : W2 E F n 0 0 (c : Rat) := ⟨c, by rw [Rat.pow_zero, Rat.pow_zero, Rat.mul_one, Rat.mul_one], h⟩
/-- raised by one power -/
theorem W2.to (hE : szi E e) (hF : szi F f) (ha : W2 E F n i j a) (d d' : Nat) : W2 E F (n + (e * d + 1) + (f * d' + 1)) (i + d) (j + d') a := by
  obtain ⟨A, a1, a2⟩ := ha
  refine ⟨A * E ^ d * F ^ d', ?_, (a2.mul (szi_pow hE d)).mul (szi_pow hF d')⟩
  rw [rpow_add, rpow_add, rc_mul, rc_mul, rc_pow, rc_pow, ← a1]
  grind
theorem W2.up (ha : W2 E F n i j a) (hE : szi E e) (hF : szi F f) (d d' k l m : Nat) (h1 : i + d = k := by omega) (h2 : j + d' = l := by omega) (h3 : n + (e * d + 1) + (f * d' + 1) ≤ m := by omega) : W2 E F m k l a := by
  subst h1 h2
  exact (W2.to hE hF ha d d').mono h3
end
section
variable {a1 a2 a3 a4 a6 x y v w l : Rat}
def chR (a1 a2 a3 a4 a6 x y v w : Rat) : Rat := ((2 * a2 * (x * v) + a4 * x) + (a4 * v + 2 * a6)) - ((2 * (y * w) + a1 * x * w) + (a1 * v * y + (a3 * y + a3 * w)))
theorem ch_x (h1 : ev a1 a2 a3 a4 a6 x y = 0) (h2 : ev a1 a2 a3 a4 a6 v w = 0) (hl : l * (v - x) = w - y) :
    fx a1 a2 l x v * ((x - v) * (x - v)) = x * x * v + x * v * v + chR a1 a2 a3 a4 a6 x y v w := by
  have e : fx a1 a2 l x v * ((x - v) * (x - v)) = (l * (v - x)) * (l * (v - x)) - a1 * (l * (v - x)) * (x - v) - (a2 + x + v) * ((x - v) * (x - v)) := by
    unfold fx
    clear h1 h2 hl
    grind
  rw [e, hl]
  have k : (w - y) * (w - y) - a1 * (w - y) * (x - v) - (a2 + x + v) * ((x - v) * (x - v)) = x * x * v + x * v * v + chR a1 a2 a3 a4 a6 x y v w + ev a1 a2 a3 a4 a6 x y + ev a1 a2 a3 a4 a6 v w := by
    unfold chR ev
    clear h1 h2 hl e
    grind
  rw [k, h1, h2]
  clear h1 h2 hl e k
  grind
theorem ch_y (hl : l * (v - x) = w - y) {M X : Rat} (hM : X * ((x - v) * (x - v)) = x * x * v + x * v * v + M) :
    fy a1 a3 l x y X * ((x - v) * ((x - v) * (x - v))) = (((y * v * v * v - 3 * (y * x * v * v)) - (w * x * x * x - 3 * (w * x * x * v))) - (y * M - w * M)) - ((a1 * (x * x * v + x * v * v + M) * x - a1 * (x * x * v + x * v * v + M) * v) + ((a3 * (x * x * x) - 3 * (a3 * (x * x * v))) + (3 * (a3 * (x * v * v)) - a3 * (v * v * v)))) := by
  have e : fy a1 a3 l x y X * ((x - v) * ((x - v) * (x - v))) = (l * (v - x)) * (X * ((x - v) * (x - v))) - a1 * (X * ((x - v) * (x - v))) * (x - v) - y * ((x - v) * ((x - v) * (x - v))) - (l * (v - x)) * x * ((x - v) * (x - v)) - a3 * ((x - v) * ((x - v) * (x - v))) := by
    unfold fy
    clear hM hl
    grind
  rw [e, hl, hM]
  clear e hl hM
  grind
end
section
variable {E F : Int} {e f : Nat} {a1 a2 a3 a4 a6 x y v w l : Rat}
theorem wn_of {N : Int} {n k : Nat} {d q g : Rat} (hN : d * ((E : Rat) ^ 2 * (F : Rat) ^ 2) = N) (h : W2 E F n (2 * k) (2 * k) g) (hg : g = q * d ^ k) : Wn N n k q := by
  obtain ⟨A, b1, b2⟩ := h
  refine ⟨A, ?_, b2⟩
  rw [← b1, ← hN, hg]
  have pw : ∀ (z : Rat) (k : Nat), (z ^ 2) ^ k = z ^ (2 * k) := fun z k => by
    induction k with
    | zero => rw [Nat.mul_zero, Rat.pow_zero, Rat.pow_zero]
    | succ k ih => rw [Rat.pow_succ, ih, show 2 * (k + 1) = 2 * k + 2 by omega, rpow_add]
  rw [rpow_of_mul, rpow_of_mul, pw, pw, Rat.mul_assoc]
end
end CW
end
section
set_option maxRecDepth 100000
set_option maxHeartbeats 2000000
namespace CW
open PySem PySem.Spec PyProof.Rows L2
abbrev Pq := Option (Rat × Rat)
section
variable {a1 a2 a3 a4 a6 x y v w l : Rat}
abbrev cuQ (a1 a2 a3 a4 a6 : Rat) : CuG Rat := ⟨a1, a2, a3, a4, a6⟩
theorem nzQ : ∀ a b : Rat, a * b = 0 → a = 0 ∨ b = 0 := fun _ _ h => Rat.mul_eq_zero.mp h
def slQ (a1 a2 a3 a4 x y v w : Rat) : Rat := if x = v then (3 * x * x + 2 * a2 * x + a4 - a1 * y) / (2 * y + a1 * x + a3) else (w - y) / (v - x)
/-- the sum by lines -/
def adQ (a1 a2 a3 a4 a6 : Rat) : Pq → Pq → Pq
  | none, Q => Q
  | P, none => P
  | some (x, y), some (v, w) => if x = v ∧ y + w + a1 * x + a3 = 0 then none else some (fx a1 a2 (slQ a1 a2 a3 a4 x y v w) x v, fy a1 a3 (slQ a1 a2 a3 a4 x y v w) x y (fx a1 a2 (slQ a1 a2 a3 a4 x y v w) x v))
theorem adQ_ss : adQ a1 a2 a3 a4 a6 (some (x, y)) (some (v, w)) = if x = v ∧ y + w + a1 * x + a3 = 0 then none else some (fx a1 a2 (slQ a1 a2 a3 a4 x y v w) x v, fy a1 a3 (slQ a1 a2 a3 a4 x y v w) x y (fx a1 a2 (slQ a1 a2 a3 a4 x y v w) x v)) := rfl
def ngQ (a1 a3 : Rat) : Pq → Pq
  | none => none
  | some (x, y) => some (x, -(y + a1 * x + a3))
def OnQ (a1 a2 a3 a4 a6 : Rat) : Pq → Prop
  | none => True
  | some (x, y) => ev a1 a2 a3 a4 a6 x y = 0
theorem onG_of (h : ev a1 a2 a3 a4 a6 x y = 0) : OnG (cuQ a1 a2 a3 a4 a6) x y := by
  unfold ev at h
  show y * y + a1 * x * y + a3 * y = x * x * x + a2 * x * x + a4 * x + a6
  grind
theorem of_onG (h : OnG (cuQ a1 a2 a3 a4 a6) x y) : ev a1 a2 a3 a4 a6 x y = 0 := by
  have h : y * y + a1 * x * y + a3 * y = x * x * x + a2 * x * x + a4 * x + a6 := h
  unfold ev
  grind
theorem onO_of {P : Pq} (h : OnQ a1 a2 a3 a4 a6 P) : OnO (cuQ a1 a2 a3 a4 a6) P := by
  rcases P with _ | ⟨x, y⟩
  · trivial
  · exact onG_of h
theorem of_onO {P : Pq} (h : OnO (cuQ a1 a2 a3 a4 a6) P) : OnQ a1 a2 a3 a4 a6 P := by
  rcases P with _ | ⟨x, y⟩
  · trivial
  · exact of_onG h
theorem fx_gx : gx (cuQ a1 a2 a3 a4 a6) l x v = fx a1 a2 l x v := rfl
theorem fy_gy (X : Rat) : gy (cuQ a1 a2 a3 a4 a6) l x y X = fy a1 a3 l x y X := by
  show -(y + l * (X - x)) - a1 * X - a3 = -(l * X) - a1 * X - y + l * x - a3
  grind
/-- two points of one X that aren't opposite are the same -/
theorem same_y (h1 : ev a1 a2 a3 a4 a6 x y = 0) (h2 : ev a1 a2 a3 a4 a6 x w = 0) (ho : ¬ y + w + a1 * x + a3 = 0) : y = w := by
  have k : (y - w) * (y + w + a1 * x + a3) = 0 := by
    unfold ev at h1 h2
    grind
  rcases Rat.mul_eq_zero.mp k with z | z
  · grind
  · exact absurd z ho
theorem chord_rel (hne : x ≠ v) (h1 : ev a1 a2 a3 a4 a6 x y = 0) (h2 : ev a1 a2 a3 a4 a6 v w = 0) (hl : l * (v - x) = w - y) : SlG (cuQ a1 a2 a3 a4 a6) l x y v w := by
  refine ⟨by grind, ?_⟩
  show l * (y + w + a1 * v + a3) = x * x + x * v + v * v + a2 * (x + v) + a4 - a1 * y
  have n0 : x - v ≠ 0 := by grind
  have k : (x - v) * (l * (y + w + a1 * v + a3) - (x * x + x * v + v * v + a2 * (x + v) + a4 - a1 * y)) = ev a1 a2 a3 a4 a6 x y - ev a1 a2 a3 a4 a6 v w - (l * (v - x) - (w - y)) * (y + w + a1 * v + a3) := by
    unfold ev
    clear h1 h2 hl
    grind
  rw [h1, h2, hl] at k
  have k2 : (x - v) * (l * (y + w + a1 * v + a3) - (x * x + x * v + v * v + a2 * (x + v) + a4 - a1 * y)) = 0 := by
    rw [k]
    clear k h1 h2 hl
    grind
  rcases Rat.mul_eq_zero.mp k2 with z | z
  · exact absurd z n0
  · clear k k2 h1 h2 hl
    grind
theorem tan_rel (hl : l * (2 * y + a1 * x + a3) = 3 * x * x + 2 * a2 * x + a4 - a1 * y) : SlG (cuQ a1 a2 a3 a4 a6) l x y x y := by
  refine ⟨by grind, ?_⟩
  show l * (y + y + a1 * x + a3) = x * x + x * x + x * x + a2 * (x + x) + a4 - a1 * y
  grind
theorem slQ_chord (h : x ≠ v) : slQ a1 a2 a3 a4 x y v w * (v - x) = w - y := by
  unfold slQ
  rw [if_neg h]
  exact Rat.div_mul_cancel (by grind)
theorem slQ_tan (h : 2 * y + a1 * x + a3 ≠ 0) : slQ a1 a2 a3 a4 x y x w * (2 * y + a1 * x + a3) = 3 * x * x + 2 * a2 * x + a4 - a1 * y := by
  unfold slQ
  rw [if_pos rfl]
  exact Rat.div_mul_cancel h
theorem adQ_sm {P Q : Pq} (hP : OnQ a1 a2 a3 a4 a6 P) (hQ : OnQ a1 a2 a3 a4 a6 Q) : SmG (cuQ a1 a2 a3 a4 a6) P Q (adQ a1 a2 a3 a4 a6 P Q) := by
  rcases P with _ | ⟨x, y⟩
  · exact .n0 _
  rcases Q with _ | ⟨v, w⟩
  · exact .n1 _
  rw [adQ_ss]
  by_cases ho : x = v ∧ y + w + a1 * x + a3 = 0
  · rw [if_pos ho]
    exact .op ho
  · rw [if_neg ho]
    have k : SlG (cuQ a1 a2 a3 a4 a6) (slQ a1 a2 a3 a4 x y v w) x y v w := by
      by_cases hx : x = v
      · subst hx
        have hn : ¬ y + w + a1 * x + a3 = 0 := fun z => ho ⟨rfl, z⟩
        have e := same_y hP hQ hn
        subst e
        exact tan_rel (slQ_tan (by grind))
      · exact chord_rel hx hP hQ (slQ_chord hx)
    have r := SmG.ln (c := cuQ a1 a2 a3 a4 a6) ho k
    rw [fx_gx, fy_gy] at r
    exact r
theorem ngQ_ng (P : Pq) : ngQ a1 a3 P = ngG (cuQ a1 a2 a3 a4 a6) P := by
  rcases P with _ | ⟨x, y⟩
  · rfl
  · show some (x, -(y + a1 * x + a3)) = some (x, -y - a1 * x - a3)
    congr 2
    grind
theorem smoQ (hd : dd a1 a2 a3 a4 a6 ≠ 0) : SmoG (cuQ a1 a2 a3 a4 a6) := fun x y h1 h2 h3 => smooth hd (of_onG h1) h2 h3
theorem adQ_on {P Q : Pq} (hP : OnQ a1 a2 a3 a4 a6 P) (hQ : OnQ a1 a2 a3 a4 a6 Q) : OnQ a1 a2 a3 a4 a6 (adQ a1 a2 a3 a4 a6 P Q) := of_onO ((adQ_sm hP hQ).on (onO_of hP) (onO_of hQ))
theorem ngQ_on {P : Pq} (hP : OnQ a1 a2 a3 a4 a6 P) : OnQ a1 a2 a3 a4 a6 (ngQ a1 a3 P) := by
  rw [ngQ_ng (a2 := a2) (a4 := a4) (a6 := a6)]
  exact of_onO (OnO.ng (onO_of hP))
theorem adQ_comm {P Q : Pq} (hP : OnQ a1 a2 a3 a4 a6 P) (hQ : OnQ a1 a2 a3 a4 a6 Q) : adQ a1 a2 a3 a4 a6 P Q = adQ a1 a2 a3 a4 a6 Q P := (adQ_sm hP hQ).uniq nzQ (adQ_sm hQ hP).comm
theorem adQ_assoc (hd : dd a1 a2 a3 a4 a6 ≠ 0) {P Q R : Pq} (hP : OnQ a1 a2 a3 a4 a6 P) (hQ : OnQ a1 a2 a3 a4 a6 Q) (hR : OnQ a1 a2 a3 a4 a6 R) : adQ a1 a2 a3 a4 a6 (adQ a1 a2 a3 a4 a6 P Q) R = adQ a1 a2 a3 a4 a6 P (adQ a1 a2 a3 a4 a6 Q R) :=
  SmG.assoc nzQ (smoQ hd) (onO_of hP) (onO_of hQ) (onO_of hR) (adQ_sm hP hQ) (adQ_sm (adQ_on hP hQ) hR) (adQ_sm hQ hR) (adQ_sm hP (adQ_on hQ hR))
theorem adQ_none (P : Pq) : adQ a1 a2 a3 a4 a6 P none = P := by
  rcases P with _ | ⟨x, y⟩ <;> rfl
theorem none_adQ (P : Pq) : adQ a1 a2 a3 a4 a6 none P = P := rfl
theorem adQ_ng {P : Pq} (hP : OnQ a1 a2 a3 a4 a6 P) : adQ a1 a2 a3 a4 a6 P (ngQ a1 a3 P) = none := by
  have h := adQ_sm hP (ngQ_on hP)
  have k := SmG.opp (c := cuQ a1 a2 a3 a4 a6) P
  rw [← ngQ_ng] at k
  exact h.uniq nzQ k
def Ptn (a1 a2 a3 a4 a6 : Rat) := { P : Pq // OnQ a1 a2 a3 a4 a6 P }
def Ptn.add (p q : Ptn a1 a2 a3 a4 a6) : Ptn a1 a2 a3 a4 a6 := ⟨adQ a1 a2 a3 a4 a6 p.1 q.1, adQ_on p.2 q.2⟩
def Ptn.neg (p : Ptn a1 a2 a3 a4 a6) : Ptn a1 a2 a3 a4 a6 := ⟨ngQ a1 a3 p.1, ngQ_on p.2⟩
def Ptn.zero : Ptn a1 a2 a3 a4 a6 := ⟨none, trivial⟩
theorem Ptn.comm (p q : Ptn a1 a2 a3 a4 a6) : p.add q = q.add p := Subtype.ext (adQ_comm p.2 q.2)
theorem Ptn.assoc (hd : dd a1 a2 a3 a4 a6 ≠ 0) (p q r : Ptn a1 a2 a3 a4 a6) : (p.add q).add r = p.add (q.add r) := Subtype.ext (adQ_assoc hd p.2 q.2 r.2)
theorem Ptn.add_zero (p : Ptn a1 a2 a3 a4 a6) : p.add .zero = p := Subtype.ext (adQ_none (a6 := a6) p.1)
theorem Ptn.zero_add (p : Ptn a1 a2 a3 a4 a6) : Ptn.zero.add p = p := rfl
theorem Ptn.add_neg (p : Ptn a1 a2 a3 a4 a6) : p.add p.neg = .zero := Subtype.ext (adQ_ng p.2)
end
end CW
end
section
set_option maxRecDepth 100000
set_option maxHeartbeats 2000000
namespace CW
section
variable {F : Type} [Lean.Grind.CommRing F]
def tb1 (a1 s : F) : F := a1 + 2 * s
def tb2 (a1 a2 r s : F) : F := a2 - s * a1 + 3 * r - s * s
def tb3 (a1 a3 r t : F) : F := a3 + r * a1 + 2 * t
def tb4 (a1 a2 a3 a4 r s t : F) : F := a4 - s * a3 + 2 * r * a2 - t * a1 - r * s * a1 + 3 * r * r - 2 * s * t
def tb6 (a1 a2 a3 a4 a6 r t : F) : F := a6 + r * a4 + r * r * a2 + r * r * r - t * a3 - t * t - r * t * a1
theorem tr_on (a1 a2 a3 a4 a6 r s t x y : F) : (y - s * (x - r) - t) * (y - s * (x - r) - t) + tb1 a1 s * (x - r) * (y - s * (x - r) - t) + tb3 a1 a3 r t * (y - s * (x - r) - t) - ((x - r) * (x - r) * (x - r) + tb2 a1 a2 r s * (x - r) * (x - r) + tb4 a1 a2 a3 a4 r s t * (x - r) + tb6 a1 a2 a3 a4 a6 r t) =
    y * y + a1 * x * y + a3 * y - (x * x * x + a2 * x * x + a4 * x + a6) := by
  unfold tb1 tb2 tb3 tb4 tb6
  grind
theorem tr_opp (a1 a3 r s t x y w : F) : (y - s * (x - r) - t) + (w - s * (x - r) - t) + tb1 a1 s * (x - r) + tb3 a1 a3 r t = y + w + a1 * x + a3 := by
  unfold tb1 tb3
  grind
theorem tr_sl (a1 a2 a3 a4 r s t x y v w l : F) (h1 : l * (x - v) = y - w) : (l - s) * ((y - s * (x - r) - t) + (w - s * (v - r) - t) + tb1 a1 s * (v - r) + tb3 a1 a3 r t) - ((x - r) * (x - r) + (x - r) * (v - r) + (v - r) * (v - r) + tb2 a1 a2 r s * ((x - r) + (v - r)) + tb4 a1 a2 a3 a4 r s t - tb1 a1 s * (y - s * (x - r) - t)) =
    l * (y + w + a1 * v + a3) - (x * x + x * v + v * v + a2 * (x + v) + a4 - a1 * y) := by
  have e : w = y - l * (x - v) := by grind
  subst e
  clear h1
  unfold tb1 tb2 tb3 tb4
  grind
theorem sc_on (b1 b2 b3 b4 b6 i X Y : F) : (Y * i * i * i) * (Y * i * i * i) + (b1 * i) * (X * i * i) * (Y * i * i * i) + (b3 * i * i * i) * (Y * i * i * i) - ((X * i * i) * (X * i * i) * (X * i * i) + (b2 * i * i) * (X * i * i) * (X * i * i) + (b4 * i * i * i * i) * (X * i * i) + b6 * i * i * i * i * i * i) =
    (Y * Y + b1 * X * Y + b3 * Y - (X * X * X + b2 * X * X + b4 * X + b6)) * i * i * i * i * i * i := by grind
theorem sc_opp (b1 b3 i X Y W : F) : Y * i * i * i + W * i * i * i + (b1 * i) * (X * i * i) + b3 * i * i * i = (Y + W + b1 * X + b3) * i * i * i := by grind
theorem sc_sl (b1 b2 b3 b4 i X Y V W l : F) : (l * i) * (Y * i * i * i + W * i * i * i + (b1 * i) * (V * i * i) + b3 * i * i * i) - ((X * i * i) * (X * i * i) + (X * i * i) * (V * i * i) + (V * i * i) * (V * i * i) + (b2 * i * i) * (X * i * i + V * i * i) + b4 * i * i * i * i - (b1 * i) * (Y * i * i * i)) =
    (l * (Y + W + b1 * V + b3) - (X * X + X * V + V * V + b2 * (X + V) + b4 - b1 * Y)) * i * i * i * i := by grind
/-- the led curve -/
def lcu (c : CuG F) (i r s t : F) : CuG F := ⟨tb1 c.a1 s * i, tb2 c.a1 c.a2 r s * i * i, tb3 c.a1 c.a3 r t * i * i * i, tb4 c.a1 c.a2 c.a3 c.a4 r s t * i * i * i * i, tb6 c.a1 c.a2 c.a3 c.a4 c.a6 r t * i * i * i * i * i * i⟩
/-- the led point -/
def lpt (i r s t : F) : Option (F × F) → Option (F × F)
  | none => none
  | some (x, y) => some ((x - r) * i * i, (y - s * (x - r) - t) * i * i * i)
theorem gsub0' {a b : F} (h : a - b = 0) : a = b := by grind
theorem gsub1' {a b : F} (h : a = b) : a - b = 0 := by grind
variable {c : CuG F} {i U r s t x y v w l : F} {P Q S : Option (F × F)}
theorem inv3 {z : F} (h : i * U = 1) (k : z * i * i * i = 0) : z = 0 := by
  have : z * i * i * i * U * U * U = z * ((i * U) * (i * U) * (i * U)) := by
    clear h k
    grind
  rw [h, k] at this
  clear h k
  grind
theorem inv2 {z : F} (h : i * U = 1) (k : z * i * i = 0) : z = 0 := by
  have : z * i * i * U * U = z * ((i * U) * (i * U)) := by
    clear h k
    grind
  rw [h, k] at this
  clear h k
  grind
theorem lcu_off (x y : F) : (((y - s * (x - r) - t) * i * i * i) * ((y - s * (x - r) - t) * i * i * i) + (lcu c i r s t).a1 * ((x - r) * i * i) * ((y - s * (x - r) - t) * i * i * i) + (lcu c i r s t).a3 * ((y - s * (x - r) - t) * i * i * i)) - (((x - r) * i * i) * ((x - r) * i * i) * ((x - r) * i * i) + (lcu c i r s t).a2 * ((x - r) * i * i) * ((x - r) * i * i) + (lcu c i r s t).a4 * ((x - r) * i * i) + (lcu c i r s t).a6) =
    (y * y + c.a1 * x * y + c.a3 * y - (x * x * x + c.a2 * x * x + c.a4 * x + c.a6)) * i * i * i * i * i * i := by
  have h := sc_on (tb1 c.a1 s) (tb2 c.a1 c.a2 r s) (tb3 c.a1 c.a3 r t) (tb4 c.a1 c.a2 c.a3 c.a4 r s t) (tb6 c.a1 c.a2 c.a3 c.a4 c.a6 r t) i (x - r) (y - s * (x - r) - t)
  rw [tr_on] at h
  exact h
theorem lpt_on (h : OnO c P) : OnO (lcu c i r s t) (lpt i r s t P) := by
  rcases P with _ | ⟨x, y⟩
  · trivial
  · have h : y * y + c.a1 * x * y + c.a3 * y = x * x * x + c.a2 * x * x + c.a4 * x + c.a6 := h
    have k := lcu_off (c := c) (i := i) (r := r) (s := s) (t := t) x y
    rw [gsub1' h] at k
    refine gsub0' (k.trans ?_)
    clear k h
    grind
theorem opp_led (hU : i * U = 1) : OppG (lcu c i r s t) ((x - r) * i * i) ((y - s * (x - r) - t) * i * i * i) ((v - r) * i * i) ((w - s * (v - r) - t) * i * i * i) ↔ OppG c x y v w := by
  have key : ∀ w : F, (y - s * (x - r) - t) * i * i * i + (w - s * (x - r) - t) * i * i * i + (lcu c i r s t).a1 * ((x - r) * i * i) + (lcu c i r s t).a3 = (y + w + c.a1 * x + c.a3) * i * i * i := fun w => by
    have := sc_opp (tb1 c.a1 s) (tb3 c.a1 c.a3 r t) i (x - r) (y - s * (x - r) - t) (w - s * (x - r) - t)
    rw [tr_opp] at this
    exact this
  constructor
  · rintro ⟨h1, h2⟩
    have e1 : x = v := by
      have : (x - v) * i * i = 0 := by
        have := gsub1' h1
        rw [← this]
        clear this h1 h2 hU key
        grind
      exact gsub0' (inv2 hU this)
    subst e1
    rw [key] at h2
    exact ⟨rfl, inv3 hU h2⟩
  · rintro ⟨rfl, h2⟩
    refine ⟨rfl, ?_⟩
    rw [key, h2]
    clear key h2 hU
    grind
theorem sl_led (h : SlG c l x y v w) : SlG (lcu c i r s t) ((l - s) * i) ((x - r) * i * i) ((y - s * (x - r) - t) * i * i * i) ((v - r) * i * i) ((w - s * (v - r) - t) * i * i * i) := by
  obtain ⟨h1, h2⟩ := h
  have e := tr_sl c.a1 c.a2 c.a3 c.a4 r s t x y v w l h1
  have e2 := sc_sl (tb1 c.a1 s) (tb2 c.a1 c.a2 r s) (tb3 c.a1 c.a3 r t) (tb4 c.a1 c.a2 c.a3 c.a4 r s t) i (x - r) (y - s * (x - r) - t) (v - r) (w - s * (v - r) - t) (l - s)
  rw [e, gsub1' h2] at e2
  refine ⟨?_, gsub0' (e2.trans ?_)⟩
  · have : (l - s) * i * ((x - r) * i * i - (v - r) * i * i) - ((y - s * (x - r) - t) * i * i * i - (w - s * (v - r) - t) * i * i * i) = (l * (x - v) - (y - w)) * i * i * i := by
      clear h1 h2 e e2
      grind
    rw [gsub1' h1] at this
    refine gsub0' (this.trans ?_)
    clear h1 h2 e e2 this
    grind
  · clear h1 h2 e e2
    grind
theorem gx_led (l x v : F) : gx (lcu c i r s t) ((l - s) * i) ((x - r) * i * i) ((v - r) * i * i) = (gx c l x v - r) * i * i := by
  show (l - s) * i * ((l - s) * i) + tb1 c.a1 s * i * ((l - s) * i) - tb2 c.a1 c.a2 r s * i * i - (x - r) * i * i - (v - r) * i * i = (l * l + c.a1 * l - c.a2 - x - v - r) * i * i
  unfold tb1 tb2
  grind
theorem gy_led (l x y X : F) : gy (lcu c i r s t) ((l - s) * i) ((x - r) * i * i) ((y - s * (x - r) - t) * i * i * i) ((X - r) * i * i) = (gy c l x y X - s * (X - r) - t) * i * i * i := by
  show -((y - s * (x - r) - t) * i * i * i + (l - s) * i * ((X - r) * i * i - (x - r) * i * i)) - tb1 c.a1 s * i * ((X - r) * i * i) - tb3 c.a1 c.a3 r t * i * i * i = (-(y + l * (X - x)) - c.a1 * X - c.a3 - s * (X - r) - t) * i * i * i
  unfold tb1 tb3
  grind
theorem SmG.led (hU : i * U = 1) (h : SmG c P Q S) : SmG (lcu c i r s t) (lpt i r s t P) (lpt i r s t Q) (lpt i r s t S) := by
  cases h with
  | n0 Q => exact .n0 _
  | n1 P => exact .n1 _
  | op h => exact .op ((opp_led hU).mpr h)
  | @ln x y v w l h1 h2 =>
    have k := SmG.ln (fun z => h1 ((opp_led hU).mp z)) (sl_led (i := i) (r := r) (s := s) (t := t) h2)
    rw [gx_led, gy_led] at k
    exact k
end
end CW
end
section
set_option maxRecDepth 100000
set_option maxHeartbeats 2000000
namespace CW
section
variable {E : Int} {e : Nat} {a1 a2 a3 a4 a6 x y i r s t : Rat}
theorem onQ_led {P : Pq} (h : OnQ a1 a2 a3 a4 a6 P) : OnQ (tb1 a1 s * i) (tb2 a1 a2 r s * i * i) (tb3 a1 a3 r t * i * i * i) (tb4 a1 a2 a3 a4 r s t * i * i * i * i) (tb6 a1 a2 a3 a4 a6 r t * i * i * i * i * i * i) (lpt i r s t P) :=
  of_onO (lpt_on (c := cuQ a1 a2 a3 a4 a6) (onO_of h))
theorem adQ_led (i0 : i ≠ 0) {P Q : Pq} (hP : OnQ a1 a2 a3 a4 a6 P) (hQ : OnQ a1 a2 a3 a4 a6 Q) : adQ (tb1 a1 s * i) (tb2 a1 a2 r s * i * i) (tb3 a1 a3 r t * i * i * i) (tb4 a1 a2 a3 a4 r s t * i * i * i * i) (tb6 a1 a2 a3 a4 a6 r t * i * i * i * i * i * i) (lpt i r s t P) (lpt i r s t Q) = lpt i r s t (adQ a1 a2 a3 a4 a6 P Q) :=
  (adQ_sm (onQ_led hP) (onQ_led hQ)).uniq nzQ ((adQ_sm hP hQ).led (Rat.mul_inv_cancel i i0))
end
end CW
end
section
set_option maxRecDepth 100000
set_option maxHeartbeats 2000000
namespace CW
open PySem PySem.Spec PyProof.Rows L2
/-- a point over Z of a whole curve: the i-th number of the curve within i e0 bits, Z within e - e0, x and y within 2 e and 3 e -/
structure Si (e0 : Nat) (E : Int) (e : Nat) (a1 a2 a3 a4 a6 x y : Rat) : Prop where
  E0 : E ≠ 0
  hn : e0 ≤ e
  hE : szi E (e - e0)
  A1 : ∃ A : Int, a1 = (A : Rat) ∧ szi A e0
  A2 : ∃ A : Int, a2 = (A : Rat) ∧ szi A (2 * e0)
  A3 : ∃ A : Int, a3 = (A : Rat) ∧ szi A (3 * e0)
  A4 : ∃ A : Int, a4 = (A : Rat) ∧ szi A (4 * e0)
  A6 : ∃ A : Int, a6 = (A : Rat) ∧ szi A (6 * e0)
  X : Wn E (2 * e) 2 x
  Y : Wn E (3 * e) 3 y
section
variable {E F : Int} {e0 e f n : Nat} {a a1 a2 a3 a4 a6 x y v w l : Rat}
theorem kw (h : ∃ A : Int, a = (A : Rat) ∧ szi A n) : Wn E n 0 a := by
  obtain ⟨A, rfl, h⟩ := h
  exact Wn.int h
theorem k2w (h : ∃ A : Int, a = (A : Rat) ∧ szi A n) : W2 E F n 0 0 a := by
  obtain ⟨A, rfl, h⟩ := h
  exact W2.int h
theorem Si.mono (h : Si e0 E e a1 a2 a3 a4 a6 x y) (k : e ≤ f) : Si e0 E f a1 a2 a3 a4 a6 x y :=
  ⟨h.E0, Nat.le_trans h.hn k, h.hE.mono (by omega), h.A1, h.A2, h.A3, h.A4, h.A6, h.X.mono (by omega), h.Y.mono (by omega)⟩
theorem Si.hx (h : Si e0 E e a1 a2 a3 a4 a6 x y) (he : 1 ≤ e) : hz x ≤ 2 * e + 1 := Wn.hz h.E0 h.hE h.X (by omega) (by omega)
theorem Si.hy (h : Si e0 E e a1 a2 a3 a4 a6 x y) (he : 1 ≤ e) : hz y ≤ 3 * e + 1 := Wn.hz h.E0 h.hE h.Y (by omega) (by omega)
theorem Si.hneg (h : Si e0 E e a1 a2 a3 a4 a6 x y) (he : 1 ≤ e) : hz (y + a1 * x + a3) ≤ 3 * e + 4 := by
  have hn := h.hn
  have t1 : Wn E (3 * e + 1) 3 (a1 * x) := Wn.to h.hE ((kw h.A1).mul h.X) (by decide) (by omega)
  have t2 : Wn E (3 * e + 1) 3 a3 := Wn.to h.hE (kw h.A3) (by decide) (by omega)
  exact Wn.hz h.E0 h.hE (((h.Y.mono (show 3 * e ≤ 3 * e + 1 by omega)).add t1).add (t2.mono (by omega))) (by omega) (by omega)
/-- by a slope over E -/
theorem Si.slope (E0 : E ≠ 0) (hn : e0 ≤ e) (hE : szi E (e - e0)) (A1 : ∃ A : Int, a1 = (A : Rat) ∧ szi A e0) (A2 : ∃ A : Int, a2 = (A : Rat) ∧ szi A (2 * e0)) (A3 : ∃ A : Int, a3 = (A : Rat) ∧ szi A (3 * e0)) (A4 : ∃ A : Int, a4 = (A : Rat) ∧ szi A (4 * e0)) (A6 : ∃ A : Int, a6 = (A : Rat) ∧ szi A (6 * e0))
    (hl : Wn E e 1 l) (hx : Wn E (2 * e) 2 x) (hv : Wn E (2 * e) 2 v) (hy : Wn E (3 * e) 3 y) :
    Si e0 E (e + 4) a1 a2 a3 a4 a6 (fx a1 a2 l x v) (fy a1 a3 l x y (fx a1 a2 l x v)) := by
  have X1 : Wn E (2 * e + 5) 2 (fx a1 a2 l x v) := by
    unfold fx
    have t1 : Wn E (2 * e + 1) 2 (l * l) := (hl.mul hl).mono (by omega)
    have t2 : Wn E (2 * e + 1) 2 (a1 * l) := Wn.to hE ((kw A1).mul hl) (by decide) (by omega)
    have t3 : Wn E (2 * e + 1) 2 a2 := Wn.to hE (kw A2) (by decide) (by omega)
    have t4 := (t1.add t2).sub (t3.mono (by omega))
    have t5 := t4.sub (hx.mono (by omega))
    exact (t5.sub (hv.mono (by omega))).mono (by omega)
  have Y1 : Wn E (3 * e + 12) 3 (fy a1 a3 l x y (fx a1 a2 l x v)) := by
    generalize fx a1 a2 l x v = G at *
    unfold fy
    have t1 : Wn E (3 * e + 6) 3 (l * G) := (hl.mul X1).mono (by omega)
    have t2 : Wn E (3 * e + 6) 3 (a1 * G) := Wn.to hE ((kw A1).mul X1) (by decide) (by omega)
    have t3 := (t1.neg.sub t2).sub (hy.mono (by omega))
    have t4 : Wn E (3 * e) 3 (l * x) := (hl.mul hx).mono (by omega)
    have t5 : Wn E (3 * e + 1) 3 a3 := Wn.to hE (kw A3) (by decide) (by omega)
    exact ((t3.add (t4.mono (by omega))).sub (t5.mono (by omega))).mono (by omega)
  exact ⟨E0, by omega, hE.mono (by omega), A1, A2, A3, A4, A6, X1.mono (by omega), Y1.mono (by omega)⟩
/-- the line that touches -/
theorem Si.tan (h : Si e0 E e a1 a2 a3 a4 a6 x y) (hne : 2 * y + a1 * x + a3 ≠ 0) (hl : l * (2 * y + a1 * x + a3) = 3 * x * x + 2 * a2 * x + a4 - a1 * y) (he : 1 ≤ e) :
    (∃ G, Si e0 G (4 * e + 10) a1 a2 a3 a4 a6 (fx a1 a2 l x x) (fy a1 a3 l x y (fx a1 a2 l x x))) ∧ hz l ≤ 4 * e + 7 := by
  have hn := h.hn
  have d1 : Wn E (3 * e + 4) 3 (2 * y + a1 * x + a3) := by
    have t1 : Wn E (3 * e + 2) 3 (2 * y) := ((Wn.int (show szi 2 2 by decide)).mul h.Y).mono (by omega)
    have t2 : Wn E (3 * e + 1) 3 (a1 * x) := Wn.to h.hE ((kw h.A1).mul h.X) (by decide) (by omega)
    have t3 : Wn E (3 * e + 1) 3 a3 := Wn.to h.hE (kw h.A3) (by decide) (by omega)
    exact ((t1.add (t2.mono (by omega))).add (t3.mono (by omega))).mono (by omega)
  have n1 : Wn E (4 * e + 6) 4 (3 * x * x + 2 * a2 * x + a4 - a1 * y) := by
    have t1 : Wn E (4 * e + 3) 4 (3 * x * x) := (((Wn.int (show szi 3 2 by decide)).mul h.X).mul h.X).mono (by omega)
    have t2 : Wn E (4 * e + 3) 4 (2 * a2 * x) := Wn.to h.hE (((Wn.int (show szi 2 2 by decide)).mul (kw h.A2)).mul h.X) (by decide) (by omega)
    have t3 : Wn E (4 * e + 1) 4 a4 := Wn.to h.hE (kw h.A4) (by decide) (by omega)
    have t4 : Wn E (4 * e + 1) 4 (a1 * y) := Wn.to h.hE ((kw h.A1).mul h.Y) (by decide) (by omega)
    have g : 3 * x * x + 2 * a2 * x + a4 - a1 * y = (3 * x * x + 2 * a2 * x) + (a4 - a1 * y) := by grind
    rw [g]
    exact ((t1.add t2).add ((t3.sub t4).mono (by omega))).mono (by omega)
  obtain ⟨D, b1, b2⟩ := d1
  obtain ⟨N, e1, e2⟩ := n1
  have ep : (E : Rat) ≠ 0 := fun z => h.E0 (by exact_mod_cast z)
  have hD0 : D ≠ 0 := fun z => by
    rw [z] at b1
    rcases Rat.mul_eq_zero.mp (b1.trans rfl) with z | z
    · exact hne z
    · grind
  have hEB : szi (D * E) (4 * e + 6 - e0) := (b2.mul h.hE).mono (by omega)
  have hl' : Wn (D * E) (4 * e + 6) 1 l := by
    refine Wn.frac (A := N) ?_ (Int.mul_ne_zero hD0 h.E0) e2
    rw [rc_mul, ← b1, ← e1, ← hl]
    grind
  have lift : ∀ {k n : Nat} {q : Rat}, Wn E n k q → Wn (D * E) (n + ((3 * e + 4) * k + 1)) k q := fun h => Wn.base b2 h
  refine ⟨⟨D * E, ?_⟩, Wn.hz (Int.mul_ne_zero hD0 h.E0) hEB hl' (by omega) (by omega)⟩
  exact Si.slope (Int.mul_ne_zero hD0 h.E0) (by omega) hEB h.A1 h.A2 h.A3 h.A4 h.A6 hl' ((lift h.X).mono (by omega)) ((lift h.X).mono (by omega)) ((lift h.Y).mono (by omega))
theorem si_R (p : Si e0 E e a1 a2 a3 a4 a6 x y) (q : Si e0 F f a1 a2 a3 a4 a6 v w) : W2 E F (3 * e + 3 * f + 9) 3 3 (chR a1 a2 a3 a4 a6 x y v w) := by
  have hn := p.hn
  have hm := q.hn
  have X : W2 E F (2 * e) 2 0 x := W2.of1 p.X
  have Y : W2 E F (3 * e) 3 0 y := W2.of1 p.Y
  have V : W2 E F (2 * f) 0 2 v := W2.of2 q.X
  have W : W2 E F (3 * f) 0 3 w := W2.of2 q.Y
  have i2 : W2 E F 2 0 0 2 := W2.int (c := 2) (by decide)
  have t1 : W2 E F (3 * e + 3 * f + 5) 3 3 (2 * a2 * (x * v)) := ((i2.mul (k2w p.A2)).mul (X.mul V)).up p.hE q.hE 1 1 3 3 _
  have t2 : W2 E F (3 * e + 3 * f + 5) 3 3 (a4 * x) := ((k2w p.A4).mul X).up p.hE q.hE 1 3 3 3 _
  have t3 : W2 E F (3 * e + 3 * f + 5) 3 3 (a4 * v) := ((k2w p.A4).mul V).up p.hE q.hE 3 1 3 3 _
  have t4 : W2 E F (3 * e + 3 * f + 5) 3 3 (2 * a6) := (i2.mul (k2w p.A6)).up p.hE q.hE 3 3 3 3 _
  have t5 : W2 E F (3 * e + 3 * f + 5) 3 3 (2 * (y * w)) := (i2.mul (Y.mul W)).up p.hE q.hE 0 0 3 3 _
  have t6 : W2 E F (3 * e + 3 * f + 5) 3 3 (a1 * x * w) := (((k2w p.A1).mul X).mul W).up p.hE q.hE 1 0 3 3 _
  have t7 : W2 E F (3 * e + 3 * f + 5) 3 3 (a1 * v * y) := (((k2w p.A1).mul V).mul Y).up p.hE q.hE 0 1 3 3 _
  have t8 : W2 E F (3 * e + 3 * f + 5) 3 3 (a3 * y) := ((k2w p.A3).mul Y).up p.hE q.hE 0 3 3 3 _
  have t9 : W2 E F (3 * e + 3 * f + 5) 3 3 (a3 * w) := ((k2w p.A3).mul W).up p.hE q.hE 3 0 3 3 _
  unfold chR
  exact (W2.add (W2.add t1 t2 (r := 3 * e + 3 * f + 6)) (W2.add t3 t4 (r := 3 * e + 3 * f + 6)) (r := 3 * e + 3 * f + 7)).sub (W2.add (W2.add t5 t6 (r := 3 * e + 3 * f + 6)) (W2.add t7 (W2.add t8 t9 (r := 3 * e + 3 * f + 6)) (r := 3 * e + 3 * f + 7)) (r := 3 * e + 3 * f + 8))
theorem si_M (p : Si e0 E e a1 a2 a3 a4 a6 x y) (q : Si e0 F f a1 a2 a3 a4 a6 v w) : W2 E F (4 * e + 4 * f + 12) 4 4 (x * x * v + x * v * v + chR a1 a2 a3 a4 a6 x y v w) := by
  have hn := p.hn
  have hm := q.hn
  have X : W2 E F (2 * e) 2 0 x := W2.of1 p.X
  have V : W2 E F (2 * f) 0 2 v := W2.of2 q.X
  have t1 : W2 E F (4 * e + 4 * f + 2) 4 4 (x * x * v) := ((X.mul X).mul V).up p.hE q.hE 0 2 4 4 _
  have t2 : W2 E F (4 * e + 4 * f + 2) 4 4 (x * v * v) := ((X.mul V).mul V).up p.hE q.hE 2 0 4 4 _
  have t3 : W2 E F (4 * e + 4 * f + 11) 4 4 (chR a1 a2 a3 a4 a6 x y v w) := (si_R p q).up p.hE q.hE 1 1 4 4 _
  exact (W2.add t1 t2 (r := 4 * e + 4 * f + 3)).add t3
theorem si_Y (p : Si e0 E e a1 a2 a3 a4 a6 x y) (q : Si e0 F f a1 a2 a3 a4 a6 v w) : W2 E F (6 * e + 6 * f + 20) 6 6 (((((y * v * v * v - 3 * (y * x * v * v)) - (w * x * x * x - 3 * (w * x * x * v))) - (y * chR a1 a2 a3 a4 a6 x y v w - w * chR a1 a2 a3 a4 a6 x y v w)) - ((a1 * (x * x * v + x * v * v + chR a1 a2 a3 a4 a6 x y v w) * x - a1 * (x * x * v + x * v * v + chR a1 a2 a3 a4 a6 x y v w) * v) + ((a3 * (x * x * x) - 3 * (a3 * (x * x * v))) + (3 * (a3 * (x * v * v)) - a3 * (v * v * v)))))) := by
  have hn := p.hn
  have hm := q.hn
  have X : W2 E F (2 * e) 2 0 x := W2.of1 p.X
  have Y : W2 E F (3 * e) 3 0 y := W2.of1 p.Y
  have V : W2 E F (2 * f) 0 2 v := W2.of2 q.X
  have W : W2 E F (3 * f) 0 3 w := W2.of2 q.Y
  have i3 : W2 E F 2 0 0 3 := W2.int (c := 3) (by decide)
  have R := si_R p q
  have M := si_M p q
  generalize chR a1 a2 a3 a4 a6 x y v w = r at *
  generalize x * x * v + x * v * v + r = m at *
  have t1 : W2 E F (6 * e + 6 * f + 5) 6 6 (y * v * v * v) := (((Y.mul V).mul V).mul V).up p.hE q.hE 3 0 6 6 _
  have t2 : W2 E F (6 * e + 6 * f + 5) 6 6 (3 * (y * x * v * v)) := (i3.mul (((Y.mul X).mul V).mul V)).up p.hE q.hE 1 2 6 6 _
  have t3 : W2 E F (6 * e + 6 * f + 5) 6 6 (w * x * x * x) := (((W.mul X).mul X).mul X).up p.hE q.hE 0 3 6 6 _
  have t4 : W2 E F (6 * e + 6 * f + 5) 6 6 (3 * (w * x * x * v)) := (i3.mul (((W.mul X).mul X).mul V)).up p.hE q.hE 2 1 6 6 _
  have t5 : W2 E F (6 * e + 6 * f + 12) 6 6 (y * r) := (Y.mul R).up p.hE q.hE 0 3 6 6 _
  have t6 : W2 E F (6 * e + 6 * f + 12) 6 6 (w * r) := (W.mul R).up p.hE q.hE 3 0 6 6 _
  have t7 : W2 E F (6 * e + 6 * f + 15) 6 6 (a1 * m * x) := (((k2w p.A1).mul M).mul X).up p.hE q.hE 0 2 6 6 _
  have t8 : W2 E F (6 * e + 6 * f + 15) 6 6 (a1 * m * v) := (((k2w p.A1).mul M).mul V).up p.hE q.hE 2 0 6 6 _
  have u1 : W2 E F (6 * e + 6 * f + 5) 6 6 (a3 * (x * x * x)) := ((k2w p.A3).mul ((X.mul X).mul X)).up p.hE q.hE 0 6 6 6 _
  have u2 : W2 E F (6 * e + 6 * f + 5) 6 6 (3 * (a3 * (x * x * v))) := (i3.mul ((k2w p.A3).mul ((X.mul X).mul V))).up p.hE q.hE 2 4 6 6 _
  have u3 : W2 E F (6 * e + 6 * f + 5) 6 6 (3 * (a3 * (x * v * v))) := (i3.mul ((k2w p.A3).mul ((X.mul V).mul V))).up p.hE q.hE 4 2 6 6 _
  have u4 : W2 E F (6 * e + 6 * f + 5) 6 6 (a3 * (v * v * v)) := ((k2w p.A3).mul ((V.mul V).mul V)).up p.hE q.hE 6 0 6 6 _
  exact ((((t1.sub t2 (r := 6 * e + 6 * f + 6)).sub (t3.sub t4 (r := 6 * e + 6 * f + 6)) (r := 6 * e + 6 * f + 7))).sub (t5.sub t6 (r := 6 * e + 6 * f + 13)) (r := 6 * e + 6 * f + 14)).sub ((t7.sub t8 (r := 6 * e + 6 * f + 16)).add ((u1.sub u2 (r := 6 * e + 6 * f + 6)).add (u3.sub u4 (r := 6 * e + 6 * f + 6)) (r := 6 * e + 6 * f + 7)) (r := 6 * e + 6 * f + 17))
theorem Si.chord (p : Si e0 E e a1 a2 a3 a4 a6 x y) (q : Si e0 F f a1 a2 a3 a4 a6 v w) (h1 : ev a1 a2 a3 a4 a6 x y = 0) (h2 : ev a1 a2 a3 a4 a6 v w = 0) (hne : x ≠ v) (hl : l * (v - x) = w - y) :
    (∃ G, Si e0 G (2 * (e + f) + 8) a1 a2 a3 a4 a6 (fx a1 a2 l x v) (fy a1 a3 l x y (fx a1 a2 l x v))) ∧ hz l ≤ 3 * (e + f) + 7 := by
  have hn := p.hn
  have hm := q.hn
  have X : W2 E F (2 * e) 2 0 x := W2.of1 p.X
  have Y : W2 E F (3 * e) 3 0 y := W2.of1 p.Y
  have V : W2 E F (2 * f) 0 2 v := W2.of2 q.X
  have W : W2 E F (3 * f) 0 3 w := W2.of2 q.Y
  have tN : W2 E F (2 * e + 2 * f - 2 * e0 + 3) 2 2 (x - v) := by
    have t1 : W2 E F (2 * e + 2 * f - 2 * e0 + 2) 2 2 x := X.up p.hE q.hE 0 2 2 2 _
    have t2 : W2 E F (2 * e + 2 * f - 2 * e0 + 2) 2 2 v := V.up p.hE q.hE 2 0 2 2 _
    exact t1.sub t2
  have tA : W2 E F (3 * e + 3 * f + 3) 3 3 (w - y) := by
    have t1 : W2 E F (3 * e + 3 * f + 2) 3 3 y := Y.up p.hE q.hE 0 3 3 3 _
    have t2 : W2 E F (3 * e + 3 * f + 2) 3 3 w := W.up p.hE q.hE 3 0 3 3 _
    exact t2.sub t1
  obtain ⟨N, n1, n2⟩ := tN
  obtain ⟨A, b1, b2⟩ := tA
  have ep : (E : Rat) ≠ 0 := fun z => p.E0 (by exact_mod_cast z)
  have fp : (F : Rat) ≠ 0 := fun z => q.E0 (by exact_mod_cast z)
  have hN0 : N ≠ 0 := fun z => by
    rw [z] at n1
    rcases Rat.mul_eq_zero.mp (n1.trans rfl) with z | z
    · grind
    · rcases Rat.mul_eq_zero.mp z with z | z
      · rw [show (2 : Nat) = 1 + 1 from rfl, rpow_add, Rat.pow_one] at z
        grind
      · rw [show (2 : Nat) = 1 + 1 from rfl, rpow_add, Rat.pow_one] at z
        grind
  refine ⟨⟨N, hN0, by omega, n2.mono (by omega), p.A1, p.A2, p.A3, p.A4, p.A6, ?_, ?_⟩, ?_⟩
  · refine (wn_of (k := 2) n1 (si_M p q) ?_).mono (by omega)
    rw [← ch_x h1 h2 hl, show (2 : Nat) = 1 + 1 from rfl, rpow_add, Rat.pow_one]
  · refine (wn_of (k := 3) n1 (si_Y p q) ?_).mono (by omega)
    rw [← ch_y hl (ch_x h1 h2 hl), show (3 : Nat) = 1 + (1 + 1) from rfl, rpow_add, rpow_add, Rat.pow_one]
  · have hB0 : N * E * F ≠ 0 := Int.mul_ne_zero (Int.mul_ne_zero hN0 p.E0) q.E0
    have hl' : Wn (N * E * F) (3 * (e + f) + 4) 1 l := by
      refine Wn.frac (A := -A) ?_ hB0 (b2.neg.mono (by omega))
      rw [rc_mul, rc_mul, rc_neg, ← n1, ← b1, ← hl]
      have g : ∀ z : Rat, z ^ 3 = z * z ^ 2 := fun z => by rw [show (3 : Nat) = 1 + 2 from rfl, rpow_add, Rat.pow_one]
      rw [g, g]
      grind
    exact Wn.hz hB0 (((n2.mul p.hE).mul q.hE).mono (show _ ≤ 3 * (e + f) + 4 by omega)) hl' (by omega) (by omega)
/-- a point of the curve, or nought, within e bits -/
def OkS (e0 : Nat) (a1 a2 a3 a4 a6 : Rat) (e : Nat) : Pq → Prop
  | none => True
  | some (x, y) => ev a1 a2 a3 a4 a6 x y = 0 ∧ ∃ E, Si e0 E e a1 a2 a3 a4 a6 x y
theorem OkS.on {P : Pq} (h : OkS e0 a1 a2 a3 a4 a6 e P) : OnQ a1 a2 a3 a4 a6 P := by
  rcases P with _ | ⟨x, y⟩
  · trivial
  · exact h.1
theorem OkS.mono {P : Pq} (h : OkS e0 a1 a2 a3 a4 a6 e P) (k : e ≤ f) : OkS e0 a1 a2 a3 a4 a6 f P := by
  rcases P with _ | ⟨x, y⟩
  · trivial
  · obtain ⟨h1, E, h2⟩ := h
    exact ⟨h1, E, h2.mono k⟩
theorem OkS.slope (he : 1 ≤ e) (hf : 1 ≤ f) (hP : OkS e0 a1 a2 a3 a4 a6 e (some (x, y))) (hQ : OkS e0 a1 a2 a3 a4 a6 f (some (v, w))) (ho : ¬ (x = v ∧ y + w + a1 * x + a3 = 0)) :
    (∃ G, Si e0 G (2 * (e + f) + 10) a1 a2 a3 a4 a6 (fx a1 a2 (slQ a1 a2 a3 a4 x y v w) x v) (fy a1 a3 (slQ a1 a2 a3 a4 x y v w) x y (fx a1 a2 (slQ a1 a2 a3 a4 x y v w) x v))) ∧ hz (slQ a1 a2 a3 a4 x y v w) ≤ 3 * (e + f) + 7 := by
  obtain ⟨h1, E, p⟩ := hP
  obtain ⟨h2, F, q⟩ := hQ
  by_cases hx : x = v
  · subst hx
    have hn : ¬ y + w + a1 * x + a3 = 0 := fun z => ho ⟨rfl, z⟩
    have e0 := same_y h1 h2 hn
    subst e0
    have hd : 2 * y + a1 * x + a3 ≠ 0 := by grind
    by_cases hef : e ≤ f
    · obtain ⟨⟨G, g⟩, k⟩ := p.tan hd (slQ_tan (w := y) hd) he
      exact ⟨⟨G, g.mono (by omega)⟩, by omega⟩
    · obtain ⟨⟨G, g⟩, k⟩ := q.tan hd (slQ_tan (w := y) hd) hf
      exact ⟨⟨G, g.mono (by omega)⟩, by omega⟩
  · obtain ⟨⟨G, g⟩, k⟩ := p.chord q h1 h2 hx (slQ_chord hx)
    exact ⟨⟨G, g.mono (by omega)⟩, by omega⟩
theorem OkS.add {g : Nat} (he : 1 ≤ e) (hf : 1 ≤ f) {P Q : Pq} (hP : OkS e0 a1 a2 a3 a4 a6 e P) (hQ : OkS e0 a1 a2 a3 a4 a6 f Q) (hg : 2 * (e + f) + 10 ≤ g) : OkS e0 a1 a2 a3 a4 a6 g (adQ a1 a2 a3 a4 a6 P Q) := by
  rcases P with _ | ⟨x, y⟩
  · exact hQ.mono (by omega)
  rcases Q with _ | ⟨v, w⟩
  · exact hP.mono (by omega)
  have ho := adQ_on hP.on hQ.on
  rw [adQ_ss] at ho ⊢
  by_cases hh : x = v ∧ y + w + a1 * x + a3 = 0
  · rw [if_pos hh]
    trivial
  · rw [if_neg hh] at ho ⊢
    obtain ⟨⟨G, k⟩, _⟩ := OkS.slope he hf hP hQ hh
    exact ⟨ho, G, k.mono (by omega)⟩
end
end CW
end
section
set_option maxRecDepth 100000
set_option maxHeartbeats 2000000
namespace CW
open PySem PySem.Spec PyProof.Rows L2
def scp (i : Rat) : Pq → Pq
  | none => none
  | some (x, y) => some (x * i * i, y * i * i * i)
section
variable {e0 e f g k : Nat} {a1 a2 a3 a4 a6 x y v w i : Rat}
theorem scp_lpt (P : Pq) : lpt i 0 0 0 P = scp i P := by
  rcases P with _ | ⟨x, y⟩
  · rfl
  · show some ((x - 0) * i * i, (y - 0 * (x - 0) - 0) * i * i * i) = some (x * i * i, y * i * i * i)
    congr 2
    · grind
    · grind
theorem tb0 : tb1 a1 0 = a1 ∧ tb2 a1 a2 0 0 = a2 ∧ tb3 a1 a3 0 0 = a3 ∧ tb4 a1 a2 a3 a4 0 0 0 = a4 ∧ tb6 a1 a2 a3 a4 a6 0 0 = a6 := by
  unfold tb1 tb2 tb3 tb4 tb6
  refine ⟨?_, ?_, ?_, ?_, ?_⟩ <;> grind
theorem adQ_sc (i0 : i ≠ 0) {P Q : Pq} (hP : OnQ a1 a2 a3 a4 a6 P) (hQ : OnQ a1 a2 a3 a4 a6 Q) : adQ (a1 * i) (a2 * i * i) (a3 * i * i * i) (a4 * i * i * i * i) (a6 * i * i * i * i * i * i) (scp i P) (scp i Q) = scp i (adQ a1 a2 a3 a4 a6 P Q) := by
  have h := adQ_led (r := 0) (s := 0) (t := 0) i0 hP hQ
  obtain ⟨h1, h2, h3, h4, h6⟩ := tb0 (a1 := a1) (a2 := a2) (a3 := a3) (a4 := a4) (a6 := a6)
  rw [h1, h2, h3, h4, h6, scp_lpt, scp_lpt, scp_lpt] at h
  exact h
theorem slQ_sc (i0 : i ≠ 0) : slQ (a1 * i) (a2 * i * i) (a3 * i * i * i) (a4 * i * i * i * i) (x * i * i) (y * i * i * i) (v * i * i) (w * i * i * i) = slQ a1 a2 a3 a4 x y v w * i := by
  unfold slQ
  by_cases hx : x = v
  · subst hx
    rw [if_pos rfl, if_pos rfl]
    have n : 3 * (x * i * i) * (x * i * i) + 2 * (a2 * i * i) * (x * i * i) + a4 * i * i * i * i - a1 * i * (y * i * i * i) = (3 * x * x + 2 * a2 * x + a4 - a1 * y) * (i * i * i * i) := by grind
    have d : 2 * (y * i * i * i) + a1 * i * (x * i * i) + a3 * i * i * i = (2 * y + a1 * x + a3) * (i * i * i) := by grind
    rw [n, d]
    generalize 3 * x * x + 2 * a2 * x + a4 - a1 * y = N
    generalize 2 * y + a1 * x + a3 = D
    by_cases hD : D = 0
    · subst hD
      grind
    · grind
  · have hx2 : ¬ x * i * i = v * i * i := fun z => hx (by grind)
    rw [if_neg hx, if_neg hx2]
    have n : w * i * i * i - y * i * i * i = (w - y) * (i * i * i) := by grind
    have d : v * i * i - x * i * i = (v - x) * (i * i) := by grind
    have hd : v - x ≠ 0 := fun z => hx (by grind)
    rw [n, d]
    generalize w - y = N
    generalize v - x = D at *
    grind
/-- a point whose scaled one lies within e bits -/
def OkB (i : Rat) (e0 : Nat) (a1 a2 a3 a4 a6 : Rat) (e : Nat) (P : Pq) : Prop := OnQ a1 a2 a3 a4 a6 P ∧ OkS e0 (a1 * i) (a2 * i * i) (a3 * i * i * i) (a4 * i * i * i * i) (a6 * i * i * i * i * i * i) e (scp i P)
theorem OkB.mono {P : Pq} (h : OkB i e0 a1 a2 a3 a4 a6 e P) (k : e ≤ f) : OkB i e0 a1 a2 a3 a4 a6 f P := ⟨h.1, h.2.mono k⟩
theorem OkB.add (i0 : i ≠ 0) (he : 1 ≤ e) (hf : 1 ≤ f) {P Q : Pq} (hP : OkB i e0 a1 a2 a3 a4 a6 e P) (hQ : OkB i e0 a1 a2 a3 a4 a6 f Q) (hg : 2 * (e + f) + 10 ≤ g) : OkB i e0 a1 a2 a3 a4 a6 g (adQ a1 a2 a3 a4 a6 P Q) :=
  ⟨adQ_on hP.1 hQ.1, by
    rw [← adQ_sc i0 hP.1 hQ.1]
    exact OkS.add he hf hP.2 hQ.2 hg⟩
theorem hz_un (i0 : i ≠ 0) (hi : hz i ≤ k) (q : Rat) : hz q ≤ hz (q * i) + k := by
  have e : q = q * i * i⁻¹ := by rw [Rat.mul_assoc, Rat.mul_inv_cancel i i0, Rat.mul_one]
  have h1 := hz_mul (q * i) i⁻¹
  rw [← e] at h1
  have h2 := hz_inv i
  omega
theorem OkB.hz (i0 : i ≠ 0) (hi : hz i ≤ k) (he : 1 ≤ e) (h : OkB i e0 a1 a2 a3 a4 a6 e (some (x, y))) : hz x ≤ 2 * e + 1 + 2 * k ∧ hz y ≤ 3 * e + 1 + 3 * k ∧ hz (y + a1 * x + a3) ≤ 3 * e + 4 + 3 * k := by
  obtain ⟨_, _, E, s⟩ := h
  have x1 := s.hx he
  have y1 := s.hy he
  have n1 := s.hneg he
  have u1 := hz_un i0 hi x
  have u2 := hz_un i0 hi (x * i)
  have v1 := hz_un i0 hi y
  have v2 := hz_un i0 hi (y * i)
  have v3 := hz_un i0 hi (y * i * i)
  have w1 := hz_un i0 hi (y + a1 * x + a3)
  have w2 := hz_un i0 hi ((y + a1 * x + a3) * i)
  have w3 := hz_un i0 hi ((y + a1 * x + a3) * i * i)
  have eN : y * i * i * i + a1 * i * (x * i * i) + a3 * i * i * i = (y + a1 * x + a3) * i * i * i := by grind
  rw [eN] at n1
  exact ⟨by omega, by omega, by omega⟩
theorem OkB.slope (i0 : i ≠ 0) (hi : CW.hz i ≤ k) (he : 1 ≤ e) (hf : 1 ≤ f) (hP : OkB i e0 a1 a2 a3 a4 a6 e (some (x, y))) (hQ : OkB i e0 a1 a2 a3 a4 a6 f (some (v, w))) (ho : ¬ (x = v ∧ y + w + a1 * x + a3 = 0)) : CW.hz (slQ a1 a2 a3 a4 x y v w) ≤ 3 * (e + f) + 7 + k := by
  have h := (OkS.slope he hf hP.2 hQ.2 fun z => ho ⟨by have := z.1; grind, by
    have z2 := z.2
    have e3 : y * i * i * i + w * i * i * i + a1 * i * (x * i * i) + a3 * i * i * i = (y + w + a1 * x + a3) * (i * i * i) := by grind
    rw [e3] at z2
    grind⟩).2
  rw [slQ_sc i0] at h
  have := hz_un i0 hi (slQ a1 a2 a3 a4 x y v w)
  omega
end
end CW
end
section
set_option maxRecDepth 100000
set_option maxHeartbeats 2000000
open PySem PySem.Spec PyProof.Rows L2 CW
namespace CWL
def topS (i : Nat) : Stmt := PySem.Challenge.pw_cubicway_k22_multiples.main.body.getD i (.Pass ⟨0, 0, 0, 0⟩)
abbrev st_is_number : Stmt := topS 6
abbrev N_is_number : List Str := ["thing"]
theorem sc_is_number : FnScope N_is_number ["thing"] (defScope st_is_number) := ⟨rfl, rfl, rfl, by decide +kernel, rfl, by decide +kernel, by decide +kernel⟩
abbrev st_common : Stmt := topS 7
abbrev N_common : List Str := ["one", "other"]
theorem sc_common : FnScope N_common ["one", "other"] (defScope st_common) := ⟨rfl, rfl, rfl, by decide +kernel, rfl, by decide +kernel, by decide +kernel⟩
abbrev st_is_fraction : Stmt := topS 8
abbrev N_is_fraction : List Str := ["thing"]
theorem sc_is_fraction : FnScope N_is_fraction ["thing"] (defScope st_is_fraction) := ⟨rfl, rfl, rfl, by decide +kernel, rfl, by decide +kernel, by decide +kernel⟩
abbrev st_pair_of : Stmt := topS 9
abbrev N_pair_of : List Str := ["a"]
theorem sc_pair_of : FnScope N_pair_of ["a"] (defScope st_pair_of) := ⟨rfl, rfl, rfl, by decide +kernel, rfl, by decide +kernel, by decide +kernel⟩
abbrev st_lowest : Stmt := topS 10
abbrev N_lowest : List Str := ["top", "bottom", "by"]
theorem sc_lowest : FnScope N_lowest ["top", "bottom"] (defScope st_lowest) := ⟨rfl, rfl, rfl, by decide +kernel, rfl, by decide +kernel, by decide +kernel⟩
abbrev st_sum_of_two : Stmt := topS 11
abbrev N_sum_of_two : List Str := ["a", "b", "top", "bottom", "other", "under"]
theorem sc_sum_of_two : FnScope N_sum_of_two ["a", "b"] (defScope st_sum_of_two) := ⟨rfl, rfl, rfl, by decide +kernel, rfl, by decide +kernel, by decide +kernel⟩
abbrev st_product : Stmt := topS 12
abbrev N_product : List Str := ["a", "b", "top", "bottom", "other", "under"]
theorem sc_product : FnScope N_product ["a", "b"] (defScope st_product) := ⟨rfl, rfl, rfl, by decide +kernel, rfl, by decide +kernel, by decide +kernel⟩
abbrev st_turned : Stmt := topS 13
abbrev N_turned : List Str := ["a"]
theorem sc_turned : FnScope N_turned ["a"] (defScope st_turned) := ⟨rfl, rfl, rfl, by decide +kernel, rfl, by decide +kernel, by decide +kernel⟩
abbrev st_quotient : Stmt := topS 14
abbrev N_quotient : List Str := ["a", "b", "top", "bottom"]
theorem sc_quotient : FnScope N_quotient ["a", "b"] (defScope st_quotient) := ⟨rfl, rfl, rfl, by decide +kernel, rfl, by decide +kernel, by decide +kernel⟩
abbrev st_summed : Stmt := topS 16
abbrev N_summed : List Str := ["rows", "found", "row", "much", "one"]
theorem sc_summed : FnScope N_summed ["rows"] (defScope st_summed) := ⟨rfl, rfl, rfl, by decide +kernel, rfl, by decide +kernel, by decide +kernel⟩
abbrev st_halves_of : Stmt := topS 17
abbrev N_halves_of : List Str := ["five", "a1", "a2", "a3", "a4", "a6", "b2", "b4", "b8"]
theorem sc_halves_of : FnScope N_halves_of ["five"] (defScope st_halves_of) := ⟨rfl, rfl, rfl, by decide +kernel, rfl, by decide +kernel, by decide +kernel⟩
abbrev st_d_of : Stmt := topS 18
abbrev N_d_of : List Str := ["five", "b2", "b4", "b6", "b8"]
theorem sc_d_of : FnScope N_d_of ["five"] (defScope st_d_of) := ⟨rfl, rfl, rfl, by decide +kernel, rfl, by decide +kernel, by decide +kernel⟩
abbrev st_is_curve : Stmt := topS 19
abbrev N_is_curve : List Str := ["thing", "one"]
theorem sc_is_curve : FnScope N_is_curve ["thing"] (defScope st_is_curve) := ⟨rfl, rfl, rfl, by decide +kernel, rfl, by decide +kernel, by decide +kernel⟩
abbrev st_need_curve : Stmt := topS 20
abbrev N_need_curve : List Str := ["curve"]
theorem sc_need_curve : FnScope N_need_curve ["curve"] (defScope st_need_curve) := ⟨rfl, rfl, rfl, by decide +kernel, rfl, by decide +kernel, by decide +kernel⟩
abbrev st_together_of : Stmt := topS 23
abbrev N_together_of : List Str := ["things", "found", "thing"]
theorem sc_together_of : FnScope N_together_of ["things"] (defScope st_together_of) := ⟨rfl, rfl, rfl, by decide +kernel, rfl, by decide +kernel, by decide +kernel⟩
abbrev st_is_on : Stmt := topS 24
abbrev N_is_on : List Str := ["curve", "thing", "one", "a1", "a2", "a3", "a4", "a6", "x", "y", "left", "right"]
theorem sc_is_on : FnScope N_is_on ["curve", "thing"] (defScope st_is_on) := ⟨rfl, rfl, rfl, by decide +kernel, rfl, by decide +kernel, by decide +kernel⟩
abbrev st_need_point : Stmt := topS 25
abbrev N_need_point : List Str := ["curve", "thing"]
theorem sc_need_point : FnScope N_need_point ["curve", "thing"] (defScope st_need_point) := ⟨rfl, rfl, rfl, by decide +kernel, rfl, by decide +kernel, by decide +kernel⟩
abbrev st_opposite_of : Stmt := topS 26
abbrev N_opposite_of : List Str := ["curve", "point", "x", "y"]
theorem sc_opposite_of : FnScope N_opposite_of ["curve", "point"] (defScope st_opposite_of) := ⟨rfl, rfl, rfl, by decide +kernel, rfl, by decide +kernel, by decide +kernel⟩
abbrev st_slope_of : Stmt := topS 27
abbrev N_slope_of : List Str := ["curve", "one", "other", "a1", "a2", "a3", "a4", "a6", "x", "y", "far", "high", "top"]
theorem sc_slope_of : FnScope N_slope_of ["curve", "one", "other"] (defScope st_slope_of) := ⟨rfl, rfl, rfl, by decide +kernel, rfl, by decide +kernel, by decide +kernel⟩
abbrev st_sum_on : Stmt := topS 28
abbrev N_sum_on : List Str := ["curve", "one", "other", "a1", "a2", "a3", "a4", "a6", "slope", "x", "y"]
theorem sc_sum_on : FnScope N_sum_on ["curve", "one", "other"] (defScope st_sum_on) := ⟨rfl, rfl, rfl, by decide +kernel, rfl, by decide +kernel, by decide +kernel⟩
abbrev st_multiple_on : Stmt := topS 29
abbrev N_multiple_on : List Str := ["curve", "count", "point", "found", "step", "missing"]
theorem sc_multiple_on : FnScope N_multiple_on ["curve", "count", "point"] (defScope st_multiple_on) := ⟨rfl, rfl, rfl, by decide +kernel, rfl, by decide +kernel, by decide +kernel⟩
abbrev st_is_point : Stmt := topS 30
abbrev N_is_point : List Str := ["curve", "thing"]
theorem sc_is_point : FnScope N_is_point ["curve", "thing"] (defScope st_is_point) := ⟨rfl, rfl, rfl, by decide +kernel, rfl, by decide +kernel, by decide +kernel⟩
abbrev st_opposite : Stmt := topS 31
abbrev N_opposite : List Str := ["curve", "point"]
theorem sc_opposite : FnScope N_opposite ["curve", "point"] (defScope st_opposite) := ⟨rfl, rfl, rfl, by decide +kernel, rfl, by decide +kernel, by decide +kernel⟩
abbrev st_added : Stmt := topS 32
abbrev N_added : List Str := ["curve", "one", "other"]
theorem sc_added : FnScope N_added ["curve", "one", "other"] (defScope st_added) := ⟨rfl, rfl, rfl, by decide +kernel, rfl, by decide +kernel, by decide +kernel⟩
abbrev st_times_point : Stmt := topS 33
abbrev N_times_point : List Str := ["curve", "count", "point"]
theorem sc_times_point : FnScope N_times_point ["curve", "count", "point"] (defScope st_times_point) := ⟨rfl, rfl, rfl, by decide +kernel, rfl, by decide +kernel, by decide +kernel⟩
abbrev st_Ldraw_of : Stmt := topS 35
abbrev N_Ldraw_of : List Str := ["_law_script", "_law_k", "_law_cell", "_law_digits"]
theorem sc_Ldraw_of : FnScope N_Ldraw_of ["_law_script", "_law_k"] (defScope st_Ldraw_of) := ⟨rfl, rfl, rfl, by decide +kernel, rfl, by decide +kernel, by decide +kernel⟩
abbrev st_Lnext : Stmt := topS 36
abbrev N_Lnext : List Str := ["_law_draw", "_law_many", "_law_found", "_law_primes", "_law_prime"]
theorem sc_Lnext : FnScope N_Lnext ["_law_draw", "_law_many"] (defScope st_Lnext) := ⟨rfl, rfl, rfl, by decide +kernel, rfl, by decide +kernel, by decide +kernel⟩
abbrev st_Llowest : Stmt := topS 37
abbrev N_Llowest : List Str := ["_law_top", "_law_bottom", "_law_a", "_law_b"]
theorem sc_Llowest : FnScope N_Llowest ["_law_top", "_law_bottom"] (defScope st_Llowest) := ⟨rfl, rfl, rfl, by decide +kernel, rfl, by decide +kernel, by decide +kernel⟩
abbrev st_Lsum : Stmt := topS 38
abbrev N_Lsum : List Str := ["_law_pairs", "_law_found", "_law_top", "_law_bottom"]
theorem sc_Lsum : FnScope N_Lsum ["_law_pairs"] (defScope st_Lsum) := ⟨rfl, rfl, rfl, by decide +kernel, rfl, by decide +kernel, by decide +kernel⟩
abbrev st_Lproduct : Stmt := topS 39
abbrev N_Lproduct : List Str := ["_law_pairs", "_law_found", "_law_top", "_law_bottom"]
theorem sc_Lproduct : FnScope N_Lproduct ["_law_pairs"] (defScope st_Lproduct) := ⟨rfl, rfl, rfl, by decide +kernel, rfl, by decide +kernel, by decide +kernel⟩
abbrev st_Lminus : Stmt := topS 40
abbrev N_Lminus : List Str := ["_law_a"]
theorem sc_Lminus : FnScope N_Lminus ["_law_a"] (defScope st_Lminus) := ⟨rfl, rfl, rfl, by decide +kernel, rfl, by decide +kernel, by decide +kernel⟩
abbrev st_Lover : Stmt := topS 41
abbrev N_Lover : List Str := ["_law_a", "_law_b"]
theorem sc_Lover : FnScope N_Lover ["_law_a", "_law_b"] (defScope st_Lover) := ⟨rfl, rfl, rfl, by decide +kernel, rfl, by decide +kernel, by decide +kernel⟩
abbrev st_Ltold : Stmt := topS 42
abbrev N_Ltold : List Str := ["_law_a"]
theorem sc_Ltold : FnScope N_Ltold ["_law_a"] (defScope st_Ltold) := ⟨rfl, rfl, rfl, by decide +kernel, rfl, by decide +kernel, by decide +kernel⟩
abbrev st_Lsmall : Stmt := topS 43
abbrev N_Lsmall : List Str := ["_law_draw", "_law_top", "_law_bottoms", "_law_bottom"]
theorem sc_Lsmall : FnScope N_Lsmall ["_law_draw", "_law_top", "_law_bottoms"] (defScope st_Lsmall) := ⟨rfl, rfl, rfl, by decide +kernel, rfl, by decide +kernel, by decide +kernel⟩
abbrev st_Lis_single : Stmt := topS 44
abbrev N_Lis_single : List Str := ["_law_five", "_law_a1", "_law_a2", "_law_a3", "_law_a4", "_law_a6", "_law_b2", "_law_b4", "_law_b6", "_law_b8", "_law_some_here"]
theorem sc_Lis_single : FnScope N_Lis_single ["_law_five"] (defScope st_Lis_single) := ⟨rfl, rfl, rfl, by decide +kernel, rfl, by decide +kernel, by decide +kernel⟩
abbrev st_Lbetween : Stmt := topS 45
abbrev N_Lbetween : List Str := ["_law_one", "_law_other"]
theorem sc_Lbetween : FnScope N_Lbetween ["_law_one", "_law_other"] (defScope st_Lbetween) := ⟨rfl, rfl, rfl, by decide +kernel, rfl, by decide +kernel, by decide +kernel⟩
abbrev st_Lthrough : Stmt := topS 46
abbrev N_Lthrough : List Str := ["_law_a1", "_law_a3", "_law_points", "_law_rows", "_law_x", "_law_y", "_law_some_here", "_law_one", "_law_two", "_law_u", "_law_z", "_law_a2", "_law_a4", "_law_a6"]
theorem sc_Lthrough : FnScope N_Lthrough ["_law_a1", "_law_a3", "_law_points"] (defScope st_Lthrough) := ⟨rfl, rfl, rfl, by decide +kernel, rfl, by decide +kernel, by decide +kernel⟩
abbrev st_Lsome : Stmt := topS 47
abbrev N_Lsome : List Str := ["_law_draw", "_law_bottoms", "_law_points", "_law_x", "_law_one", "_law_a1", "_law_a3", "_law_shift", "_law_five", "_law_far", "_law_none"]
theorem sc_Lsome : FnScope N_Lsome ["_law_draw"] (defScope st_Lsome) := ⟨rfl, rfl, rfl, by decide +kernel, rfl, by decide +kernel, by decide +kernel⟩
abbrev st_Lcurve : Stmt := topS 48
abbrev N_Lcurve : List Str := ["_law_five", "_law_one"]
theorem sc_Lcurve : FnScope N_Lcurve ["_law_five"] (defScope st_Lcurve) := ⟨rfl, rfl, rfl, by decide +kernel, rfl, by decide +kernel, by decide +kernel⟩
abbrev st_Lpoint : Stmt := topS 49
abbrev N_Lpoint : List Str := ["_law_point_here"]
theorem sc_Lpoint : FnScope N_Lpoint ["_law_point_here"] (defScope st_Lpoint) := ⟨rfl, rfl, rfl, by decide +kernel, rfl, by decide +kernel, by decide +kernel⟩
abbrev st_Lopposite : Stmt := topS 50
abbrev N_Lopposite : List Str := ["_law_five", "_law_point_here"]
theorem sc_Lopposite : FnScope N_Lopposite ["_law_five", "_law_point_here"] (defScope st_Lopposite) := ⟨rfl, rfl, rfl, by decide +kernel, rfl, by decide +kernel, by decide +kernel⟩
abbrev st_Ladded : Stmt := topS 51
abbrev N_Ladded : List Str := ["_law_five", "_law_one", "_law_other", "_law_x", "_law_y", "_law_a1", "_law_a2", "_law_a3", "_law_a4", "_law_a6", "_law_slope", "_law_top", "_law_some_here", "_law_far", "_law_high"]
theorem sc_Ladded : FnScope N_Ladded ["_law_five", "_law_one", "_law_other"] (defScope st_Ladded) := ⟨rfl, rfl, rfl, by decide +kernel, rfl, by decide +kernel, by decide +kernel⟩
abbrev st_Lfinite : Stmt := topS 52
abbrev N_Lfinite : List Str := ["_law_draw", "_law_a", "_law_b", "_law_way", "_law_sign", "_law_s", "_law_c", "_law_d", "_law_far"]
theorem sc_Lfinite : FnScope N_Lfinite ["_law_draw"] (defScope st_Lfinite) := ⟨rfl, rfl, rfl, by decide +kernel, rfl, by decide +kernel, by decide +kernel⟩
abbrev st_Lround_right : Stmt := topS 53
abbrev N_Lround_right : List Str := ["_law_draw", "_law_five", "_law_point_here", "_law_order", "_law_curve_here", "_law_own", "_law_row", "_law_k", "_law_many"]
theorem sc_Lround_right : FnScope N_Lround_right ["_law_draw"] (defScope st_Lround_right) := ⟨rfl, rfl, rfl, by decide +kernel, rfl, by decide +kernel, by decide +kernel⟩
abbrev st_law : Stmt := topS 54
abbrev N_law : List Str := ["_law_script", "_law_draws", "_law_k", "_law_five", "_law_points", "_law_curve_here", "_law_own", "_law_row", "_law_said", "_law_one", "_law_a", "_law_b", "_law_both", "_law_many", "_law_far", "_law_draw"]
theorem sc_law : FnScope N_law ["_law_script"] (defScope st_law) := ⟨rfl, rfl, rfl, by decide +kernel, rfl, by decide +kernel, by decide +kernel⟩
def c_MOST_TIMES : P := .int 60
noncomputable def B_is_number : SF := (retF ((andE ((calE isiD [vE 0, cE (.ty "int")])) (notE ((calE isiD [vE 0, cE (.ty "bool")]))))))
noncomputable def m_is_number : List D → M D := defM 1 1 B_is_number
noncomputable def B_common : SF := (seqF (whF (tB (op2 (eqD true) (vE 1) (cE (.int 0)))) (parF 0 1 [vE 1, (op2 (modD) (vE 0) (vE 1))])) (retF ((calE absD [vE 0]))))
noncomputable def m_common : List D → M D := defM 2 2 B_common
noncomputable def B_is_fraction : SF := (seqF (iffF (notT (tT ((calE isiD [vE 0, cE (.ty "tuple")])))) (retF ((calE m_is_number [vE 0]))) nopF) (seqF (iffF (orT (tB (op2 (eqD true) ((calE lenD [vE 0])) (cE (.int 2)))) (orT (notT (tT ((calE m_is_number [(op2 ixD (vE 0) (cE (.int 0)))])))) (notT (tT ((calE m_is_number [(op2 ixD (vE 0) (cE (.int 1)))])))))) (retF (cE (.bl false))) nopF) (retF ((andE ((op2 (gtD) ((op2 ixD (vE 0) (cE (.int 1)))) (cE (.int 1)))) (op2 (eqD false) ((calE m_common [(op2 ixD (vE 0) (cE (.int 0))), (op2 ixD (vE 0) (cE (.int 1)))])) (cE (.int 1))))))))
noncomputable def m_is_fraction : List D → M D := defM 1 1 B_is_fraction
noncomputable def B_pair_of : SF := (retF ((ifE ((tT ((calE isiD [vE 0, cE (.ty "tuple")])))) (vE 0) ((tupE [vE 0, cE (.int 1)])))))
noncomputable def m_pair_of : List D → M D := defM 1 1 B_pair_of
noncomputable def B_lowest : SF := (seqF (asgF ((ifE ((tB (op2 (gtD) (vE 1) (cE (.int 0))))) ((calE m_common [vE 0, vE 1])) ((op1 negD ((calE m_common [vE 0, vE 1])))))) (setG 2)) (retF ((ifE ((tB (op2 (eqD false) ((op2 (divD) (vE 1) (vE 2))) (cE (.int 1))))) ((op2 (divD) (vE 0) (vE 2))) ((tupE [(op2 (divD) (vE 0) (vE 2)), (op2 (divD) (vE 1) (vE 2))]))))))
noncomputable def m_lowest : List D → M D := defM 2 3 B_lowest
noncomputable def B_sum_of_two : SF := (seqF (tasF [(calE m_pair_of [vE 0]), (calE m_pair_of [vE 1])] (consT (tupG 2 (consG (setG 2) (consG (setG 3) nilG))) (consT (tupG 2 (consG (setG 4) (consG (setG 5) nilG))) nilT))) (retF ((calE m_lowest [(op2 (addD true) ((op2 (mulD true) (vE 2) (vE 5))) ((op2 (mulD true) (vE 4) (vE 3)))), (op2 (mulD true) (vE 3) (vE 5))]))))
noncomputable def m_sum_of_two : List D → M D := defM 2 6 B_sum_of_two
noncomputable def B_product : SF := (seqF (tasF [(calE m_pair_of [vE 0]), (calE m_pair_of [vE 1])] (consT (tupG 2 (consG (setG 2) (consG (setG 3) nilG))) (consT (tupG 2 (consG (setG 4) (consG (setG 5) nilG))) nilT))) (retF ((calE m_lowest [(op2 (mulD true) (vE 2) (vE 4)), (op2 (mulD true) (vE 3) (vE 5))]))))
noncomputable def m_product : List D → M D := defM 2 6 B_product
noncomputable def B_turned : SF := (retF ((calE m_product [(op1 negD (cE (.int 1))), vE 0])))
noncomputable def m_turned : List D → M D := defM 1 1 B_turned
noncomputable def B_quotient : SF := (seqF (asgF ((calE m_pair_of [vE 1])) (tupG 2 (consG (setG 2) (consG (setG 3) nilG)))) (retF ((calE m_product [vE 0, (calE m_lowest [vE 3, vE 2])]))))
noncomputable def m_quotient : List D → M D := defM 2 4 B_quotient
noncomputable def B_summed : SF := (seqF (asgF (cE (.int 0)) (setG 1)) (seqF (forF (rowI (vE 0)) (setG 2) (seqF (asgF (cE (.int 1)) (setG 3)) (seqF (forF (rowI (vE 2)) (setG 4) (asgF ((calE m_product [vE 3, vE 4])) (setG 3))) (asgF ((calE m_sum_of_two [vE 1, vE 3])) (setG 1))))) (retF (vE 1))))
noncomputable def m_summed : List D → M D := defM 1 5 B_summed
noncomputable def B_halves_of : SF := (seqF (asgF (vE 0) (tupG 5 (consG (setG 1) (consG (setG 2) (consG (setG 3) (consG (setG 4) (consG (setG 5) nilG))))))) (seqF (parF 6 7 [(calE m_summed [(lstE [(tupE [vE 1, vE 1]), (tupE [cE (.int 4), vE 2])])]), (calE m_summed [(lstE [(tupE [cE (.int 2), vE 4]), (tupE [vE 1, vE 3])])])]) (seqF (asgF ((calE m_summed [(lstE [(tupE [vE 1, vE 1, vE 5]), (tupE [cE (.int 4), vE 2, vE 5]), (tupE [(op1 negD (cE (.int 1))), vE 1, vE 3, vE 4]), (tupE [vE 2, vE 3, vE 3]), (tupE [(op1 negD (cE (.int 1))), vE 4, vE 4])])])) (setG 8)) (retF ((tupE [vE 6, vE 7, (calE m_summed [(lstE [(tupE [vE 3, vE 3]), (tupE [cE (.int 4), vE 5])])]), vE 8]))))))
noncomputable def m_halves_of : List D → M D := defM 1 9 B_halves_of
noncomputable def B_d_of : SF := (seqF (asgF ((calE m_halves_of [vE 0])) (tupG 4 (consG (setG 1) (consG (setG 2) (consG (setG 3) (consG (setG 4) nilG)))))) (retF ((calE m_summed [(lstE [(tupE [cE (.int 9), vE 1, vE 2, vE 3]), (tupE [(op1 negD (cE (.int 1))), vE 1, vE 1, vE 4]), (tupE [(op1 negD (cE (.int 8))), vE 2, vE 2, vE 2]), (tupE [(op1 negD (cE (.int 27))), vE 3, vE 3])])]))))
noncomputable def m_d_of : List D → M D := defM 1 5 B_d_of
noncomputable def B_is_curve : SF := (seqF (iffF (orT (notT (tT ((calE isiD [vE 0, cE (.ty "tuple")])))) (orT (tB (op2 (eqD true) ((calE lenD [vE 0])) (cE (.int 5)))) (notT (tT ((calE allD [(lcE true (rowI (vE 0)) [1] (setG 1) yesT ((calE m_is_fraction [vE 1])))])))))) (retF (cE (.bl false))) nopF) (retF ((op2 (eqD true) ((calE m_d_of [vE 0])) (cE (.int 0))))))
noncomputable def m_is_curve : List D → M D := defM 1 2 B_is_curve
noncomputable def B_need_curve : SF := (iffF (notT (tT ((calE m_is_curve [vE 0])))) noF nopF)
noncomputable def m_need_curve : List D → M D := defM 1 1 B_need_curve
noncomputable def B_together_of : SF := (seqF (asgF (cE (.int 0)) (setG 1)) (seqF (forF (rowI (vE 0)) (setG 2) (asgF ((calE m_sum_of_two [vE 1, vE 2])) (setG 1))) (retF (vE 1))))
noncomputable def m_together_of : List D → M D := defM 1 3 B_together_of
noncomputable def B_is_on : SF := (seqF (iffF (tB (op2 (isN false) (vE 1) (cE .non))) (retF (cE (.bl true))) nopF) (seqF (iffF (orT (notT (tT ((calE isiD [vE 1, cE (.ty "tuple")])))) (orT (tB (op2 (eqD true) ((calE lenD [vE 1])) (cE (.int 2)))) (notT (tT ((calE allD [(lcE true (rowI (vE 1)) [2] (setG 2) yesT ((calE m_is_fraction [vE 2])))])))))) (retF (cE (.bl false))) nopF) (seqF (asgF (vE 0) (tupG 5 (consG (setG 3) (consG (setG 4) (consG (setG 5) (consG (setG 6) (consG (setG 7) nilG))))))) (seqF (asgF (vE 1) (tupG 2 (consG (setG 8) (consG (setG 9) nilG)))) (seqF (asgF ((calE m_product [vE 9, (calE m_together_of [(lstE [vE 9, (calE m_product [vE 3, vE 8]), vE 5])])])) (setG 10)) (seqF (asgF ((calE m_sum_of_two [(calE m_product [(calE m_sum_of_two [(calE m_product [(calE m_sum_of_two [vE 8, vE 4]), vE 8]), vE 6]), vE 8]), vE 7])) (setG 11)) (retF ((op2 (eqD false) (vE 10) (vE 11))))))))))
noncomputable def m_is_on : List D → M D := defM 2 12 B_is_on
noncomputable def B_need_point : SF := (iffF (notT (tT ((calE m_is_on [vE 0, vE 1])))) noF nopF)
noncomputable def m_need_point : List D → M D := defM 2 2 B_need_point
noncomputable def B_opposite_of : SF := (seqF (iffF (tB (op2 (isN false) (vE 1) (cE .non))) (retF (cE .non)) nopF) (seqF (asgF (vE 1) (tupG 2 (consG (setG 2) (consG (setG 3) nilG)))) (retF ((tupE [vE 2, (calE m_turned [(calE m_together_of [(lstE [vE 3, (calE m_product [(op2 ixD (vE 0) (cE (.int 0))), vE 2]), (op2 ixD (vE 0) (cE (.int 2)))])])])])))))
noncomputable def m_opposite_of : List D → M D := defM 2 4 B_opposite_of
noncomputable def B_slope_of : SF := (seqF (asgF (vE 0) (tupG 5 (consG (setG 3) (consG (setG 4) (consG (setG 5) (consG (setG 6) (consG (setG 7) nilG))))))) (seqF (tasF [vE 1, vE 2] (consT (tupG 2 (consG (setG 8) (consG (setG 9) nilG))) (consT (tupG 2 (consG (setG 10) (consG (setG 11) nilG))) nilT))) (seqF (iffF (tB (op2 (eqD true) (vE 8) (vE 10))) (retF ((calE m_quotient [(calE m_sum_of_two [vE 11, (calE m_turned [vE 9])]), (calE m_sum_of_two [vE 10, (calE m_turned [vE 8])])]))) nopF) (seqF (asgF ((calE m_together_of [(lstE [(calE m_product [cE (.int 3), (calE m_product [vE 8, vE 8])]), (calE m_product [cE (.int 2), (calE m_product [vE 4, vE 8])]), vE 6, (calE m_turned [(calE m_product [vE 3, vE 9])])])])) (setG 12)) (retF ((calE m_quotient [vE 12, (calE m_together_of [(lstE [vE 9, vE 9, (calE m_product [vE 3, vE 8]), vE 5])])])))))))
noncomputable def m_slope_of : List D → M D := defM 3 13 B_slope_of
noncomputable def B_sum_on : SF := (seqF (iffF (orT (tB (op2 (isN false) (vE 1) (cE .non))) (tB (op2 (isN false) (vE 2) (cE .non)))) (retF ((ifE ((tB (op2 (isN false) (vE 1) (cE .non)))) (vE 2) (vE 1)))) nopF) (seqF (iffF (tB (op2 (eqD false) (vE 2) ((calE m_opposite_of [vE 0, vE 1])))) (retF (cE .non)) nopF) (seqF (asgF (vE 0) (tupG 5 (consG (setG 3) (consG (setG 4) (consG (setG 5) (consG (setG 6) (consG (setG 7) nilG))))))) (seqF (asgF ((calE m_slope_of [vE 0, vE 1, vE 2])) (setG 8)) (seqF (asgF ((calE m_together_of [(lstE [(calE m_product [vE 8, (calE m_sum_of_two [vE 8, vE 3])]), (calE m_turned [vE 4]), (calE m_turned [(op2 ixD (vE 1) (cE (.int 0)))]), (calE m_turned [(op2 ixD (vE 2) (cE (.int 0)))])])])) (setG 9)) (seqF (asgF ((calE m_sum_of_two [(op2 ixD (vE 1) (cE (.int 1))), (calE m_product [vE 8, (calE m_sum_of_two [vE 9, (calE m_turned [(op2 ixD (vE 1) (cE (.int 0)))])])])])) (setG 10)) (retF ((calE m_opposite_of [vE 0, (tupE [vE 9, vE 10])])))))))))
noncomputable def m_sum_on : List D → M D := defM 3 11 B_sum_on
noncomputable def B_multiple_on : SF := (seqF (par3F 3 4 5 [cE .non, (ifE ((tB (op2 (geD) (vE 1) (cE (.int 0))))) (vE 2) ((calE m_opposite_of [vE 0, vE 2]))), (calE absD [vE 1])]) (seqF (whF (tB (op2 (gtD) (vE 5) (cE (.int 0)))) (seqF (iffF (tB (op2 (eqD false) ((op2 (modD) (vE 5) (cE (.int 2)))) (cE (.int 1)))) (asgF ((calE m_sum_on [vE 0, vE 3, vE 4])) (setG 3)) nopF) (seqF (augF 5 (divD) (cE (.int 2))) (asgF ((ifE ((tB (op2 (gtD) (vE 5) (cE (.int 0))))) ((calE m_sum_on [vE 0, vE 4, vE 4])) (vE 4))) (setG 4))))) (retF (vE 3))))
noncomputable def m_multiple_on : List D → M D := defM 3 6 B_multiple_on
noncomputable def B_is_point : SF := (seqF (expF ((calE m_need_curve [vE 0]))) (retF ((calE m_is_on [vE 0, vE 1]))))
noncomputable def m_is_point : List D → M D := defM 2 2 B_is_point
noncomputable def B_opposite : SF := (seqF (expF ((calE m_need_curve [vE 0]))) (seqF (expF ((calE m_need_point [vE 0, vE 1]))) (retF ((calE m_opposite_of [vE 0, vE 1])))))
noncomputable def m_opposite : List D → M D := defM 2 2 B_opposite
noncomputable def B_added : SF := (seqF (expF ((calE m_need_curve [vE 0]))) (seqF (expF ((calE m_need_point [vE 0, vE 1]))) (seqF (expF ((calE m_need_point [vE 0, vE 2]))) (retF ((calE m_sum_on [vE 0, vE 1, vE 2]))))))
noncomputable def m_added : List D → M D := defM 3 3 B_added
noncomputable def B_times_point : SF := (seqF (expF ((calE m_need_curve [vE 0]))) (seqF (iffF (orT (notT (tT ((calE m_is_number [vE 1])))) (notT (tB (chn (leD) (leD) ((op1 negD (cE c_MOST_TIMES))) (vE 1) (cE c_MOST_TIMES))))) noF nopF) (seqF (expF ((calE m_need_point [vE 0, vE 2]))) (retF ((calE m_multiple_on [vE 0, vE 1, vE 2]))))))
noncomputable def m_times_point : List D → M D := defM 3 3 B_times_point
noncomputable def B_Ldraw_of : SF := (seqF (asgF (cE (.int 1)) (setG 2)) (seqF (iffF (tB (op2 (gtD) ((calE lenD [vE 0])) (cE (.int 0)))) (asgF ((op2 ixD (vE 0) ((op2 (modD) (vE 1) ((calE lenD [vE 0])))))) (setG 2)) nopF) (seqF (asgF (cE (.int 0)) (setG 3)) (seqF (iffF (tB (op2 (geD) (vE 2) ((op2 (powD) (cE (.int 10)) (cE (.int 18)))))) (asgF ((op2 (divD) (vE 2) ((op2 (powD) (cE (.int 10)) (cE (.int 18)))))) (setG 3)) nopF) (retF ((lsoE [vE 2, (op2 (mulD true) (cE (.int 3)) (vE 1)), vE 3])))))))
noncomputable def m_Ldraw_of : List D → M D := defM 2 4 B_Ldraw_of
noncomputable def B_Lnext : SF := (seqF (iffF (tB (op2 (gtD) ((op2 ixD (vE 0) (cE (.int 2)))) (cE (.int 0)))) (seqF (asgF ((op2 (modD) ((op2 ixD (vE 0) (cE (.int 2)))) (vE 1))) (setG 2)) (seqF (lputF (vE 0) (cE (.int 2)) ((op2 (divD) ((op2 ixD (vE 0) (cE (.int 2)))) (vE 1)))) (retF (vE 2)))) nopF) (seqF (lputF (vE 0) (cE (.int 1)) ((op2 (addD true) ((op2 ixD (vE 0) (cE (.int 1)))) (cE (.int 1))))) (seqF (asgF ((lstE [cE (.int 2147483647), cE (.int 2147483629), cE (.int 2147483587), cE (.int 2147483579), cE (.int 2147483563), cE (.int 2147483549), cE (.int 2147483543), cE (.int 2147483497)])) (setG 3)) (seqF (asgF ((op2 ixD ((op2 (addD true) (vE 3) ((lstE [cE (.int 2147483489), cE (.int 2147483477), cE (.int 2147483423)])))) ((op2 (modD) ((op2 ixD (vE 0) (cE (.int 1)))) (cE (.int 11)))))) (setG 4)) (retF ((op2 (modD) ((op2 (divD) ((op2 (modD) ((op2 (powD) ((op2 (addD true) ((op2 (addD true) ((op2 (modD) ((op2 ixD (vE 0) (cE (.int 0)))) (vE 4))) ((op2 (mulD true) (cE (.int 7919)) ((op2 ixD (vE 0) (cE (.int 1)))))))) (cE (.int 1)))) (cE (.int 5)))) (vE 4))) (cE (.int 13)))) (vE 1))))))))
noncomputable def m_Lnext : List D → M D := defM 2 5 B_Lnext
noncomputable def B_Llowest : SF := (seqF (parF 2 3 [(calE absD [vE 0]), (calE absD [vE 1])]) (seqF (whF (tB (op2 (eqD true) (vE 3) (cE (.int 0)))) (parF 2 3 [vE 3, (op2 (modD) (vE 2) (vE 3))])) (seqF (asgF ((ifE ((tB (op2 (gtD) (vE 1) (cE (.int 0))))) (vE 2) ((op1 negD (vE 2))))) (setG 2)) (retF ((tupE [(op2 (divD) (vE 0) (vE 2)), (op2 (divD) (vE 1) (vE 2))]))))))
noncomputable def m_Llowest : List D → M D := defM 2 4 B_Llowest
noncomputable def B_Lsum : SF := (seqF (asgF ((tupE [cE (.int 0), cE (.int 1)])) (setG 1)) (seqF (forF (rowI (vE 0)) (tupG 2 (consG (setG 2) (consG (setG 3) nilG))) (asgF ((calE m_Llowest [(op2 (addD true) ((op2 (mulD true) ((op2 ixD (vE 1) (cE (.int 0)))) (vE 3))) ((op2 (mulD true) (vE 2) ((op2 ixD (vE 1) (cE (.int 1))))))), (op2 (mulD true) ((op2 ixD (vE 1) (cE (.int 1)))) (vE 3))])) (setG 1))) (retF (vE 1))))
noncomputable def m_Lsum : List D → M D := defM 1 4 B_Lsum
noncomputable def B_Lproduct : SF := (seqF (asgF ((tupE [cE (.int 1), cE (.int 1)])) (setG 1)) (seqF (forF (rowI (vE 0)) (tupG 2 (consG (setG 2) (consG (setG 3) nilG))) (asgF ((calE m_Llowest [(op2 (mulD true) ((op2 ixD (vE 1) (cE (.int 0)))) (vE 2)), (op2 (mulD true) ((op2 ixD (vE 1) (cE (.int 1)))) (vE 3))])) (setG 1))) (retF (vE 1))))
noncomputable def m_Lproduct : List D → M D := defM 1 4 B_Lproduct
noncomputable def B_Lminus : SF := (retF ((tupE [(op1 negD ((op2 ixD (vE 0) (cE (.int 0))))), (op2 ixD (vE 0) (cE (.int 1)))])))
noncomputable def m_Lminus : List D → M D := defM 1 1 B_Lminus
noncomputable def B_Lover : SF := (retF ((calE m_Llowest [(op2 (mulD true) ((op2 ixD (vE 0) (cE (.int 0)))) ((op2 ixD (vE 1) (cE (.int 1))))), (op2 (mulD true) ((op2 ixD (vE 0) (cE (.int 1)))) ((op2 ixD (vE 1) (cE (.int 0)))))])))
noncomputable def m_Lover : List D → M D := defM 2 2 B_Lover
noncomputable def B_Ltold : SF := (retF ((ifE ((tB (op2 (eqD false) ((op2 ixD (vE 0) (cE (.int 1)))) (cE (.int 1))))) ((op2 ixD (vE 0) (cE (.int 0)))) (vE 0))))
noncomputable def m_Ltold : List D → M D := defM 1 1 B_Ltold
noncomputable def B_Lsmall : SF := (seqF (asgF ((ifE ((tT (vE 2))) ((op2 ixD ((lstE [cE (.int 1), cE (.int 1), cE (.int 1), cE (.int 2), cE (.int 3)])) ((calE m_Lnext [vE 0, cE (.int 5)])))) (cE (.int 1)))) (setG 3)) (retF ((calE m_Llowest [(op2 (subD) ((calE m_Lnext [vE 0, (op2 (addD true) ((op2 (mulD true) (cE (.int 2)) (vE 1))) (cE (.int 1)))])) (vE 1)), vE 3]))))
noncomputable def m_Lsmall : List D → M D := defM 3 4 B_Lsmall
noncomputable def B_Lis_single : SF := (seqF (asgF (vE 0) (tupG 5 (consG (setG 1) (consG (setG 2) (consG (setG 3) (consG (setG 4) (consG (setG 5) nilG))))))) (seqF (asgF ((calE m_Lsum [(lstE [(calE m_Lproduct [(lstE [vE 1, vE 1])]), (calE m_Lproduct [(lstE [(tupE [cE (.int 4), cE (.int 1)]), vE 2])])])])) (setG 6)) (seqF (asgF ((calE m_Lsum [(lstE [(calE m_Lproduct [(lstE [(tupE [cE (.int 2), cE (.int 1)]), vE 4])]), (calE m_Lproduct [(lstE [vE 1, vE 3])])])])) (setG 7)) (seqF (asgF ((calE m_Lsum [(lstE [(calE m_Lproduct [(lstE [vE 3, vE 3])]), (calE m_Lproduct [(lstE [(tupE [cE (.int 4), cE (.int 1)]), vE 5])])])])) (setG 8)) (seqF (asgF ((calE m_Lover [(calE m_Lsum [(lstE [(calE m_Lproduct [(lstE [vE 6, vE 8])]), (calE m_Lminus [(calE m_Lproduct [(lstE [vE 7, vE 7])])])])]), (tupE [cE (.int 4), cE (.int 1)])])) (setG 9)) (seqF (asgF ((lstE [(calE m_Lproduct [(lstE [(tupE [cE (.int 9), cE (.int 1)]), vE 6, vE 7, vE 8])]), (calE m_Lminus [(calE m_Lproduct [(lstE [vE 6, vE 6, vE 9])])])])) (setG 10)) (seqF (asgF ((op2 (addD true) (vE 10) ((lstE [(calE m_Lproduct [(lstE [(tupE [(op1 negD (cE (.int 8))), cE (.int 1)]), vE 7, vE 7, vE 7])]), (calE m_Lproduct [(lstE [(tupE [(op1 negD (cE (.int 27))), cE (.int 1)]), vE 8, vE 8])])])))) (setG 10)) (retF ((op2 (eqD true) ((calE m_Lsum [vE 10])) ((tupE [cE (.int 0), cE (.int 1)]))))))))))))
noncomputable def m_Lis_single : List D → M D := defM 1 11 B_Lis_single
noncomputable def B_Lbetween : SF := (retF ((calE m_Lover [(calE m_Lsum [(lstE [(op2 ixD (vE 1) (cE (.int 1))), (calE m_Lminus [(op2 ixD (vE 0) (cE (.int 1)))])])]), (calE m_Lsum [(lstE [(op2 ixD (vE 1) (cE (.int 0))), (calE m_Lminus [(op2 ixD (vE 0) (cE (.int 0)))])])])])))
noncomputable def m_Lbetween : List D → M D := defM 2 2 B_Lbetween
noncomputable def B_Lthrough : SF := (seqF (asgF ((lsoE [])) (setG 3)) (seqF (forF (rowI (vE 2)) (tupG 2 (consG (setG 4) (consG (setG 5) nilG))) (seqF (asgF ((lstE [(calE m_Lproduct [(lstE [vE 5, vE 5])]), (calE m_Lproduct [(lstE [vE 0, vE 4, vE 5])]), (calE m_Lproduct [(lstE [vE 1, vE 5])])])) (setG 6)) (expF ((metE appD (vE 3) [(tupE [vE 4, (calE m_Lsum [(op2 (addD true) (vE 6) ((lstE [(calE m_Lminus [(calE m_Lproduct [(lstE [vE 4, vE 4, vE 4])])])])))])])]))))) (seqF (parF 7 8 [(calE m_Lbetween [(op2 ixD (vE 3) (cE (.int 0))), (op2 ixD (vE 3) (cE (.int 1)))]), (calE m_Lbetween [(op2 ixD (vE 3) (cE (.int 1))), (op2 ixD (vE 3) (cE (.int 2)))])]) (seqF (tasF [(op2 ixD (vE 3) (cE (.int 0))), (op2 ixD ((op2 ixD (vE 3) (cE (.int 1)))) (cE (.int 0)))] (consT (tupG 2 (consG (setG 4) (consG (setG 9) nilG))) (consT (setG 10) nilT))) (seqF (asgF ((calE m_Lbetween [(tupE [vE 4, vE 7]), (tupE [(op2 ixD ((op2 ixD (vE 3) (cE (.int 2)))) (cE (.int 0))), vE 8])])) (setG 11)) (seqF (asgF ((calE m_Lsum [(lstE [vE 7, (calE m_Lminus [(calE m_Lproduct [(lstE [vE 11, (calE m_Lsum [(lstE [vE 4, vE 10])])])])])])])) (setG 12)) (seqF (asgF ((calE m_Lsum [(lstE [vE 9, (calE m_Lminus [(calE m_Lproduct [(lstE [vE 11, vE 4, vE 4])])]), (calE m_Lminus [(calE m_Lproduct [(lstE [vE 12, vE 4])])])])])) (setG 13)) (retF ((tupE [vE 0, vE 11, vE 1, vE 12, vE 13]))))))))))
noncomputable def m_Lthrough : List D → M D := defM 3 14 B_Lthrough
noncomputable def B_Lsome : SF := (seqF (parF 1 2 [(op2 (eqD false) ((calE m_Lnext [vE 0, cE (.int 4)])) (cE (.int 0))), (lsoE [])]) (seqF (whF (tB (op2 (ltD) ((calE lenD [vE 2])) (cE (.int 3)))) (seqF (asgF ((calE m_Lsmall [vE 0, (op2 (addD true) (cE (.int 5)) ((calE lenD [vE 2]))), vE 1])) (setG 3)) (seqF (asgF ((ifE ((tB (op2 (inD true) (vE 3) ((lcE true (rowI (vE 2)) [4] (setG 4) yesT ((op2 ixD (vE 4) (cE (.int 0))))))))) (vE 3) ((tupE [(op2 (addD true) (cE (.int 9)) ((op2 (mulD true) (cE (.int 3)) ((calE lenD [vE 2]))))), cE (.int 1)])))) (setG 3)) (expF ((metE appD (vE 2) [(tupE [vE 3, (calE m_Lsmall [vE 0, cE (.int 7), vE 1])])])))))) (seqF (parF 5 6 [(calE m_Lsmall [vE 0, cE (.int 2), cE (.bl false)]), (calE m_Lsmall [vE 0, cE (.int 2), cE (.bl false)])]) (seqF (forF (r1I [cE (.int 40)]) (setG 7) (seqF (asgF ((calE m_Lthrough [vE 5, (calE m_Lsum [(lstE [vE 6, (tupE [vE 7, cE (.int 1)])])]), vE 2])) (setG 8)) (iffF (tT ((calE m_Lis_single [vE 8]))) (retF ((lstE [vE 8, (frzE (vE 2))]))) nopF))) (seqF (tasF [(tupE [(op1 negD (cE (.int 1))), cE (.int 1)]), (tupE [cE (.int 0), cE (.int 1)])] (consT (setG 9) (consT (setG 10) nilT))) (retF ((lstE [(tupE [vE 10, vE 10, (tupE [cE (.int 1), cE (.int 1)]), vE 9, vE 10]), (lstE [(tupE [vE 10, vE 10]), (tupE [(tupE [cE (.int 1), cE (.int 1)]), vE 10]), (tupE [vE 9, vE 10])])]))))))))
noncomputable def m_Lsome : List D → M D := defM 1 11 B_Lsome
noncomputable def B_Lcurve : SF := (retF ((calE tupD [(lcE true (rowI (vE 0)) [1] (setG 1) yesT ((calE m_Ltold [vE 1])))])))
noncomputable def m_Lcurve : List D → M D := defM 1 2 B_Lcurve
noncomputable def B_Lpoint : SF := (retF ((ifE ((tB (op2 (isN false) (vE 0) (cE .non)))) (cE .non) ((tupE [(calE m_Ltold [(op2 ixD (vE 0) (cE (.int 0)))]), (calE m_Ltold [(op2 ixD (vE 0) (cE (.int 1)))])])))))
noncomputable def m_Lpoint : List D → M D := defM 1 1 B_Lpoint
noncomputable def B_Lopposite : SF := (seqF (iffF (tB (op2 (isN false) (vE 1) (cE .non))) (retF (cE .non)) nopF) (retF ((tupE [(op2 ixD (vE 1) (cE (.int 0))), (calE m_Lminus [(calE m_Lsum [(lstE [(op2 ixD (vE 1) (cE (.int 1))), (calE m_Lproduct [(lstE [(op2 ixD (vE 0) (cE (.int 0))), (op2 ixD (vE 1) (cE (.int 0)))])]), (op2 ixD (vE 0) (cE (.int 2)))])])])]))))
noncomputable def m_Lopposite : List D → M D := defM 2 2 B_Lopposite
noncomputable def B_Ladded : SF := (seqF (iffF (orT (tB (op2 (isN false) (vE 1) (cE .non))) (tB (op2 (isN false) (vE 2) (cE .non)))) (retF ((ifE ((tB (op2 (isN false) (vE 1) (cE .non)))) (vE 2) (vE 1)))) nopF) (seqF (iffF (tB (op2 (eqD false) ((calE m_Lopposite [vE 0, vE 1])) (vE 2))) (retF (cE .non)) nopF) (seqF (tasF [vE 1, vE 0] (consT (tupG 2 (consG (setG 3) (consG (setG 4) nilG))) (consT (tupG 5 (consG (setG 5) (consG (setG 6) (consG (setG 7) (consG (setG 8) (consG (setG 9) nilG)))))) nilT))) (seqF (iffF (tB (op2 (eqD true) (vE 3) ((op2 ixD (vE 2) (cE (.int 0)))))) (asgF ((calE m_Lbetween [vE 1, vE 2])) (setG 10)) (seqF (asgF ((lstE [(calE m_Lproduct [(lstE [(tupE [cE (.int 3), cE (.int 1)]), vE 3, vE 3])]), (calE m_Lproduct [(lstE [(tupE [cE (.int 2), cE (.int 1)]), vE 6, vE 3])]), vE 8, (calE m_Lminus [(calE m_Lproduct [(lstE [vE 5, vE 4])])])])) (setG 11)) (asgF ((calE m_Lover [(calE m_Lsum [vE 11]), (calE m_Lsum [(lstE [vE 4, vE 4, (calE m_Lproduct [(lstE [vE 5, vE 3])]), vE 7])])])) (setG 10)))) (seqF (asgF ((lstE [(calE m_Lproduct [(lstE [vE 10, vE 10])]), (calE m_Lproduct [(lstE [vE 5, vE 10])]), (calE m_Lminus [vE 6]), (calE m_Lminus [vE 3])])) (setG 12)) (seqF (asgF ((calE m_Lsum [(op2 (addD true) (vE 12) ((lstE [(calE m_Lminus [(op2 ixD (vE 2) (cE (.int 0)))])])))])) (setG 13)) (seqF (asgF ((calE m_Lsum [(lstE [vE 4, (calE m_Lproduct [(lstE [vE 10, (calE m_Lsum [(lstE [vE 13, (calE m_Lminus [vE 3])])])])])])])) (setG 14)) (retF ((calE m_Lopposite [vE 0, (tupE [vE 13, vE 14])]))))))))))
noncomputable def m_Ladded : List D → M D := defM 3 15 B_Ladded
noncomputable def B_Lfinite : SF := (seqF (parF 1 2 [(op2 (addD true) (cE (.int 1)) ((calE m_Lnext [vE 0, cE (.int 9)]))), (op2 (addD true) (cE (.int 1)) ((calE m_Lnext [vE 0, cE (.int 9)])))]) (seqF (parF 3 4 [(calE m_Lnext [vE 0, cE (.int 6)]), (op2 ixD ((lstE [cE (.int 1), (op1 negD (cE (.int 1)))])) ((calE m_Lnext [vE 0, cE (.int 2)])))]) (seqF (iffF (tB (op2 (eqD false) (vE 3) (cE (.int 0)))) (retF ((lstE [(tupE [(tupE [cE (.int 0), cE (.int 1)]), (tupE [vE 1, cE (.int 1)]), (tupE [cE (.int 0), cE (.int 1)]), (tupE [(op2 (mulD true) (vE 2) (vE 4)), cE (.int 1)]), (tupE [cE (.int 0), cE (.int 1)])]), (tupE [(tupE [cE (.int 0), cE (.int 1)]), (tupE [cE (.int 0), cE (.int 1)])]), cE (.int 2)]))) nopF) (seqF (iffF (tB (op2 (eqD false) (vE 3) (cE (.int 1)))) (retF ((lstE [(tupE [(tupE [vE 1, cE (.int 1)]), (tupE [cE (.int 0), cE (.int 1)]), (tupE [(op2 (mulD true) (vE 2) (vE 4)), cE (.int 1)]), (tupE [cE (.int 0), cE (.int 1)]), (tupE [cE (.int 0), cE (.int 1)])]), (tupE [(tupE [cE (.int 0), cE (.int 1)]), (tupE [cE (.int 0), cE (.int 1)])]), cE (.int 3)]))) nopF) (seqF (asgF ((calE m_Llowest [(op2 (mulD true) (vE 1) (vE 4)), vE 2])) (setG 5)) (seqF (asgF ((op2 ixD ((lstE [(tupE [(tupE [cE (.int 0), cE (.int 1)]), vE 5]), (tupE [vE 5, vE 5]), (tupE [vE 5, (calE m_Lsum [(lstE [vE 5, (calE m_Lproduct [(lstE [vE 5, vE 5])])])])])])) ((op2 ixD ((lstE [cE (.int 0), cE (.int 0), cE (.int 0), cE (.int 1), cE (.int 2), cE (.int 2)])) (vE 3))))) (tupG 2 (consG (setG 6) (consG (setG 7) nilG)))) (seqF (asgF ((calE m_Lminus [vE 7])) (setG 8)) (retF ((lstE [(tupE [(calE m_Lsum [(lstE [(tupE [cE (.int 1), cE (.int 1)]), (calE m_Lminus [vE 6])])]), vE 8, vE 8, (tupE [cE (.int 0), cE (.int 1)]), (tupE [cE (.int 0), cE (.int 1)])]), (tupE [(tupE [cE (.int 0), cE (.int 1)]), (tupE [cE (.int 0), cE (.int 1)])]), (op2 ixD ((lstE [cE (.int 4), cE (.int 4), cE (.int 4), cE (.int 5), cE (.int 6), cE (.int 6)])) (vE 3))]))))))))))
noncomputable def m_Lfinite : List D → M D := defM 1 9 B_Lfinite
noncomputable def B_Lround_right : SF := (seqF (asgF ((calE m_Lfinite [vE 0])) (tupG 3 (consG (setG 1) (consG (setG 2) (consG (setG 3) nilG))))) (seqF (iffF (notT (tT ((calE m_Lis_single [vE 1])))) (retF (cE (.bl true))) nopF) (seqF (par3F 4 5 6 [(calE m_Lcurve [vE 1]), (calE m_Lpoint [vE 2]), (lsoE [cE .non])]) (seqF (forF (r1I [(op2 (subD) (vE 3) (cE (.int 1)))]) (setG 7) (expF ((metE appD (vE 6) [(calE m_Ladded [vE 1, (op2 ixD (vE 6) ((op1 negD (cE (.int 1))))), vE 2])])))) (seqF (iffF (orT (tB (op2 (inD false) (cE .non) ((slcE true (vE 6) (some (cE (.int 1))) none)))) (tB (op2 (isN true) ((calE m_Ladded [vE 1, (op2 ixD (vE 6) ((op1 negD (cE (.int 1))))), vE 2])) (cE .non)))) (retF (cE (.bl true))) nopF) (seqF (forF (lstI ((lstE [cE (.int 60), (op1 negD (cE (.int 60))), vE 3, (op2 (subD) ((calE m_Lnext [vE 0, cE (.int 121)])) (cE (.int 60))), (op2 (subD) ((calE m_Lnext [vE 0, cE (.int 121)])) (cE (.int 60)))]))) (setG 8) (iffF (tB (op2 (eqD true) ((calE shwD [(calE m_times_point [vE 4, vE 8, vE 5])])) ((calE shwD [(calE m_Lpoint [(op2 ixD (vE 6) ((op2 (modD) (vE 8) (vE 3))))])])))) (retF (cE (.bl false))) nopF)) (retF ((calE m_is_point [vE 4, vE 5])))))))))
noncomputable def m_Lround_right : List D → M D := defM 1 9 B_Lround_right
noncomputable def LB0 : SF := (expF ((metE appD (vE 7) [(calE m_Ladded [vE 3, (op2 ixD (vE 7) ((op1 negD (cE (.int 1))))), (op2 ixD (vE 4) (cE (.int 0)))])])))
noncomputable def B_law : SF := (seqF (asgF (cutR 3 (lcDE true true (dI (r1I [(calE maxD [cE (.int 1), (calE lenD [vE 0])])])) [2] (setG 2) yesT ((calE m_Ldraw_of [vE 0, vE 2])))) (setG 1)) (seqF (asgF ((calE m_Lsome [(op2 rixD (vE 1) (cE (.int 0)))])) (tupG 2 (consG (setG 3) (consG (setG 4) nilG)))) (seqF (tasF [(calE m_Lcurve [vE 3]), (calE m_Lpoint [(op2 ixD (vE 4) (cE (.int 0)))])] (consT (setG 5) (consT (setG 6) nilT))) (seqF (asgF ((lsoE [cE .non])) (setG 7)) (seqF (forF (r1I [cE (.int 5)]) (setG 2) LB0) (seqF (asgF (lcE true (r1I [cE (.int 6)]) [2] (setG 2) yesT ((calE m_times_point [vE 5, vE 2, vE 6]))) (setG 8)) (seqF (iffF (tB (op2 (eqD true) ((calE shwD [vE 8])) ((calE shwD [(lcE true (rowI (vE 7)) [9] (setG 9) yesT ((calE m_Lpoint [vE 9])))])))) (retF (cE (.bl false))) nopF) (seqF (asgF (lcE true (r1I [cE (.int 5)]) [2] (setG 2) yesT ((calE m_times_point [vE 5, (op1 negD (vE 2)), vE 6]))) (setG 8)) (seqF (iffF (tB (op2 (eqD true) ((calE shwD [vE 8])) ((calE shwD [(lcE true (rowI ((slcE true (vE 7) none (some (cE (.int 5)))))) [9] (setG 9) yesT ((calE m_Lpoint [(calE m_Lopposite [vE 3, vE 9])])))])))) (retF (cE (.bl false))) nopF) (seqF (parF 10 11 [(calE m_Lnext [(op2 rixD (vE 1) (cE (.int 0))), cE (.int 4)]), (op2 (subD) ((calE m_Lnext [(op2 rixD (vE 1) (cE (.int 0))), cE (.int 7)])) (cE (.int 3)))]) (seqF (asgF ((calE m_added [vE 5, (calE m_times_point [vE 5, vE 10, vE 6]), (calE m_times_point [vE 5, vE 11, vE 6])])) (setG 12)) (seqF (iffF (tB (op2 (eqD true) ((calE shwD [vE 12])) ((calE shwD [(calE m_times_point [vE 5, (op2 (addD true) (vE 10) (vE 11)), vE 6])])))) (retF (cE (.bl false))) nopF) (seqF (iffF (tB (op2 (eqD true) ((calE shwD [(calE m_times_point [vE 5, cE (.int 2), (calE m_times_point [vE 5, vE 11, vE 6])])])) ((calE shwD [(calE m_times_point [vE 5, (op2 (mulD true) (cE (.int 2)) (vE 11)), vE 6])])))) (retF (cE (.bl false))) nopF) (seqF (iffF (tB (op2 (eqD false) ((calE m_Lnext [(op2 rixD (vE 1) (cE (.int 0))), cE (.int 3)])) (cE (.int 0)))) (seqF (tasF [(tupE [cE (.int 0), cE (.int 0), cE (.int 1), (op1 negD (cE (.int 1))), cE (.int 0)]), (tupE [cE (.int 0), cE (.int 0)]), (op2 (addD true) (cE (.int 1)) ((calE m_Lnext [(op2 rixD (vE 1) (cE (.int 0))), cE (.int 59)])))] (consT (setG 5) (consT (setG 6) (consT (setG 13) nilT)))) (seqF (asgF ((calE m_times_point [vE 5, cE (.int 60), vE 6])) (setG 14)) (seqF (asgF ((lstE [(calE m_times_point [vE 5, vE 13, vE 6]), (calE m_times_point [vE 5, (op2 (subD) (cE (.int 60)) (vE 13)), vE 6])])) (setG 12)) (iffF (orT (tB (op2 (isN false) (vE 14) (cE .non))) (orT (tB (op2 (eqD true) (vE 14) ((calE m_added [vE 5, (op2 ixD (vE 12) (cE (.int 0))), (op2 ixD (vE 12) (cE (.int 1)))])))) (tB (op2 (eqD true) ((calE m_times_point [vE 5, (op1 negD (cE (.int 60))), vE 6])) ((calE m_opposite [vE 5, vE 14])))))) (retF (cE (.bl false))) nopF)))) nopF) (retF ((op2 (eqD false) ((lcDE false true (rowdI (vE 1)) [15] (setG 15) (notT (tT ((calE m_Lround_right [vE 15])))) (cE (.int 1)))) ((lstE [])))))))))))))))))))
noncomputable def m_law : List D → M D := defM 1 16 B_law
set_option genInjectivity false in
set_option genSizeOf false in
structure Txt (K : PySem.W.Frag) (mg : Str → Option Value) where
  f_is_number : Addr
  d_is_number : FuncData
  F_is_number : Fun K "is_number" "is_number" st_is_number f_is_number d_is_number
  b_is_number : Binds K d_is_number ["thing"] []
  f_common : Addr
  d_common : FuncData
  F_common : Fun K "common" "common" st_common f_common d_common
  b_common : Binds K d_common ["one", "other"] []
  f_is_fraction : Addr
  d_is_fraction : FuncData
  F_is_fraction : Fun K "is_fraction" "is_fraction" st_is_fraction f_is_fraction d_is_fraction
  b_is_fraction : Binds K d_is_fraction ["thing"] []
  f_pair_of : Addr
  d_pair_of : FuncData
  F_pair_of : Fun K "pair_of" "pair_of" st_pair_of f_pair_of d_pair_of
  b_pair_of : Binds K d_pair_of ["a"] []
  f_lowest : Addr
  d_lowest : FuncData
  F_lowest : Fun K "lowest" "lowest" st_lowest f_lowest d_lowest
  b_lowest : Binds K d_lowest ["top", "bottom"] []
  f_sum_of_two : Addr
  d_sum_of_two : FuncData
  F_sum_of_two : Fun K "sum_of_two" "sum_of_two" st_sum_of_two f_sum_of_two d_sum_of_two
  b_sum_of_two : Binds K d_sum_of_two ["a", "b"] []
  f_product : Addr
  d_product : FuncData
  F_product : Fun K "product" "product" st_product f_product d_product
  b_product : Binds K d_product ["a", "b"] []
  f_turned : Addr
  d_turned : FuncData
  F_turned : Fun K "turned" "turned" st_turned f_turned d_turned
  b_turned : Binds K d_turned ["a"] []
  f_quotient : Addr
  d_quotient : FuncData
  F_quotient : Fun K "quotient" "quotient" st_quotient f_quotient d_quotient
  b_quotient : Binds K d_quotient ["a", "b"] []
  f_summed : Addr
  d_summed : FuncData
  F_summed : Fun K "summed" "summed" st_summed f_summed d_summed
  b_summed : Binds K d_summed ["rows"] []
  f_halves_of : Addr
  d_halves_of : FuncData
  F_halves_of : Fun K "halves_of" "halves_of" st_halves_of f_halves_of d_halves_of
  b_halves_of : Binds K d_halves_of ["five"] []
  f_d_of : Addr
  d_d_of : FuncData
  F_d_of : Fun K "d_of" "d_of" st_d_of f_d_of d_d_of
  b_d_of : Binds K d_d_of ["five"] []
  f_is_curve : Addr
  d_is_curve : FuncData
  F_is_curve : Fun K "is_curve" "is_curve" st_is_curve f_is_curve d_is_curve
  b_is_curve : Binds K d_is_curve ["thing"] []
  f_need_curve : Addr
  d_need_curve : FuncData
  F_need_curve : Fun K "need_curve" "need_curve" st_need_curve f_need_curve d_need_curve
  b_need_curve : Binds K d_need_curve ["curve"] []
  f_together_of : Addr
  d_together_of : FuncData
  F_together_of : Fun K "together_of" "together_of" st_together_of f_together_of d_together_of
  b_together_of : Binds K d_together_of ["things"] []
  f_is_on : Addr
  d_is_on : FuncData
  F_is_on : Fun K "is_on" "is_on" st_is_on f_is_on d_is_on
  b_is_on : Binds K d_is_on ["curve", "thing"] []
  f_need_point : Addr
  d_need_point : FuncData
  F_need_point : Fun K "need_point" "need_point" st_need_point f_need_point d_need_point
  b_need_point : Binds K d_need_point ["curve", "thing"] []
  f_opposite_of : Addr
  d_opposite_of : FuncData
  F_opposite_of : Fun K "opposite_of" "opposite_of" st_opposite_of f_opposite_of d_opposite_of
  b_opposite_of : Binds K d_opposite_of ["curve", "point"] []
  f_slope_of : Addr
  d_slope_of : FuncData
  F_slope_of : Fun K "slope_of" "slope_of" st_slope_of f_slope_of d_slope_of
  b_slope_of : Binds K d_slope_of ["curve", "one", "other"] []
  f_sum_on : Addr
  d_sum_on : FuncData
  F_sum_on : Fun K "sum_on" "sum_on" st_sum_on f_sum_on d_sum_on
  b_sum_on : Binds K d_sum_on ["curve", "one", "other"] []
  f_multiple_on : Addr
  d_multiple_on : FuncData
  F_multiple_on : Fun K "multiple_on" "multiple_on" st_multiple_on f_multiple_on d_multiple_on
  b_multiple_on : Binds K d_multiple_on ["curve", "count", "point"] []
  f_is_point : Addr
  d_is_point : FuncData
  F_is_point : Fun K "is_point" "is_point" st_is_point f_is_point d_is_point
  b_is_point : Binds K d_is_point ["curve", "thing"] []
  f_opposite : Addr
  d_opposite : FuncData
  F_opposite : Fun K "opposite" "opposite" st_opposite f_opposite d_opposite
  b_opposite : Binds K d_opposite ["curve", "point"] []
  f_added : Addr
  d_added : FuncData
  F_added : Fun K "added" "added" st_added f_added d_added
  b_added : Binds K d_added ["curve", "one", "other"] []
  f_times_point : Addr
  d_times_point : FuncData
  F_times_point : Fun K "times_point" "times_point" st_times_point f_times_point d_times_point
  b_times_point : Binds K d_times_point ["curve", "count", "point"] []
  f_Ldraw_of : Addr
  d_Ldraw_of : FuncData
  F_Ldraw_of : Fun K "_law_draw_of" "_law_draw_of" st_Ldraw_of f_Ldraw_of d_Ldraw_of
  b_Ldraw_of : Binds K d_Ldraw_of ["_law_script", "_law_k"] []
  f_Lnext : Addr
  d_Lnext : FuncData
  F_Lnext : Fun K "_law_next" "_law_next" st_Lnext f_Lnext d_Lnext
  b_Lnext : Binds K d_Lnext ["_law_draw", "_law_many"] []
  f_Llowest : Addr
  d_Llowest : FuncData
  F_Llowest : Fun K "_law_lowest" "_law_lowest" st_Llowest f_Llowest d_Llowest
  b_Llowest : Binds K d_Llowest ["_law_top", "_law_bottom"] []
  f_Lsum : Addr
  d_Lsum : FuncData
  F_Lsum : Fun K "_law_sum" "_law_sum" st_Lsum f_Lsum d_Lsum
  b_Lsum : Binds K d_Lsum ["_law_pairs"] []
  f_Lproduct : Addr
  d_Lproduct : FuncData
  F_Lproduct : Fun K "_law_product" "_law_product" st_Lproduct f_Lproduct d_Lproduct
  b_Lproduct : Binds K d_Lproduct ["_law_pairs"] []
  f_Lminus : Addr
  d_Lminus : FuncData
  F_Lminus : Fun K "_law_minus" "_law_minus" st_Lminus f_Lminus d_Lminus
  b_Lminus : Binds K d_Lminus ["_law_a"] []
  f_Lover : Addr
  d_Lover : FuncData
  F_Lover : Fun K "_law_over" "_law_over" st_Lover f_Lover d_Lover
  b_Lover : Binds K d_Lover ["_law_a", "_law_b"] []
  f_Ltold : Addr
  d_Ltold : FuncData
  F_Ltold : Fun K "_law_told" "_law_told" st_Ltold f_Ltold d_Ltold
  b_Ltold : Binds K d_Ltold ["_law_a"] []
  f_Lsmall : Addr
  d_Lsmall : FuncData
  F_Lsmall : Fun K "_law_small" "_law_small" st_Lsmall f_Lsmall d_Lsmall
  b_Lsmall : Binds K d_Lsmall ["_law_draw", "_law_top", "_law_bottoms"] []
  f_Lis_single : Addr
  d_Lis_single : FuncData
  F_Lis_single : Fun K "_law_is_single" "_law_is_single" st_Lis_single f_Lis_single d_Lis_single
  b_Lis_single : Binds K d_Lis_single ["_law_five"] []
  f_Lbetween : Addr
  d_Lbetween : FuncData
  F_Lbetween : Fun K "_law_between" "_law_between" st_Lbetween f_Lbetween d_Lbetween
  b_Lbetween : Binds K d_Lbetween ["_law_one", "_law_other"] []
  f_Lthrough : Addr
  d_Lthrough : FuncData
  F_Lthrough : Fun K "_law_through" "_law_through" st_Lthrough f_Lthrough d_Lthrough
  b_Lthrough : Binds K d_Lthrough ["_law_a1", "_law_a3", "_law_points"] []
  f_Lsome : Addr
  d_Lsome : FuncData
  F_Lsome : Fun K "_law_some" "_law_some" st_Lsome f_Lsome d_Lsome
  b_Lsome : Binds K d_Lsome ["_law_draw"] []
  f_Lcurve : Addr
  d_Lcurve : FuncData
  F_Lcurve : Fun K "_law_curve" "_law_curve" st_Lcurve f_Lcurve d_Lcurve
  b_Lcurve : Binds K d_Lcurve ["_law_five"] []
  f_Lpoint : Addr
  d_Lpoint : FuncData
  F_Lpoint : Fun K "_law_point" "_law_point" st_Lpoint f_Lpoint d_Lpoint
  b_Lpoint : Binds K d_Lpoint ["_law_point_here"] []
  f_Lopposite : Addr
  d_Lopposite : FuncData
  F_Lopposite : Fun K "_law_opposite" "_law_opposite" st_Lopposite f_Lopposite d_Lopposite
  b_Lopposite : Binds K d_Lopposite ["_law_five", "_law_point_here"] []
  f_Ladded : Addr
  d_Ladded : FuncData
  F_Ladded : Fun K "_law_added" "_law_added" st_Ladded f_Ladded d_Ladded
  b_Ladded : Binds K d_Ladded ["_law_five", "_law_one", "_law_other"] []
  f_Lfinite : Addr
  d_Lfinite : FuncData
  F_Lfinite : Fun K "_law_finite" "_law_finite" st_Lfinite f_Lfinite d_Lfinite
  b_Lfinite : Binds K d_Lfinite ["_law_draw"] []
  f_Lround_right : Addr
  d_Lround_right : FuncData
  F_Lround_right : Fun K "_law_round_right" "_law_round_right" st_Lround_right f_Lround_right d_Lround_right
  b_Lround_right : Binds K d_Lround_right ["_law_draw"] []
  f_law : Addr
  d_law : FuncData
  F_law : Fun K "law" "law" st_law f_law d_law
  b_law : Binds K d_law ["_law_script"] []
  g_is_number : mg "is_number" = some (.ref f_is_number)
  g_common : mg "common" = some (.ref f_common)
  g_pair_of : mg "pair_of" = some (.ref f_pair_of)
  g_lowest : mg "lowest" = some (.ref f_lowest)
  g_product : mg "product" = some (.ref f_product)
  g_sum_of_two : mg "sum_of_two" = some (.ref f_sum_of_two)
  g_summed : mg "summed" = some (.ref f_summed)
  g_halves_of : mg "halves_of" = some (.ref f_halves_of)
  g_is_fraction : mg "is_fraction" = some (.ref f_is_fraction)
  g_d_of : mg "d_of" = some (.ref f_d_of)
  g_is_curve : mg "is_curve" = some (.ref f_is_curve)
  g_together_of : mg "together_of" = some (.ref f_together_of)
  g_is_on : mg "is_on" = some (.ref f_is_on)
  g_turned : mg "turned" = some (.ref f_turned)
  g_quotient : mg "quotient" = some (.ref f_quotient)
  g_opposite_of : mg "opposite_of" = some (.ref f_opposite_of)
  g_slope_of : mg "slope_of" = some (.ref f_slope_of)
  g_sum_on : mg "sum_on" = some (.ref f_sum_on)
  g_need_curve : mg "need_curve" = some (.ref f_need_curve)
  g_need_point : mg "need_point" = some (.ref f_need_point)
  g_multiple_on : mg "multiple_on" = some (.ref f_multiple_on)
  g_Llowest : mg "_law_lowest" = some (.ref f_Llowest)
  g_Lnext : mg "_law_next" = some (.ref f_Lnext)
  g_Lproduct : mg "_law_product" = some (.ref f_Lproduct)
  g_Lsum : mg "_law_sum" = some (.ref f_Lsum)
  g_Lminus : mg "_law_minus" = some (.ref f_Lminus)
  g_Lover : mg "_law_over" = some (.ref f_Lover)
  g_Lbetween : mg "_law_between" = some (.ref f_Lbetween)
  g_Lsmall : mg "_law_small" = some (.ref f_Lsmall)
  g_Lthrough : mg "_law_through" = some (.ref f_Lthrough)
  g_Lis_single : mg "_law_is_single" = some (.ref f_Lis_single)
  g_Ltold : mg "_law_told" = some (.ref f_Ltold)
  g_Lopposite : mg "_law_opposite" = some (.ref f_Lopposite)
  g_Lfinite : mg "_law_finite" = some (.ref f_Lfinite)
  g_Lpoint : mg "_law_point" = some (.ref f_Lpoint)
  g_Lcurve : mg "_law_curve" = some (.ref f_Lcurve)
  g_Ladded : mg "_law_added" = some (.ref f_Ladded)
  g_times_point : mg "times_point" = some (.ref f_times_point)
  g_is_point : mg "is_point" = some (.ref f_is_point)
  g_Ldraw_of : mg "_law_draw_of" = some (.ref f_Ldraw_of)
  g_Lsome : mg "_law_some" = some (.ref f_Lsome)
  g_added : mg "added" = some (.ref f_added)
  g_opposite : mg "opposite" = some (.ref f_opposite)
  g_Lround_right : mg "_law_round_right" = some (.ref f_Lround_right)
  g_law : mg "law" = some (.ref f_law)
  n_int : mg "int" = none
  n_isinstance : mg "isinstance" = none
  n_bool : mg "bool" = none
  n_abs : mg "abs" = none
  n_tuple : mg "tuple" = none
  n_len : mg "len" = none
  n_all : mg "all" = none
  n_range : mg "range" = none
  n_repr : mg "repr" = none
  n_max : mg "max" = none
  e_MOST_TIMES : ∃ t, mg "MOST_TIMES" = some (Value.int 60 t)
  dig : Dig K
theorem bt_int : bootBuiltins "int" = some (.type "int") := by decide +kernel
theorem bt_isinstance : bootBuiltins "isinstance" = some (.builtin "isinstance") := by decide +kernel
theorem bt_bool : bootBuiltins "bool" = some (.type "bool") := by decide +kernel
theorem bt_abs : bootBuiltins "abs" = some (.builtin "abs") := by decide +kernel
theorem bt_tuple : bootBuiltins "tuple" = some (.type "tuple") := by decide +kernel
theorem bt_len : bootBuiltins "len" = some (.builtin "len") := by decide +kernel
theorem bt_all : bootBuiltins "all" = some (.builtin "all") := by decide +kernel
theorem bt_repr : bootBuiltins "repr" = some (.builtin "repr") := by decide +kernel
theorem bt_max : bootBuiltins "max" = some (.builtin "max") := by decide +kernel
set_option genInjectivity false in
set_option genSizeOf false in
structure TxtC (C : Cf) extends Txt C.K C.mg where
  hX : C.ex = fun _ => True
theorem TxtC.uses {C : Cf} {p : Prop} (T : TxtC C) (h : TxtC C → p) : p := h T
def TxtC.noq {C : Cf} (T : TxtC C) : TxtC C.noq := ⟨T.toTxt, T.hX⟩
section
variable {C : Cf}
theorem Txt.k_MOST_TIMES {sc : Scope} {N : List Str} {k : Nat} {pos : Pos} (T : Txt C.K C.mg) (hg : GlS sc "MOST_TIMES" := by rfl) : SE C sc N k (.Name "MOST_TIMES" pos) (cE c_MOST_TIMES) := by
  obtain ⟨t, h⟩ := T.e_MOST_TIMES
  exact s_glob h (v := .int _) ⟨t, rfl⟩ (fun F H => PV.int _) hg
theorem ok_is_number (T : TxtC C) : Fn C 1 T.f_is_number T.d_is_number ["thing"] (spM C 1 m_is_number) :=
  Fn.noq (fn_body (C := C.noq) (k := 0) (FunA.of T.F_is_number) sc_is_number (TxtC.uses T.noq fun T => show SB C.noq (defScope st_is_number) N_is_number 0 (defBody st_is_number) B_is_number from
    (b_one (x_ret ((s_and ((s_bf c_isi T.n_isinstance bt_isinstance (a_cons (s_v 0) (a_cons ((s_bty T.n_int bt_int)) (a_nil))))) (s_one ((s_not ((s_bf c_isi T.n_isinstance bt_isinstance (a_cons (s_v 0) (a_cons ((s_bty T.n_bool bt_bool)) (a_nil))))))))))))) T.hX (fun v q h => nomatch h))
theorem ok_common (T : TxtC C) : Fn C 1 T.f_common T.d_common ["one", "other"] (spM C 2 m_common) :=
  Fn.noq (fn_body (C := C.noq) (k := 0) (FunA.of T.F_common) sc_common (TxtC.uses T.noq fun T => show SB C.noq (defScope st_common) N_common 0 (defBody st_common) B_common from
    (b_cons (x_while (t_cmp (o_ne) (s_v 1) (s_int)) (b_one (x_par 0 1 (a_cons (s_v 1) (a_cons ((s_bin (o_mod) (s_v 0) (s_v 1))) (a_nil))) (hw := by intro env h; cases env; cases h; rfl)))) (b_one (x_ret ((s_bf c_abs T.n_abs bt_abs (a_cons (s_v 0) (a_nil)))))))) T.hX (fun v q h => nomatch h))
theorem ok_is_fraction (T : TxtC C) : Fn C 2 T.f_is_fraction T.d_is_fraction ["thing"] (spM C 1 m_is_fraction) :=
  Fn.noq (fn_body (C := C.noq) (k := 1) (FunA.of T.F_is_fraction) sc_is_fraction (TxtC.uses T.noq fun T => show SB C.noq (defScope st_is_fraction) N_is_fraction 1 (defBody st_is_fraction) B_is_fraction from
    (b_cons (x_if (t_not (t_val ((s_bf c_isi T.n_isinstance bt_isinstance (a_cons (s_v 0) (a_cons ((s_bty T.n_tuple bt_tuple)) (a_nil))))))) (b_one (x_ret ((s_call (ok_is_number T) (by decide) T.g_is_number T.F_is_number.kp T.b_is_number (a_cons (s_v 0) (a_nil)))))) b_nil) (b_cons (x_if (t_w (w_or ((t_cmp (o_ne) ((s_bf c_len T.n_len bt_len (a_cons (s_v 0) (a_nil)))) (s_int))) (w_or ((t_not (t_val ((s_call (ok_is_number T) (by decide) T.g_is_number T.F_is_number.kp T.b_is_number (a_cons ((s_ix (s_v 0) (s_int))) (a_nil))))))) (w_or1 ((t_not (t_val ((s_call (ok_is_number T) (by decide) T.g_is_number T.F_is_number.kp T.b_is_number (a_cons ((s_ix (s_v 0) (s_int))) (a_nil))))))))))) (b_one (x_ret (s_bl))) b_nil) (b_one (x_ret ((s_and ((s_cmp (o_gt) ((s_ix (s_v 0) (s_int))) (s_int))) (s_one ((s_cmp (o_eq) ((s_call (ok_common T) (by decide) T.g_common T.F_common.kp T.b_common (a_cons ((s_ix (s_v 0) (s_int))) (a_cons ((s_ix (s_v 0) (s_int))) (a_nil))))) (s_int))))))))))) T.hX (fun v q h => nomatch h))
theorem ok_pair_of (T : TxtC C) : Fn C 1 T.f_pair_of T.d_pair_of ["a"] (spM C 1 m_pair_of) :=
  Fn.noq (fn_body (C := C.noq) (k := 0) (FunA.of T.F_pair_of) sc_pair_of (TxtC.uses T.noq fun T => show SB C.noq (defScope st_pair_of) N_pair_of 0 (defBody st_pair_of) B_pair_of from
    (b_one (x_ret ((s_if ((t_val ((s_bf c_isi T.n_isinstance bt_isinstance (a_cons (s_v 0) (a_cons ((s_bty T.n_tuple bt_tuple)) (a_nil))))))) (s_v 0) ((s_tup (a_cons (s_v 0) (a_cons (s_int) (a_nil)))))))))) T.hX (fun v q h => nomatch h))
theorem ok_lowest (T : TxtC C) : Fn C 2 T.f_lowest T.d_lowest ["top", "bottom"] (spM C 2 m_lowest) :=
  Fn.noq (fn_body (C := C.noq) (k := 1) (FunA.of T.F_lowest) sc_lowest (TxtC.uses T.noq fun T => show SB C.noq (defScope st_lowest) N_lowest 1 (defBody st_lowest) B_lowest from
    (b_cons (x_asg ((s_if ((t_cmp (o_gt) (s_v 1) (s_int))) ((s_call (ok_common T) (by decide) T.g_common T.F_common.kp T.b_common (a_cons (s_v 0) (a_cons (s_v 1) (a_nil))))) ((s_neg ((s_call (ok_common T) (by decide) T.g_common T.F_common.kp T.b_common (a_cons (s_v 0) (a_cons (s_v 1) (a_nil))))))))) (g_name 2)) (b_one (x_ret ((s_if ((t_cmp (o_eq) ((s_bin (o_div) (s_v 1) (s_v 2))) (s_int))) ((s_bin (o_div) (s_v 0) (s_v 2))) ((s_tup (a_cons ((s_bin (o_div) (s_v 0) (s_v 2))) (a_cons ((s_bin (o_div) (s_v 1) (s_v 2))) (a_nil))))))))))) T.hX (fun v q h => nomatch h))
theorem ok_sum_of_two (T : TxtC C) : Fn C 3 T.f_sum_of_two T.d_sum_of_two ["a", "b"] (spM C 2 m_sum_of_two) :=
  Fn.noq (fn_body (C := C.noq) (k := 2) (FunA.of T.F_sum_of_two) sc_sum_of_two (TxtC.uses T.noq fun T => show SB C.noq (defScope st_sum_of_two) N_sum_of_two 2 (defBody st_sum_of_two) B_sum_of_two from
    (b_cons (x_tas (a_cons ((s_call (ok_pair_of T) (by decide) T.g_pair_of T.F_pair_of.kp T.b_pair_of (a_cons (s_v 0) (a_nil)))) (a_cons ((s_call (ok_pair_of T) (by decide) T.g_pair_of T.F_pair_of.kp T.b_pair_of (a_cons (s_v 1) (a_nil)))) (a_nil))) (gd_cons (g_tup (n := 2) (gs_cons (g_name 2) (gs_cons (g_name 3) gs_nil))) (gd_cons (g_tup (n := 2) (gs_cons (g_name 4) (gs_cons (g_name 5) gs_nil))) gd_nil))) (b_one (x_ret ((s_call (ok_lowest T) (by decide) T.g_lowest T.F_lowest.kp T.b_lowest (a_cons ((s_bin (o_add true) ((s_bin (o_mul true) (s_v 2) (s_v 5))) ((s_bin (o_mul true) (s_v 4) (s_v 3))))) (a_cons ((s_bin (o_mul true) (s_v 3) (s_v 5))) (a_nil))))))))) T.hX (fun v q h => nomatch h))
theorem ok_product (T : TxtC C) : Fn C 3 T.f_product T.d_product ["a", "b"] (spM C 2 m_product) :=
  Fn.noq (fn_body (C := C.noq) (k := 2) (FunA.of T.F_product) sc_product (TxtC.uses T.noq fun T => show SB C.noq (defScope st_product) N_product 2 (defBody st_product) B_product from
    (b_cons (x_tas (a_cons ((s_call (ok_pair_of T) (by decide) T.g_pair_of T.F_pair_of.kp T.b_pair_of (a_cons (s_v 0) (a_nil)))) (a_cons ((s_call (ok_pair_of T) (by decide) T.g_pair_of T.F_pair_of.kp T.b_pair_of (a_cons (s_v 1) (a_nil)))) (a_nil))) (gd_cons (g_tup (n := 2) (gs_cons (g_name 2) (gs_cons (g_name 3) gs_nil))) (gd_cons (g_tup (n := 2) (gs_cons (g_name 4) (gs_cons (g_name 5) gs_nil))) gd_nil))) (b_one (x_ret ((s_call (ok_lowest T) (by decide) T.g_lowest T.F_lowest.kp T.b_lowest (a_cons ((s_bin (o_mul true) (s_v 2) (s_v 4))) (a_cons ((s_bin (o_mul true) (s_v 3) (s_v 5))) (a_nil))))))))) T.hX (fun v q h => nomatch h))
theorem ok_turned (T : TxtC C) : Fn C 4 T.f_turned T.d_turned ["a"] (spM C 1 m_turned) :=
  Fn.noq (fn_body (C := C.noq) (k := 3) (FunA.of T.F_turned) sc_turned (TxtC.uses T.noq fun T => show SB C.noq (defScope st_turned) N_turned 3 (defBody st_turned) B_turned from
    (b_one (x_ret ((s_call (ok_product T) (by decide) T.g_product T.F_product.kp T.b_product (a_cons ((s_neg (s_int))) (a_cons (s_v 0) (a_nil)))))))) T.hX (fun v q h => nomatch h))
theorem ok_quotient (T : TxtC C) : Fn C 4 T.f_quotient T.d_quotient ["a", "b"] (spM C 2 m_quotient) :=
  Fn.noq (fn_body (C := C.noq) (k := 3) (FunA.of T.F_quotient) sc_quotient (TxtC.uses T.noq fun T => show SB C.noq (defScope st_quotient) N_quotient 3 (defBody st_quotient) B_quotient from
    (b_cons (x_asg ((s_call (ok_pair_of T) (by decide) T.g_pair_of T.F_pair_of.kp T.b_pair_of (a_cons (s_v 1) (a_nil)))) (g_tup (n := 2) (gs_cons (g_name 2) (gs_cons (g_name 3) gs_nil)))) (b_one (x_ret ((s_call (ok_product T) (by decide) T.g_product T.F_product.kp T.b_product (a_cons (s_v 0) (a_cons ((s_call (ok_lowest T) (by decide) T.g_lowest T.F_lowest.kp T.b_lowest (a_cons (s_v 3) (a_cons (s_v 2) (a_nil))))) (a_nil))))))))) T.hX (fun v q h => nomatch h))
theorem ok_summed (T : TxtC C) : Fn C 4 T.f_summed T.d_summed ["rows"] (spM C 1 m_summed) :=
  Fn.noq (fn_body (C := C.noq) (k := 3) (FunA.of T.F_summed) sc_summed (TxtC.uses T.noq fun T => show SB C.noq (defScope st_summed) N_summed 3 (defBody st_summed) B_summed from
    (b_cons (x_asg (s_int) (g_name 1)) (b_cons (x_for (i_row (s_v 0)) (g_name 2) (b_cons (x_asg (s_int) (g_name 3)) (b_cons (x_for (i_row (s_v 2)) (g_name 4) (b_one (x_asg ((s_call (ok_product T) (by decide) T.g_product T.F_product.kp T.b_product (a_cons (s_v 3) (a_cons (s_v 4) (a_nil))))) (g_name 3)))) (b_one (x_asg ((s_call (ok_sum_of_two T) (by decide) T.g_sum_of_two T.F_sum_of_two.kp T.b_sum_of_two (a_cons (s_v 1) (a_cons (s_v 3) (a_nil))))) (g_name 1)))))) (b_one (x_ret (s_v 1)))))) T.hX (fun v q h => nomatch h))
theorem ok_halves_of (T : TxtC C) : Fn C 5 T.f_halves_of T.d_halves_of ["five"] (spM C 1 m_halves_of) :=
  Fn.noq (fn_body (C := C.noq) (k := 4) (FunA.of T.F_halves_of) sc_halves_of (TxtC.uses T.noq fun T => show SB C.noq (defScope st_halves_of) N_halves_of 4 (defBody st_halves_of) B_halves_of from
    (b_cons (x_asg (s_v 0) (g_tup (n := 5) (gs_cons (g_name 1) (gs_cons (g_name 2) (gs_cons (g_name 3) (gs_cons (g_name 4) (gs_cons (g_name 5) gs_nil))))))) (b_cons (x_par 6 7 (a_cons ((s_call (ok_summed T) (by decide) T.g_summed T.F_summed.kp T.b_summed (a_cons ((s_lst (a_cons ((s_tup (a_cons (s_v 1) (a_cons (s_v 1) (a_nil))))) (a_cons ((s_tup (a_cons (s_int) (a_cons (s_v 2) (a_nil))))) (a_nil))))) (a_nil)))) (a_cons ((s_call (ok_summed T) (by decide) T.g_summed T.F_summed.kp T.b_summed (a_cons ((s_lst (a_cons ((s_tup (a_cons (s_int) (a_cons (s_v 4) (a_nil))))) (a_cons ((s_tup (a_cons (s_v 1) (a_cons (s_v 3) (a_nil))))) (a_nil))))) (a_nil)))) (a_nil))) (hw := by intro env h; cases env; cases h; rfl)) (b_cons (x_asg ((s_call (ok_summed T) (by decide) T.g_summed T.F_summed.kp T.b_summed (a_cons ((s_lst (a_cons ((s_tup (a_cons (s_v 1) (a_cons (s_v 1) (a_cons (s_v 5) (a_nil)))))) (a_cons ((s_tup (a_cons (s_int) (a_cons (s_v 2) (a_cons (s_v 5) (a_nil)))))) (a_cons ((s_tup (a_cons ((s_neg (s_int))) (a_cons (s_v 1) (a_cons (s_v 3) (a_cons (s_v 4) (a_nil))))))) (a_cons ((s_tup (a_cons (s_v 2) (a_cons (s_v 3) (a_cons (s_v 3) (a_nil)))))) (a_cons ((s_tup (a_cons ((s_neg (s_int))) (a_cons (s_v 4) (a_cons (s_v 4) (a_nil)))))) (a_nil)))))))) (a_nil)))) (g_name 8)) (b_one (x_ret ((s_tup (a_cons (s_v 6) (a_cons (s_v 7) (a_cons ((s_call (ok_summed T) (by decide) T.g_summed T.F_summed.kp T.b_summed (a_cons ((s_lst (a_cons ((s_tup (a_cons (s_v 3) (a_cons (s_v 3) (a_nil))))) (a_cons ((s_tup (a_cons (s_int) (a_cons (s_v 5) (a_nil))))) (a_nil))))) (a_nil)))) (a_cons (s_v 8) (a_nil))))))))))))) T.hX (fun v q h => nomatch h))
theorem ok_d_of (T : TxtC C) : Fn C 6 T.f_d_of T.d_d_of ["five"] (spM C 1 m_d_of) :=
  Fn.noq (fn_body (C := C.noq) (k := 5) (FunA.of T.F_d_of) sc_d_of (TxtC.uses T.noq fun T => show SB C.noq (defScope st_d_of) N_d_of 5 (defBody st_d_of) B_d_of from
    (b_cons (x_asg ((s_call (ok_halves_of T) (by decide) T.g_halves_of T.F_halves_of.kp T.b_halves_of (a_cons (s_v 0) (a_nil)))) (g_tup (n := 4) (gs_cons (g_name 1) (gs_cons (g_name 2) (gs_cons (g_name 3) (gs_cons (g_name 4) gs_nil)))))) (b_one (x_ret ((s_call (ok_summed T) (by decide) T.g_summed T.F_summed.kp T.b_summed (a_cons ((s_lst (a_cons ((s_tup (a_cons (s_int) (a_cons (s_v 1) (a_cons (s_v 2) (a_cons (s_v 3) (a_nil))))))) (a_cons ((s_tup (a_cons ((s_neg (s_int))) (a_cons (s_v 1) (a_cons (s_v 1) (a_cons (s_v 4) (a_nil))))))) (a_cons ((s_tup (a_cons ((s_neg (s_int))) (a_cons (s_v 2) (a_cons (s_v 2) (a_cons (s_v 2) (a_nil))))))) (a_cons ((s_tup (a_cons ((s_neg (s_int))) (a_cons (s_v 3) (a_cons (s_v 3) (a_nil)))))) (a_nil))))))) (a_nil)))))))) T.hX (fun v q h => nomatch h))
theorem ok_is_curve (T : TxtC C) : Fn C 7 T.f_is_curve T.d_is_curve ["thing"] (spM C 1 m_is_curve) :=
  Fn.noq (fn_body (C := C.noq) (k := 6) (FunA.of T.F_is_curve) sc_is_curve (TxtC.uses T.noq fun T => show SB C.noq (defScope st_is_curve) N_is_curve 6 (defBody st_is_curve) B_is_curve from
    (b_cons (x_if (t_w (w_or ((t_not (t_val ((s_bf c_isi T.n_isinstance bt_isinstance (a_cons (s_v 0) (a_cons ((s_bty T.n_tuple bt_tuple)) (a_nil)))))))) (w_or ((t_cmp (o_ne) ((s_bf c_len T.n_len bt_len (a_cons (s_v 0) (a_nil)))) (s_int))) (w_or1 ((t_not (t_val ((s_bf c_all T.n_all bt_all (a_cons ((s_lc true [("one", 1)] (i_row (s_v 0)) (g_name 1) c_yes ((s_call (ok_is_fraction T) (by decide) T.g_is_fraction T.F_is_fraction.kp T.b_is_fraction (a_cons (s_v 1) (a_nil)))))) (a_nil))))))))))) (b_one (x_ret (s_bl))) b_nil) (b_one (x_ret ((s_cmp (o_ne) ((s_call (ok_d_of T) (by decide) T.g_d_of T.F_d_of.kp T.b_d_of (a_cons (s_v 0) (a_nil)))) (s_int))))))) T.hX (fun v q h => nomatch h))
theorem ok_need_curve (T : TxtC C) : Fn C 8 T.f_need_curve T.d_need_curve ["curve"] (spM C 1 m_need_curve) :=
  Fn.noq (fn_body (C := C.noq) (k := 7) (FunA.of T.F_need_curve) sc_need_curve (TxtC.uses T.noq fun T => show SB C.noq (defScope st_need_curve) N_need_curve 7 (defBody st_need_curve) B_need_curve from
    (b_one (x_if (t_not (t_val ((s_call (ok_is_curve T) (by decide) T.g_is_curve T.F_is_curve.kp T.b_is_curve (a_cons (s_v 0) (a_nil)))))) (b_one x_never) b_nil))) T.hX (fun v q h => nomatch h))
theorem ok_together_of (T : TxtC C) : Fn C 4 T.f_together_of T.d_together_of ["things"] (spM C 1 m_together_of) :=
  Fn.noq (fn_body (C := C.noq) (k := 3) (FunA.of T.F_together_of) sc_together_of (TxtC.uses T.noq fun T => show SB C.noq (defScope st_together_of) N_together_of 3 (defBody st_together_of) B_together_of from
    (b_cons (x_asg (s_int) (g_name 1)) (b_cons (x_for (i_row (s_v 0)) (g_name 2) (b_one (x_asg ((s_call (ok_sum_of_two T) (by decide) T.g_sum_of_two T.F_sum_of_two.kp T.b_sum_of_two (a_cons (s_v 1) (a_cons (s_v 2) (a_nil))))) (g_name 1)))) (b_one (x_ret (s_v 1)))))) T.hX (fun v q h => nomatch h))
theorem ok_is_on (T : TxtC C) : Fn C 5 T.f_is_on T.d_is_on ["curve", "thing"] (spM C 2 m_is_on) :=
  Fn.noq (fn_body (C := C.noq) (k := 4) (FunA.of T.F_is_on) sc_is_on (TxtC.uses T.noq fun T => show SB C.noq (defScope st_is_on) N_is_on 4 (defBody st_is_on) B_is_on from
    (b_cons (x_if (t_cmp (o_is) (s_v 1) (s_non)) (b_one (x_ret (s_bl))) b_nil) (b_cons (x_if (t_w (w_or ((t_not (t_val ((s_bf c_isi T.n_isinstance bt_isinstance (a_cons (s_v 1) (a_cons ((s_bty T.n_tuple bt_tuple)) (a_nil)))))))) (w_or ((t_cmp (o_ne) ((s_bf c_len T.n_len bt_len (a_cons (s_v 1) (a_nil)))) (s_int))) (w_or1 ((t_not (t_val ((s_bf c_all T.n_all bt_all (a_cons ((s_lc true [("one", 2)] (i_row (s_v 1)) (g_name 2) c_yes ((s_call (ok_is_fraction T) (by decide) T.g_is_fraction T.F_is_fraction.kp T.b_is_fraction (a_cons (s_v 2) (a_nil)))))) (a_nil))))))))))) (b_one (x_ret (s_bl))) b_nil) (b_cons (x_asg (s_v 0) (g_tup (n := 5) (gs_cons (g_name 3) (gs_cons (g_name 4) (gs_cons (g_name 5) (gs_cons (g_name 6) (gs_cons (g_name 7) gs_nil))))))) (b_cons (x_asg (s_v 1) (g_tup (n := 2) (gs_cons (g_name 8) (gs_cons (g_name 9) gs_nil)))) (b_cons (x_asg ((s_call (ok_product T) (by decide) T.g_product T.F_product.kp T.b_product (a_cons (s_v 9) (a_cons ((s_call (ok_together_of T) (by decide) T.g_together_of T.F_together_of.kp T.b_together_of (a_cons ((s_lst (a_cons (s_v 9) (a_cons ((s_call (ok_product T) (by decide) T.g_product T.F_product.kp T.b_product (a_cons (s_v 3) (a_cons (s_v 8) (a_nil))))) (a_cons (s_v 5) (a_nil)))))) (a_nil)))) (a_nil))))) (g_name 10)) (b_cons (x_asg ((s_call (ok_sum_of_two T) (by decide) T.g_sum_of_two T.F_sum_of_two.kp T.b_sum_of_two (a_cons ((s_call (ok_product T) (by decide) T.g_product T.F_product.kp T.b_product (a_cons ((s_call (ok_sum_of_two T) (by decide) T.g_sum_of_two T.F_sum_of_two.kp T.b_sum_of_two (a_cons ((s_call (ok_product T) (by decide) T.g_product T.F_product.kp T.b_product (a_cons ((s_call (ok_sum_of_two T) (by decide) T.g_sum_of_two T.F_sum_of_two.kp T.b_sum_of_two (a_cons (s_v 8) (a_cons (s_v 4) (a_nil))))) (a_cons (s_v 8) (a_nil))))) (a_cons (s_v 6) (a_nil))))) (a_cons (s_v 8) (a_nil))))) (a_cons (s_v 7) (a_nil))))) (g_name 11)) (b_one (x_ret ((s_cmp (o_eq) (s_v 10) (s_v 11)))))))))))) T.hX (fun v q h => nomatch h))
theorem ok_need_point (T : TxtC C) : Fn C 6 T.f_need_point T.d_need_point ["curve", "thing"] (spM C 2 m_need_point) :=
  Fn.noq (fn_body (C := C.noq) (k := 5) (FunA.of T.F_need_point) sc_need_point (TxtC.uses T.noq fun T => show SB C.noq (defScope st_need_point) N_need_point 5 (defBody st_need_point) B_need_point from
    (b_one (x_if (t_not (t_val ((s_call (ok_is_on T) (by decide) T.g_is_on T.F_is_on.kp T.b_is_on (a_cons (s_v 0) (a_cons (s_v 1) (a_nil))))))) (b_one x_never) b_nil))) T.hX (fun v q h => nomatch h))
theorem ok_opposite_of (T : TxtC C) : Fn C 5 T.f_opposite_of T.d_opposite_of ["curve", "point"] (spM C 2 m_opposite_of) :=
  Fn.noq (fn_body (C := C.noq) (k := 4) (FunA.of T.F_opposite_of) sc_opposite_of (TxtC.uses T.noq fun T => show SB C.noq (defScope st_opposite_of) N_opposite_of 4 (defBody st_opposite_of) B_opposite_of from
    (b_cons (x_if (t_cmp (o_is) (s_v 1) (s_non)) (b_one (x_ret (s_non))) b_nil) (b_cons (x_asg (s_v 1) (g_tup (n := 2) (gs_cons (g_name 2) (gs_cons (g_name 3) gs_nil)))) (b_one (x_ret ((s_tup (a_cons (s_v 2) (a_cons ((s_call (ok_turned T) (by decide) T.g_turned T.F_turned.kp T.b_turned (a_cons ((s_call (ok_together_of T) (by decide) T.g_together_of T.F_together_of.kp T.b_together_of (a_cons ((s_lst (a_cons (s_v 3) (a_cons ((s_call (ok_product T) (by decide) T.g_product T.F_product.kp T.b_product (a_cons ((s_ix (s_v 0) (s_int))) (a_cons (s_v 2) (a_nil))))) (a_cons ((s_ix (s_v 0) (s_int))) (a_nil)))))) (a_nil)))) (a_nil)))) (a_nil)))))))))) T.hX (fun v q h => nomatch h))
theorem ok_slope_of (T : TxtC C) : Fn C 5 T.f_slope_of T.d_slope_of ["curve", "one", "other"] (spM C 3 m_slope_of) :=
  Fn.noq (fn_body (C := C.noq) (k := 4) (FunA.of T.F_slope_of) sc_slope_of (TxtC.uses T.noq fun T => show SB C.noq (defScope st_slope_of) N_slope_of 4 (defBody st_slope_of) B_slope_of from
    (b_cons (x_asg (s_v 0) (g_tup (n := 5) (gs_cons (g_name 3) (gs_cons (g_name 4) (gs_cons (g_name 5) (gs_cons (g_name 6) (gs_cons (g_name 7) gs_nil))))))) (b_cons (x_tas (a_cons (s_v 1) (a_cons (s_v 2) (a_nil))) (gd_cons (g_tup (n := 2) (gs_cons (g_name 8) (gs_cons (g_name 9) gs_nil))) (gd_cons (g_tup (n := 2) (gs_cons (g_name 10) (gs_cons (g_name 11) gs_nil))) gd_nil))) (b_cons (x_if (t_cmp (o_ne) (s_v 8) (s_v 10)) (b_one (x_ret ((s_call (ok_quotient T) (by decide) T.g_quotient T.F_quotient.kp T.b_quotient (a_cons ((s_call (ok_sum_of_two T) (by decide) T.g_sum_of_two T.F_sum_of_two.kp T.b_sum_of_two (a_cons (s_v 11) (a_cons ((s_call (ok_turned T) (by decide) T.g_turned T.F_turned.kp T.b_turned (a_cons (s_v 9) (a_nil)))) (a_nil))))) (a_cons ((s_call (ok_sum_of_two T) (by decide) T.g_sum_of_two T.F_sum_of_two.kp T.b_sum_of_two (a_cons (s_v 10) (a_cons ((s_call (ok_turned T) (by decide) T.g_turned T.F_turned.kp T.b_turned (a_cons (s_v 8) (a_nil)))) (a_nil))))) (a_nil))))))) b_nil) (b_cons (x_asg ((s_call (ok_together_of T) (by decide) T.g_together_of T.F_together_of.kp T.b_together_of (a_cons ((s_lst (a_cons ((s_call (ok_product T) (by decide) T.g_product T.F_product.kp T.b_product (a_cons (s_int) (a_cons ((s_call (ok_product T) (by decide) T.g_product T.F_product.kp T.b_product (a_cons (s_v 8) (a_cons (s_v 8) (a_nil))))) (a_nil))))) (a_cons ((s_call (ok_product T) (by decide) T.g_product T.F_product.kp T.b_product (a_cons (s_int) (a_cons ((s_call (ok_product T) (by decide) T.g_product T.F_product.kp T.b_product (a_cons (s_v 4) (a_cons (s_v 8) (a_nil))))) (a_nil))))) (a_cons (s_v 6) (a_cons ((s_call (ok_turned T) (by decide) T.g_turned T.F_turned.kp T.b_turned (a_cons ((s_call (ok_product T) (by decide) T.g_product T.F_product.kp T.b_product (a_cons (s_v 3) (a_cons (s_v 9) (a_nil))))) (a_nil)))) (a_nil))))))) (a_nil)))) (g_name 12)) (b_one (x_ret ((s_call (ok_quotient T) (by decide) T.g_quotient T.F_quotient.kp T.b_quotient (a_cons (s_v 12) (a_cons ((s_call (ok_together_of T) (by decide) T.g_together_of T.F_together_of.kp T.b_together_of (a_cons ((s_lst (a_cons (s_v 9) (a_cons (s_v 9) (a_cons ((s_call (ok_product T) (by decide) T.g_product T.F_product.kp T.b_product (a_cons (s_v 3) (a_cons (s_v 8) (a_nil))))) (a_cons (s_v 5) (a_nil))))))) (a_nil)))) (a_nil)))))))))))) T.hX (fun v q h => nomatch h))
theorem ok_sum_on (T : TxtC C) : Fn C 6 T.f_sum_on T.d_sum_on ["curve", "one", "other"] (spM C 3 m_sum_on) :=
  Fn.noq (fn_body (C := C.noq) (k := 5) (FunA.of T.F_sum_on) sc_sum_on (TxtC.uses T.noq fun T => show SB C.noq (defScope st_sum_on) N_sum_on 5 (defBody st_sum_on) B_sum_on from
    (b_cons (x_if (t_w (w_or ((t_cmp (o_is) (s_v 1) (s_non))) (w_or1 ((t_cmp (o_is) (s_v 2) (s_non)))))) (b_one (x_ret ((s_if ((t_cmp (o_is) (s_v 1) (s_non))) (s_v 2) (s_v 1))))) b_nil) (b_cons (x_if (t_cmp (o_eq) (s_v 2) ((s_call (ok_opposite_of T) (by decide) T.g_opposite_of T.F_opposite_of.kp T.b_opposite_of (a_cons (s_v 0) (a_cons (s_v 1) (a_nil)))))) (b_one (x_ret (s_non))) b_nil) (b_cons (x_asg (s_v 0) (g_tup (n := 5) (gs_cons (g_name 3) (gs_cons (g_name 4) (gs_cons (g_name 5) (gs_cons (g_name 6) (gs_cons (g_name 7) gs_nil))))))) (b_cons (x_asg ((s_call (ok_slope_of T) (by decide) T.g_slope_of T.F_slope_of.kp T.b_slope_of (a_cons (s_v 0) (a_cons (s_v 1) (a_cons (s_v 2) (a_nil)))))) (g_name 8)) (b_cons (x_asg ((s_call (ok_together_of T) (by decide) T.g_together_of T.F_together_of.kp T.b_together_of (a_cons ((s_lst (a_cons ((s_call (ok_product T) (by decide) T.g_product T.F_product.kp T.b_product (a_cons (s_v 8) (a_cons ((s_call (ok_sum_of_two T) (by decide) T.g_sum_of_two T.F_sum_of_two.kp T.b_sum_of_two (a_cons (s_v 8) (a_cons (s_v 3) (a_nil))))) (a_nil))))) (a_cons ((s_call (ok_turned T) (by decide) T.g_turned T.F_turned.kp T.b_turned (a_cons (s_v 4) (a_nil)))) (a_cons ((s_call (ok_turned T) (by decide) T.g_turned T.F_turned.kp T.b_turned (a_cons ((s_ix (s_v 1) (s_int))) (a_nil)))) (a_cons ((s_call (ok_turned T) (by decide) T.g_turned T.F_turned.kp T.b_turned (a_cons ((s_ix (s_v 2) (s_int))) (a_nil)))) (a_nil))))))) (a_nil)))) (g_name 9)) (b_cons (x_asg ((s_call (ok_sum_of_two T) (by decide) T.g_sum_of_two T.F_sum_of_two.kp T.b_sum_of_two (a_cons ((s_ix (s_v 1) (s_int))) (a_cons ((s_call (ok_product T) (by decide) T.g_product T.F_product.kp T.b_product (a_cons (s_v 8) (a_cons ((s_call (ok_sum_of_two T) (by decide) T.g_sum_of_two T.F_sum_of_two.kp T.b_sum_of_two (a_cons (s_v 9) (a_cons ((s_call (ok_turned T) (by decide) T.g_turned T.F_turned.kp T.b_turned (a_cons ((s_ix (s_v 1) (s_int))) (a_nil)))) (a_nil))))) (a_nil))))) (a_nil))))) (g_name 10)) (b_one (x_ret ((s_call (ok_opposite_of T) (by decide) T.g_opposite_of T.F_opposite_of.kp T.b_opposite_of (a_cons (s_v 0) (a_cons ((s_tup (a_cons (s_v 9) (a_cons (s_v 10) (a_nil))))) (a_nil)))))))))))))) T.hX (fun v q h => nomatch h))
theorem ok_multiple_on (T : TxtC C) : Fn C 7 T.f_multiple_on T.d_multiple_on ["curve", "count", "point"] (spM C 3 m_multiple_on) :=
  Fn.noq (fn_body (C := C.noq) (k := 6) (FunA.of T.F_multiple_on) sc_multiple_on (TxtC.uses T.noq fun T => show SB C.noq (defScope st_multiple_on) N_multiple_on 6 (defBody st_multiple_on) B_multiple_on from
    (b_cons (x_par3 3 4 5 (a_cons (s_non) (a_cons ((s_if ((t_cmp (o_ge) (s_v 1) (s_int))) (s_v 2) ((s_call (ok_opposite_of T) (by decide) T.g_opposite_of T.F_opposite_of.kp T.b_opposite_of (a_cons (s_v 0) (a_cons (s_v 2) (a_nil))))))) (a_cons ((s_bf c_abs T.n_abs bt_abs (a_cons (s_v 1) (a_nil)))) (a_nil)))) (hw := by intro env h; cases env; cases h; rfl)) (b_cons (x_while (t_cmp (o_gt) (s_v 5) (s_int)) (b_cons (x_if (t_cmp (o_eq) ((s_bin (o_mod) (s_v 5) (s_int))) (s_int)) (b_one (x_asg ((s_call (ok_sum_on T) (by decide) T.g_sum_on T.F_sum_on.kp T.b_sum_on (a_cons (s_v 0) (a_cons (s_v 3) (a_cons (s_v 4) (a_nil)))))) (g_name 3))) b_nil) (b_cons (x_aug 5 i_div (s_int)) (b_one (x_asg ((s_if ((t_cmp (o_gt) (s_v 5) (s_int))) ((s_call (ok_sum_on T) (by decide) T.g_sum_on T.F_sum_on.kp T.b_sum_on (a_cons (s_v 0) (a_cons (s_v 4) (a_cons (s_v 4) (a_nil)))))) (s_v 4))) (g_name 4)))))) (b_one (x_ret (s_v 3)))))) T.hX (fun v q h => nomatch h))
theorem ok_is_point (T : TxtC C) : Fn C 9 T.f_is_point T.d_is_point ["curve", "thing"] (spM C 2 m_is_point) :=
  Fn.noq (fn_body (C := C.noq) (k := 8) (FunA.of T.F_is_point) sc_is_point (TxtC.uses T.noq fun T => show SB C.noq (defScope st_is_point) N_is_point 8 (defBody st_is_point) B_is_point from
    (b_cons (x_exp ((s_call (ok_need_curve T) (by decide) T.g_need_curve T.F_need_curve.kp T.b_need_curve (a_cons (s_v 0) (a_nil))))) (b_one (x_ret ((s_call (ok_is_on T) (by decide) T.g_is_on T.F_is_on.kp T.b_is_on (a_cons (s_v 0) (a_cons (s_v 1) (a_nil))))))))) T.hX (fun v q h => nomatch h))
theorem ok_opposite (T : TxtC C) : Fn C 9 T.f_opposite T.d_opposite ["curve", "point"] (spM C 2 m_opposite) :=
  Fn.noq (fn_body (C := C.noq) (k := 8) (FunA.of T.F_opposite) sc_opposite (TxtC.uses T.noq fun T => show SB C.noq (defScope st_opposite) N_opposite 8 (defBody st_opposite) B_opposite from
    (b_cons (x_exp ((s_call (ok_need_curve T) (by decide) T.g_need_curve T.F_need_curve.kp T.b_need_curve (a_cons (s_v 0) (a_nil))))) (b_cons (x_exp ((s_call (ok_need_point T) (by decide) T.g_need_point T.F_need_point.kp T.b_need_point (a_cons (s_v 0) (a_cons (s_v 1) (a_nil)))))) (b_one (x_ret ((s_call (ok_opposite_of T) (by decide) T.g_opposite_of T.F_opposite_of.kp T.b_opposite_of (a_cons (s_v 0) (a_cons (s_v 1) (a_nil)))))))))) T.hX (fun v q h => nomatch h))
theorem ok_added (T : TxtC C) : Fn C 9 T.f_added T.d_added ["curve", "one", "other"] (spM C 3 m_added) :=
  Fn.noq (fn_body (C := C.noq) (k := 8) (FunA.of T.F_added) sc_added (TxtC.uses T.noq fun T => show SB C.noq (defScope st_added) N_added 8 (defBody st_added) B_added from
    (b_cons (x_exp ((s_call (ok_need_curve T) (by decide) T.g_need_curve T.F_need_curve.kp T.b_need_curve (a_cons (s_v 0) (a_nil))))) (b_cons (x_exp ((s_call (ok_need_point T) (by decide) T.g_need_point T.F_need_point.kp T.b_need_point (a_cons (s_v 0) (a_cons (s_v 1) (a_nil)))))) (b_cons (x_exp ((s_call (ok_need_point T) (by decide) T.g_need_point T.F_need_point.kp T.b_need_point (a_cons (s_v 0) (a_cons (s_v 2) (a_nil)))))) (b_one (x_ret ((s_call (ok_sum_on T) (by decide) T.g_sum_on T.F_sum_on.kp T.b_sum_on (a_cons (s_v 0) (a_cons (s_v 1) (a_cons (s_v 2) (a_nil)))))))))))) T.hX (fun v q h => nomatch h))
theorem ok_times_point (T : TxtC C) : Fn C 9 T.f_times_point T.d_times_point ["curve", "count", "point"] (spM C 3 m_times_point) :=
  Fn.noq (fn_body (C := C.noq) (k := 8) (FunA.of T.F_times_point) sc_times_point (TxtC.uses T.noq fun T => show SB C.noq (defScope st_times_point) N_times_point 8 (defBody st_times_point) B_times_point from
    (b_cons (x_exp ((s_call (ok_need_curve T) (by decide) T.g_need_curve T.F_need_curve.kp T.b_need_curve (a_cons (s_v 0) (a_nil))))) (b_cons (x_if (t_w (w_or ((t_not (t_val ((s_call (ok_is_number T) (by decide) T.g_is_number T.F_is_number.kp T.b_is_number (a_cons (s_v 1) (a_nil))))))) (w_or1 ((t_not (t_chain (o_le) (o_le) ((s_neg (T.k_MOST_TIMES))) (s_v 1) (T.k_MOST_TIMES))))))) (b_one x_never) b_nil) (b_cons (x_exp ((s_call (ok_need_point T) (by decide) T.g_need_point T.F_need_point.kp T.b_need_point (a_cons (s_v 0) (a_cons (s_v 2) (a_nil)))))) (b_one (x_ret ((s_call (ok_multiple_on T) (by decide) T.g_multiple_on T.F_multiple_on.kp T.b_multiple_on (a_cons (s_v 0) (a_cons (s_v 1) (a_cons (s_v 2) (a_nil)))))))))))) T.hX (fun v q h => nomatch h))
theorem ok_Ldraw_of (T : TxtC C) : Fn C 1 T.f_Ldraw_of T.d_Ldraw_of ["_law_script", "_law_k"] (spM C 2 m_Ldraw_of) :=
  Fn.noq (fn_body (C := C.noq) (k := 0) (FunA.of T.F_Ldraw_of) sc_Ldraw_of (TxtC.uses T.noq fun T => show SB C.noq (defScope st_Ldraw_of) N_Ldraw_of 0 (defBody st_Ldraw_of) B_Ldraw_of from
    (b_cons (x_asg (s_int) (g_name 2)) (b_cons (x_if (t_cmp (o_gt) ((s_bf c_len T.n_len bt_len (a_cons (s_v 0) (a_nil)))) (s_int)) (b_one (x_asg ((s_ix (s_v 0) ((s_bin (o_mod) (s_v 1) ((s_bf c_len T.n_len bt_len (a_cons (s_v 0) (a_nil)))))))) (g_name 2))) b_nil) (b_cons (x_asg (s_int) (g_name 3)) (b_cons (x_if (t_cmp (o_ge) (s_v 2) ((s_bin (o_pow) (s_int) (s_int)))) (b_one (x_asg ((s_bin (o_div) (s_v 2) ((s_bin (o_pow) (s_int) (s_int))))) (g_name 3))) b_nil) (b_one (x_ret ((s_lso (a_cons (s_v 2) (a_cons ((s_bin (o_mul true) (s_int) (s_v 1))) (a_cons (s_v 3) (a_nil))))))))))))) T.hX (fun v q h => nomatch h))
theorem ok_Lnext (T : TxtC C) : Fn C 1 T.f_Lnext T.d_Lnext ["_law_draw", "_law_many"] (spM C 2 m_Lnext) :=
  Fn.noq (fn_body (C := C.noq) (k := 0) (FunA.of T.F_Lnext) sc_Lnext (TxtC.uses T.noq fun T => show SB C.noq (defScope st_Lnext) N_Lnext 0 (defBody st_Lnext) B_Lnext from
    (b_cons (x_if (t_cmp (o_gt) ((s_ix (s_v 0) (s_int))) (s_int)) (b_cons (x_asg ((s_bin (o_mod) ((s_ix (s_v 0) (s_int))) (s_v 1))) (g_name 2)) (b_cons (x_lput (s_v 0) (s_int) ((s_bin (o_div) ((s_ix (s_v 0) (s_int))) (s_v 1)))) (b_one (x_ret (s_v 2))))) b_nil) (b_cons (x_lput (s_v 0) (s_int) ((s_bin (o_add true) ((s_ix (s_v 0) (s_int))) (s_int)))) (b_cons (x_asg ((s_lst (a_cons (s_int) (a_cons (s_int) (a_cons (s_int) (a_cons (s_int) (a_cons (s_int) (a_cons (s_int) (a_cons (s_int) (a_cons (s_int) (a_nil))))))))))) (g_name 3)) (b_cons (x_asg ((s_ix ((s_bin (o_add true) (s_v 3) ((s_lst (a_cons (s_int) (a_cons (s_int) (a_cons (s_int) (a_nil)))))))) ((s_bin (o_mod) ((s_ix (s_v 0) (s_int))) (s_int))))) (g_name 4)) (b_one (x_ret ((s_bin (o_mod) ((s_bin (o_div) ((s_bin (o_mod) ((s_bin (o_pow) ((s_bin (o_add true) ((s_bin (o_add true) ((s_bin (o_mod) ((s_ix (s_v 0) (s_int))) (s_v 4))) ((s_bin (o_mul true) (s_int) ((s_ix (s_v 0) (s_int))))))) (s_int))) (s_int))) (s_v 4))) (s_int))) (s_v 1)))))))))) T.hX (fun v q h => nomatch h))
theorem ok_Llowest (T : TxtC C) : Fn C 1 T.f_Llowest T.d_Llowest ["_law_top", "_law_bottom"] (spM C 2 m_Llowest) :=
  Fn.noq (fn_body (C := C.noq) (k := 0) (FunA.of T.F_Llowest) sc_Llowest (TxtC.uses T.noq fun T => show SB C.noq (defScope st_Llowest) N_Llowest 0 (defBody st_Llowest) B_Llowest from
    (b_cons (x_par 2 3 (a_cons ((s_bf c_abs T.n_abs bt_abs (a_cons (s_v 0) (a_nil)))) (a_cons ((s_bf c_abs T.n_abs bt_abs (a_cons (s_v 1) (a_nil)))) (a_nil))) (hw := by intro env h; cases env; cases h; rfl)) (b_cons (x_while (t_cmp (o_ne) (s_v 3) (s_int)) (b_one (x_par 2 3 (a_cons (s_v 3) (a_cons ((s_bin (o_mod) (s_v 2) (s_v 3))) (a_nil))) (hw := by intro env h; cases env; cases h; rfl)))) (b_cons (x_asg ((s_if ((t_cmp (o_gt) (s_v 1) (s_int))) (s_v 2) ((s_neg (s_v 2))))) (g_name 2)) (b_one (x_ret ((s_tup (a_cons ((s_bin (o_div) (s_v 0) (s_v 2))) (a_cons ((s_bin (o_div) (s_v 1) (s_v 2))) (a_nil))))))))))) T.hX (fun v q h => nomatch h))
theorem ok_Lsum (T : TxtC C) : Fn C 2 T.f_Lsum T.d_Lsum ["_law_pairs"] (spM C 1 m_Lsum) :=
  Fn.noq (fn_body (C := C.noq) (k := 1) (FunA.of T.F_Lsum) sc_Lsum (TxtC.uses T.noq fun T => show SB C.noq (defScope st_Lsum) N_Lsum 1 (defBody st_Lsum) B_Lsum from
    (b_cons (x_asg ((s_tup (a_cons (s_int) (a_cons (s_int) (a_nil))))) (g_name 1)) (b_cons (x_for (i_row (s_v 0)) (g_tup (n := 2) (gs_cons (g_name 2) (gs_cons (g_name 3) gs_nil))) (b_one (x_asg ((s_call (ok_Llowest T) (by decide) T.g_Llowest T.F_Llowest.kp T.b_Llowest (a_cons ((s_bin (o_add true) ((s_bin (o_mul true) ((s_ix (s_v 1) (s_int))) (s_v 3))) ((s_bin (o_mul true) (s_v 2) ((s_ix (s_v 1) (s_int))))))) (a_cons ((s_bin (o_mul true) ((s_ix (s_v 1) (s_int))) (s_v 3))) (a_nil))))) (g_name 1)))) (b_one (x_ret (s_v 1)))))) T.hX (fun v q h => nomatch h))
theorem ok_Lproduct (T : TxtC C) : Fn C 2 T.f_Lproduct T.d_Lproduct ["_law_pairs"] (spM C 1 m_Lproduct) :=
  Fn.noq (fn_body (C := C.noq) (k := 1) (FunA.of T.F_Lproduct) sc_Lproduct (TxtC.uses T.noq fun T => show SB C.noq (defScope st_Lproduct) N_Lproduct 1 (defBody st_Lproduct) B_Lproduct from
    (b_cons (x_asg ((s_tup (a_cons (s_int) (a_cons (s_int) (a_nil))))) (g_name 1)) (b_cons (x_for (i_row (s_v 0)) (g_tup (n := 2) (gs_cons (g_name 2) (gs_cons (g_name 3) gs_nil))) (b_one (x_asg ((s_call (ok_Llowest T) (by decide) T.g_Llowest T.F_Llowest.kp T.b_Llowest (a_cons ((s_bin (o_mul true) ((s_ix (s_v 1) (s_int))) (s_v 2))) (a_cons ((s_bin (o_mul true) ((s_ix (s_v 1) (s_int))) (s_v 3))) (a_nil))))) (g_name 1)))) (b_one (x_ret (s_v 1)))))) T.hX (fun v q h => nomatch h))
theorem ok_Lminus (T : TxtC C) : Fn C 1 T.f_Lminus T.d_Lminus ["_law_a"] (spM C 1 m_Lminus) :=
  Fn.noq (fn_body (C := C.noq) (k := 0) (FunA.of T.F_Lminus) sc_Lminus (TxtC.uses T.noq fun T => show SB C.noq (defScope st_Lminus) N_Lminus 0 (defBody st_Lminus) B_Lminus from
    (b_one (x_ret ((s_tup (a_cons ((s_neg ((s_ix (s_v 0) (s_int))))) (a_cons ((s_ix (s_v 0) (s_int))) (a_nil)))))))) T.hX (fun v q h => nomatch h))
theorem ok_Lover (T : TxtC C) : Fn C 2 T.f_Lover T.d_Lover ["_law_a", "_law_b"] (spM C 2 m_Lover) :=
  Fn.noq (fn_body (C := C.noq) (k := 1) (FunA.of T.F_Lover) sc_Lover (TxtC.uses T.noq fun T => show SB C.noq (defScope st_Lover) N_Lover 1 (defBody st_Lover) B_Lover from
    (b_one (x_ret ((s_call (ok_Llowest T) (by decide) T.g_Llowest T.F_Llowest.kp T.b_Llowest (a_cons ((s_bin (o_mul true) ((s_ix (s_v 0) (s_int))) ((s_ix (s_v 1) (s_int))))) (a_cons ((s_bin (o_mul true) ((s_ix (s_v 0) (s_int))) ((s_ix (s_v 1) (s_int))))) (a_nil)))))))) T.hX (fun v q h => nomatch h))
theorem ok_Ltold (T : TxtC C) : Fn C 1 T.f_Ltold T.d_Ltold ["_law_a"] (spM C 1 m_Ltold) :=
  Fn.noq (fn_body (C := C.noq) (k := 0) (FunA.of T.F_Ltold) sc_Ltold (TxtC.uses T.noq fun T => show SB C.noq (defScope st_Ltold) N_Ltold 0 (defBody st_Ltold) B_Ltold from
    (b_one (x_ret ((s_if ((t_cmp (o_eq) ((s_ix (s_v 0) (s_int))) (s_int))) ((s_ix (s_v 0) (s_int))) (s_v 0)))))) T.hX (fun v q h => nomatch h))
theorem ok_Lsmall (T : TxtC C) : Fn C 2 T.f_Lsmall T.d_Lsmall ["_law_draw", "_law_top", "_law_bottoms"] (spM C 3 m_Lsmall) :=
  Fn.noq (fn_body (C := C.noq) (k := 1) (FunA.of T.F_Lsmall) sc_Lsmall (TxtC.uses T.noq fun T => show SB C.noq (defScope st_Lsmall) N_Lsmall 1 (defBody st_Lsmall) B_Lsmall from
    (b_cons (x_asg ((s_if ((t_val (s_v 2))) ((s_ix ((s_lst (a_cons (s_int) (a_cons (s_int) (a_cons (s_int) (a_cons (s_int) (a_cons (s_int) (a_nil)))))))) ((s_call (ok_Lnext T) (by decide) T.g_Lnext T.F_Lnext.kp T.b_Lnext (a_cons (s_v 0) (a_cons (s_int) (a_nil))))))) (s_int))) (g_name 3)) (b_one (x_ret ((s_call (ok_Llowest T) (by decide) T.g_Llowest T.F_Llowest.kp T.b_Llowest (a_cons ((s_bin (o_sub) ((s_call (ok_Lnext T) (by decide) T.g_Lnext T.F_Lnext.kp T.b_Lnext (a_cons (s_v 0) (a_cons ((s_bin (o_add true) ((s_bin (o_mul true) (s_int) (s_v 1))) (s_int))) (a_nil))))) (s_v 1))) (a_cons (s_v 3) (a_nil))))))))) T.hX (fun v q h => nomatch h))
theorem ok_Lis_single (T : TxtC C) : Fn C 3 T.f_Lis_single T.d_Lis_single ["_law_five"] (spM C 1 m_Lis_single) :=
  Fn.noq (fn_body (C := C.noq) (k := 2) (FunA.of T.F_Lis_single) sc_Lis_single (TxtC.uses T.noq fun T => show SB C.noq (defScope st_Lis_single) N_Lis_single 2 (defBody st_Lis_single) B_Lis_single from
    (b_cons (x_asg (s_v 0) (g_tup (n := 5) (gs_cons (g_name 1) (gs_cons (g_name 2) (gs_cons (g_name 3) (gs_cons (g_name 4) (gs_cons (g_name 5) gs_nil))))))) (b_cons (x_asg ((s_call (ok_Lsum T) (by decide) T.g_Lsum T.F_Lsum.kp T.b_Lsum (a_cons ((s_lst (a_cons ((s_call (ok_Lproduct T) (by decide) T.g_Lproduct T.F_Lproduct.kp T.b_Lproduct (a_cons ((s_lst (a_cons (s_v 1) (a_cons (s_v 1) (a_nil))))) (a_nil)))) (a_cons ((s_call (ok_Lproduct T) (by decide) T.g_Lproduct T.F_Lproduct.kp T.b_Lproduct (a_cons ((s_lst (a_cons ((s_tup (a_cons (s_int) (a_cons (s_int) (a_nil))))) (a_cons (s_v 2) (a_nil))))) (a_nil)))) (a_nil))))) (a_nil)))) (g_name 6)) (b_cons (x_asg ((s_call (ok_Lsum T) (by decide) T.g_Lsum T.F_Lsum.kp T.b_Lsum (a_cons ((s_lst (a_cons ((s_call (ok_Lproduct T) (by decide) T.g_Lproduct T.F_Lproduct.kp T.b_Lproduct (a_cons ((s_lst (a_cons ((s_tup (a_cons (s_int) (a_cons (s_int) (a_nil))))) (a_cons (s_v 4) (a_nil))))) (a_nil)))) (a_cons ((s_call (ok_Lproduct T) (by decide) T.g_Lproduct T.F_Lproduct.kp T.b_Lproduct (a_cons ((s_lst (a_cons (s_v 1) (a_cons (s_v 3) (a_nil))))) (a_nil)))) (a_nil))))) (a_nil)))) (g_name 7)) (b_cons (x_asg ((s_call (ok_Lsum T) (by decide) T.g_Lsum T.F_Lsum.kp T.b_Lsum (a_cons ((s_lst (a_cons ((s_call (ok_Lproduct T) (by decide) T.g_Lproduct T.F_Lproduct.kp T.b_Lproduct (a_cons ((s_lst (a_cons (s_v 3) (a_cons (s_v 3) (a_nil))))) (a_nil)))) (a_cons ((s_call (ok_Lproduct T) (by decide) T.g_Lproduct T.F_Lproduct.kp T.b_Lproduct (a_cons ((s_lst (a_cons ((s_tup (a_cons (s_int) (a_cons (s_int) (a_nil))))) (a_cons (s_v 5) (a_nil))))) (a_nil)))) (a_nil))))) (a_nil)))) (g_name 8)) (b_cons (x_asg ((s_call (ok_Lover T) (by decide) T.g_Lover T.F_Lover.kp T.b_Lover (a_cons ((s_call (ok_Lsum T) (by decide) T.g_Lsum T.F_Lsum.kp T.b_Lsum (a_cons ((s_lst (a_cons ((s_call (ok_Lproduct T) (by decide) T.g_Lproduct T.F_Lproduct.kp T.b_Lproduct (a_cons ((s_lst (a_cons (s_v 6) (a_cons (s_v 8) (a_nil))))) (a_nil)))) (a_cons ((s_call (ok_Lminus T) (by decide) T.g_Lminus T.F_Lminus.kp T.b_Lminus (a_cons ((s_call (ok_Lproduct T) (by decide) T.g_Lproduct T.F_Lproduct.kp T.b_Lproduct (a_cons ((s_lst (a_cons (s_v 7) (a_cons (s_v 7) (a_nil))))) (a_nil)))) (a_nil)))) (a_nil))))) (a_nil)))) (a_cons ((s_tup (a_cons (s_int) (a_cons (s_int) (a_nil))))) (a_nil))))) (g_name 9)) (b_cons (x_asg ((s_lst (a_cons ((s_call (ok_Lproduct T) (by decide) T.g_Lproduct T.F_Lproduct.kp T.b_Lproduct (a_cons ((s_lst (a_cons ((s_tup (a_cons (s_int) (a_cons (s_int) (a_nil))))) (a_cons (s_v 6) (a_cons (s_v 7) (a_cons (s_v 8) (a_nil))))))) (a_nil)))) (a_cons ((s_call (ok_Lminus T) (by decide) T.g_Lminus T.F_Lminus.kp T.b_Lminus (a_cons ((s_call (ok_Lproduct T) (by decide) T.g_Lproduct T.F_Lproduct.kp T.b_Lproduct (a_cons ((s_lst (a_cons (s_v 6) (a_cons (s_v 6) (a_cons (s_v 9) (a_nil)))))) (a_nil)))) (a_nil)))) (a_nil))))) (g_name 10)) (b_cons (x_asg ((s_bin (o_add true) (s_v 10) ((s_lst (a_cons ((s_call (ok_Lproduct T) (by decide) T.g_Lproduct T.F_Lproduct.kp T.b_Lproduct (a_cons ((s_lst (a_cons ((s_tup (a_cons ((s_neg (s_int))) (a_cons (s_int) (a_nil))))) (a_cons (s_v 7) (a_cons (s_v 7) (a_cons (s_v 7) (a_nil))))))) (a_nil)))) (a_cons ((s_call (ok_Lproduct T) (by decide) T.g_Lproduct T.F_Lproduct.kp T.b_Lproduct (a_cons ((s_lst (a_cons ((s_tup (a_cons ((s_neg (s_int))) (a_cons (s_int) (a_nil))))) (a_cons (s_v 8) (a_cons (s_v 8) (a_nil)))))) (a_nil)))) (a_nil))))))) (g_name 10)) (b_one (x_ret ((s_cmp (o_ne) ((s_call (ok_Lsum T) (by decide) T.g_Lsum T.F_Lsum.kp T.b_Lsum (a_cons (s_v 10) (a_nil)))) ((s_tup (a_cons (s_int) (a_cons (s_int) (a_nil))))))))))))))))) T.hX (fun v q h => nomatch h))
theorem ok_Lbetween (T : TxtC C) : Fn C 3 T.f_Lbetween T.d_Lbetween ["_law_one", "_law_other"] (spM C 2 m_Lbetween) :=
  Fn.noq (fn_body (C := C.noq) (k := 2) (FunA.of T.F_Lbetween) sc_Lbetween (TxtC.uses T.noq fun T => show SB C.noq (defScope st_Lbetween) N_Lbetween 2 (defBody st_Lbetween) B_Lbetween from
    (b_one (x_ret ((s_call (ok_Lover T) (by decide) T.g_Lover T.F_Lover.kp T.b_Lover (a_cons ((s_call (ok_Lsum T) (by decide) T.g_Lsum T.F_Lsum.kp T.b_Lsum (a_cons ((s_lst (a_cons ((s_ix (s_v 1) (s_int))) (a_cons ((s_call (ok_Lminus T) (by decide) T.g_Lminus T.F_Lminus.kp T.b_Lminus (a_cons ((s_ix (s_v 0) (s_int))) (a_nil)))) (a_nil))))) (a_nil)))) (a_cons ((s_call (ok_Lsum T) (by decide) T.g_Lsum T.F_Lsum.kp T.b_Lsum (a_cons ((s_lst (a_cons ((s_ix (s_v 1) (s_int))) (a_cons ((s_call (ok_Lminus T) (by decide) T.g_Lminus T.F_Lminus.kp T.b_Lminus (a_cons ((s_ix (s_v 0) (s_int))) (a_nil)))) (a_nil))))) (a_nil)))) (a_nil)))))))) T.hX (fun v q h => nomatch h))
theorem ok_Lthrough (T : TxtC C) : Fn C 4 T.f_Lthrough T.d_Lthrough ["_law_a1", "_law_a3", "_law_points"] (spM C 3 m_Lthrough) :=
  Fn.noq (fn_body (C := C.noq) (k := 3) (FunA.of T.F_Lthrough) sc_Lthrough (TxtC.uses T.noq fun T => show SB C.noq (defScope st_Lthrough) N_Lthrough 3 (defBody st_Lthrough) B_Lthrough from
    (b_cons (x_asg ((s_lso (a_nil))) (g_name 3)) (b_cons (x_for (i_row (s_v 2)) (g_tup (n := 2) (gs_cons (g_name 4) (gs_cons (g_name 5) gs_nil))) (b_cons (x_asg ((s_lst (a_cons ((s_call (ok_Lproduct T) (by decide) T.g_Lproduct T.F_Lproduct.kp T.b_Lproduct (a_cons ((s_lst (a_cons (s_v 5) (a_cons (s_v 5) (a_nil))))) (a_nil)))) (a_cons ((s_call (ok_Lproduct T) (by decide) T.g_Lproduct T.F_Lproduct.kp T.b_Lproduct (a_cons ((s_lst (a_cons (s_v 0) (a_cons (s_v 4) (a_cons (s_v 5) (a_nil)))))) (a_nil)))) (a_cons ((s_call (ok_Lproduct T) (by decide) T.g_Lproduct T.F_Lproduct.kp T.b_Lproduct (a_cons ((s_lst (a_cons (s_v 1) (a_cons (s_v 5) (a_nil))))) (a_nil)))) (a_nil)))))) (g_name 6)) (b_one (x_exp ((s_met PySem.F.plainAttrs_list PySem.F.slot_list_append PySem.F.type_list_append m_app (s_v 3) (a_cons ((s_tup (a_cons (s_v 4) (a_cons ((s_call (ok_Lsum T) (by decide) T.g_Lsum T.F_Lsum.kp T.b_Lsum (a_cons ((s_bin (o_add true) (s_v 6) ((s_lst (a_cons ((s_call (ok_Lminus T) (by decide) T.g_Lminus T.F_Lminus.kp T.b_Lminus (a_cons ((s_call (ok_Lproduct T) (by decide) T.g_Lproduct T.F_Lproduct.kp T.b_Lproduct (a_cons ((s_lst (a_cons (s_v 4) (a_cons (s_v 4) (a_cons (s_v 4) (a_nil)))))) (a_nil)))) (a_nil)))) (a_nil)))))) (a_nil)))) (a_nil))))) (a_nil)))))))) (b_cons (x_par 7 8 (a_cons ((s_call (ok_Lbetween T) (by decide) T.g_Lbetween T.F_Lbetween.kp T.b_Lbetween (a_cons ((s_ix (s_v 3) (s_int))) (a_cons ((s_ix (s_v 3) (s_int))) (a_nil))))) (a_cons ((s_call (ok_Lbetween T) (by decide) T.g_Lbetween T.F_Lbetween.kp T.b_Lbetween (a_cons ((s_ix (s_v 3) (s_int))) (a_cons ((s_ix (s_v 3) (s_int))) (a_nil))))) (a_nil))) (hw := by intro env h; cases env; cases h; rfl)) (b_cons (x_tas (a_cons ((s_ix (s_v 3) (s_int))) (a_cons ((s_ix ((s_ix (s_v 3) (s_int))) (s_int))) (a_nil))) (gd_cons (g_tup (n := 2) (gs_cons (g_name 4) (gs_cons (g_name 9) gs_nil))) (gd_cons (g_name 10) gd_nil))) (b_cons (x_asg ((s_call (ok_Lbetween T) (by decide) T.g_Lbetween T.F_Lbetween.kp T.b_Lbetween (a_cons ((s_tup (a_cons (s_v 4) (a_cons (s_v 7) (a_nil))))) (a_cons ((s_tup (a_cons ((s_ix ((s_ix (s_v 3) (s_int))) (s_int))) (a_cons (s_v 8) (a_nil))))) (a_nil))))) (g_name 11)) (b_cons (x_asg ((s_call (ok_Lsum T) (by decide) T.g_Lsum T.F_Lsum.kp T.b_Lsum (a_cons ((s_lst (a_cons (s_v 7) (a_cons ((s_call (ok_Lminus T) (by decide) T.g_Lminus T.F_Lminus.kp T.b_Lminus (a_cons ((s_call (ok_Lproduct T) (by decide) T.g_Lproduct T.F_Lproduct.kp T.b_Lproduct (a_cons ((s_lst (a_cons (s_v 11) (a_cons ((s_call (ok_Lsum T) (by decide) T.g_Lsum T.F_Lsum.kp T.b_Lsum (a_cons ((s_lst (a_cons (s_v 4) (a_cons (s_v 10) (a_nil))))) (a_nil)))) (a_nil))))) (a_nil)))) (a_nil)))) (a_nil))))) (a_nil)))) (g_name 12)) (b_cons (x_asg ((s_call (ok_Lsum T) (by decide) T.g_Lsum T.F_Lsum.kp T.b_Lsum (a_cons ((s_lst (a_cons (s_v 9) (a_cons ((s_call (ok_Lminus T) (by decide) T.g_Lminus T.F_Lminus.kp T.b_Lminus (a_cons ((s_call (ok_Lproduct T) (by decide) T.g_Lproduct T.F_Lproduct.kp T.b_Lproduct (a_cons ((s_lst (a_cons (s_v 11) (a_cons (s_v 4) (a_cons (s_v 4) (a_nil)))))) (a_nil)))) (a_nil)))) (a_cons ((s_call (ok_Lminus T) (by decide) T.g_Lminus T.F_Lminus.kp T.b_Lminus (a_cons ((s_call (ok_Lproduct T) (by decide) T.g_Lproduct T.F_Lproduct.kp T.b_Lproduct (a_cons ((s_lst (a_cons (s_v 12) (a_cons (s_v 4) (a_nil))))) (a_nil)))) (a_nil)))) (a_nil)))))) (a_nil)))) (g_name 13)) (b_one (x_ret ((s_tup (a_cons (s_v 0) (a_cons (s_v 11) (a_cons (s_v 1) (a_cons (s_v 12) (a_cons (s_v 13) (a_nil)))))))))))))))))) T.hX (fun v q h => nomatch h))
theorem ok_Lsome (T : TxtC C) : Fn C 5 T.f_Lsome T.d_Lsome ["_law_draw"] (spM C 1 m_Lsome) :=
  Fn.noq (fn_body (C := C.noq) (k := 4) (FunA.of T.F_Lsome) sc_Lsome (TxtC.uses T.noq fun T => show SB C.noq (defScope st_Lsome) N_Lsome 4 (defBody st_Lsome) B_Lsome from
    (b_cons (x_par 1 2 (a_cons ((s_cmp (o_eq) ((s_call (ok_Lnext T) (by decide) T.g_Lnext T.F_Lnext.kp T.b_Lnext (a_cons (s_v 0) (a_cons (s_int) (a_nil))))) (s_int))) (a_cons ((s_lso (a_nil))) (a_nil))) (hw := by intro env h; cases env; cases h; rfl)) (b_cons (x_while (t_cmp (o_lt) ((s_bf c_len T.n_len bt_len (a_cons (s_v 2) (a_nil)))) (s_int)) (b_cons (x_asg ((s_call (ok_Lsmall T) (by decide) T.g_Lsmall T.F_Lsmall.kp T.b_Lsmall (a_cons (s_v 0) (a_cons ((s_bin (o_add true) (s_int) ((s_bf c_len T.n_len bt_len (a_cons (s_v 2) (a_nil)))))) (a_cons (s_v 1) (a_nil)))))) (g_name 3)) (b_cons (x_asg ((s_if ((t_cmp (o_in2) (s_v 3) ((s_lc true [("_law_one", 4)] (i_row (s_v 2)) (g_name 4) c_yes ((s_ix (s_v 4) (s_int))))))) (s_v 3) ((s_tup (a_cons ((s_bin (o_add true) (s_int) ((s_bin (o_mul true) (s_int) ((s_bf c_len T.n_len bt_len (a_cons (s_v 2) (a_nil)))))))) (a_cons (s_int) (a_nil))))))) (g_name 3)) (b_one (x_exp ((s_met PySem.F.plainAttrs_list PySem.F.slot_list_append PySem.F.type_list_append m_app (s_v 2) (a_cons ((s_tup (a_cons (s_v 3) (a_cons ((s_call (ok_Lsmall T) (by decide) T.g_Lsmall T.F_Lsmall.kp T.b_Lsmall (a_cons (s_v 0) (a_cons (s_int) (a_cons (s_v 1) (a_nil)))))) (a_nil))))) (a_nil))))))))) (b_cons (x_par 5 6 (a_cons ((s_call (ok_Lsmall T) (by decide) T.g_Lsmall T.F_Lsmall.kp T.b_Lsmall (a_cons (s_v 0) (a_cons (s_int) (a_cons (s_bl) (a_nil)))))) (a_cons ((s_call (ok_Lsmall T) (by decide) T.g_Lsmall T.F_Lsmall.kp T.b_Lsmall (a_cons (s_v 0) (a_cons (s_int) (a_cons (s_bl) (a_nil)))))) (a_nil))) (hw := by intro env h; cases env; cases h; rfl)) (b_cons (x_for (i_r1 (a_cons (s_int) (a_nil)) T.n_range) (g_name 7) (b_cons (x_asg ((s_call (ok_Lthrough T) (by decide) T.g_Lthrough T.F_Lthrough.kp T.b_Lthrough (a_cons (s_v 5) (a_cons ((s_call (ok_Lsum T) (by decide) T.g_Lsum T.F_Lsum.kp T.b_Lsum (a_cons ((s_lst (a_cons (s_v 6) (a_cons ((s_tup (a_cons (s_v 7) (a_cons (s_int) (a_nil))))) (a_nil))))) (a_nil)))) (a_cons (s_v 2) (a_nil)))))) (g_name 8)) (b_one (x_if (t_val ((s_call (ok_Lis_single T) (by decide) T.g_Lis_single T.F_Lis_single.kp T.b_Lis_single (a_cons (s_v 8) (a_nil))))) (b_one (x_ret ((s_lst (a_cons (s_v 8) (a_cons ((s_frz (s_v 2))) (a_nil))))))) b_nil)))) (b_cons (x_tas (a_cons ((s_tup (a_cons ((s_neg (s_int))) (a_cons (s_int) (a_nil))))) (a_cons ((s_tup (a_cons (s_int) (a_cons (s_int) (a_nil))))) (a_nil))) (gd_cons (g_name 9) (gd_cons (g_name 10) gd_nil))) (b_one (x_ret ((s_lst (a_cons ((s_tup (a_cons (s_v 10) (a_cons (s_v 10) (a_cons ((s_tup (a_cons (s_int) (a_cons (s_int) (a_nil))))) (a_cons (s_v 9) (a_cons (s_v 10) (a_nil)))))))) (a_cons ((s_lst (a_cons ((s_tup (a_cons (s_v 10) (a_cons (s_v 10) (a_nil))))) (a_cons ((s_tup (a_cons ((s_tup (a_cons (s_int) (a_cons (s_int) (a_nil))))) (a_cons (s_v 10) (a_nil))))) (a_cons ((s_tup (a_cons (s_v 9) (a_cons (s_v 10) (a_nil))))) (a_nil)))))) (a_nil))))))))))))) T.hX (fun v q h => nomatch h))
theorem ok_Lcurve (T : TxtC C) : Fn C 2 T.f_Lcurve T.d_Lcurve ["_law_five"] (spM C 1 m_Lcurve) :=
  Fn.noq (fn_body (C := C.noq) (k := 1) (FunA.of T.F_Lcurve) sc_Lcurve (TxtC.uses T.noq fun T => show SB C.noq (defScope st_Lcurve) N_Lcurve 1 (defBody st_Lcurve) B_Lcurve from
    (b_one (x_ret ((s_bt c_tup T.n_tuple bt_tuple (a_cons ((s_lc true [("_law_one", 1)] (i_row (s_v 0)) (g_name 1) c_yes ((s_call (ok_Ltold T) (by decide) T.g_Ltold T.F_Ltold.kp T.b_Ltold (a_cons (s_v 1) (a_nil)))))) (a_nil))))))) T.hX (fun v q h => nomatch h))
theorem ok_Lpoint (T : TxtC C) : Fn C 2 T.f_Lpoint T.d_Lpoint ["_law_point_here"] (spM C 1 m_Lpoint) :=
  Fn.noq (fn_body (C := C.noq) (k := 1) (FunA.of T.F_Lpoint) sc_Lpoint (TxtC.uses T.noq fun T => show SB C.noq (defScope st_Lpoint) N_Lpoint 1 (defBody st_Lpoint) B_Lpoint from
    (b_one (x_ret ((s_if ((t_cmp (o_is) (s_v 0) (s_non))) (s_non) ((s_tup (a_cons ((s_call (ok_Ltold T) (by decide) T.g_Ltold T.F_Ltold.kp T.b_Ltold (a_cons ((s_ix (s_v 0) (s_int))) (a_nil)))) (a_cons ((s_call (ok_Ltold T) (by decide) T.g_Ltold T.F_Ltold.kp T.b_Ltold (a_cons ((s_ix (s_v 0) (s_int))) (a_nil)))) (a_nil)))))))))) T.hX (fun v q h => nomatch h))
theorem ok_Lopposite (T : TxtC C) : Fn C 3 T.f_Lopposite T.d_Lopposite ["_law_five", "_law_point_here"] (spM C 2 m_Lopposite) :=
  Fn.noq (fn_body (C := C.noq) (k := 2) (FunA.of T.F_Lopposite) sc_Lopposite (TxtC.uses T.noq fun T => show SB C.noq (defScope st_Lopposite) N_Lopposite 2 (defBody st_Lopposite) B_Lopposite from
    (b_cons (x_if (t_cmp (o_is) (s_v 1) (s_non)) (b_one (x_ret (s_non))) b_nil) (b_one (x_ret ((s_tup (a_cons ((s_ix (s_v 1) (s_int))) (a_cons ((s_call (ok_Lminus T) (by decide) T.g_Lminus T.F_Lminus.kp T.b_Lminus (a_cons ((s_call (ok_Lsum T) (by decide) T.g_Lsum T.F_Lsum.kp T.b_Lsum (a_cons ((s_lst (a_cons ((s_ix (s_v 1) (s_int))) (a_cons ((s_call (ok_Lproduct T) (by decide) T.g_Lproduct T.F_Lproduct.kp T.b_Lproduct (a_cons ((s_lst (a_cons ((s_ix (s_v 0) (s_int))) (a_cons ((s_ix (s_v 1) (s_int))) (a_nil))))) (a_nil)))) (a_cons ((s_ix (s_v 0) (s_int))) (a_nil)))))) (a_nil)))) (a_nil)))) (a_nil))))))))) T.hX (fun v q h => nomatch h))
theorem ok_Ladded (T : TxtC C) : Fn C 4 T.f_Ladded T.d_Ladded ["_law_five", "_law_one", "_law_other"] (spM C 3 m_Ladded) :=
  Fn.noq (fn_body (C := C.noq) (k := 3) (FunA.of T.F_Ladded) sc_Ladded (TxtC.uses T.noq fun T => show SB C.noq (defScope st_Ladded) N_Ladded 3 (defBody st_Ladded) B_Ladded from
    (b_cons (x_if (t_w (w_or ((t_cmp (o_is) (s_v 1) (s_non))) (w_or1 ((t_cmp (o_is) (s_v 2) (s_non)))))) (b_one (x_ret ((s_if ((t_cmp (o_is) (s_v 1) (s_non))) (s_v 2) (s_v 1))))) b_nil) (b_cons (x_if (t_cmp (o_eq) ((s_call (ok_Lopposite T) (by decide) T.g_Lopposite T.F_Lopposite.kp T.b_Lopposite (a_cons (s_v 0) (a_cons (s_v 1) (a_nil))))) (s_v 2)) (b_one (x_ret (s_non))) b_nil) (b_cons (x_tas (a_cons (s_v 1) (a_cons (s_v 0) (a_nil))) (gd_cons (g_tup (n := 2) (gs_cons (g_name 3) (gs_cons (g_name 4) gs_nil))) (gd_cons (g_tup (n := 5) (gs_cons (g_name 5) (gs_cons (g_name 6) (gs_cons (g_name 7) (gs_cons (g_name 8) (gs_cons (g_name 9) gs_nil)))))) gd_nil))) (b_cons (x_if (t_cmp (o_ne) (s_v 3) ((s_ix (s_v 2) (s_int)))) (b_one (x_asg ((s_call (ok_Lbetween T) (by decide) T.g_Lbetween T.F_Lbetween.kp T.b_Lbetween (a_cons (s_v 1) (a_cons (s_v 2) (a_nil))))) (g_name 10))) (b_cons (x_asg ((s_lst (a_cons ((s_call (ok_Lproduct T) (by decide) T.g_Lproduct T.F_Lproduct.kp T.b_Lproduct (a_cons ((s_lst (a_cons ((s_tup (a_cons (s_int) (a_cons (s_int) (a_nil))))) (a_cons (s_v 3) (a_cons (s_v 3) (a_nil)))))) (a_nil)))) (a_cons ((s_call (ok_Lproduct T) (by decide) T.g_Lproduct T.F_Lproduct.kp T.b_Lproduct (a_cons ((s_lst (a_cons ((s_tup (a_cons (s_int) (a_cons (s_int) (a_nil))))) (a_cons (s_v 6) (a_cons (s_v 3) (a_nil)))))) (a_nil)))) (a_cons (s_v 8) (a_cons ((s_call (ok_Lminus T) (by decide) T.g_Lminus T.F_Lminus.kp T.b_Lminus (a_cons ((s_call (ok_Lproduct T) (by decide) T.g_Lproduct T.F_Lproduct.kp T.b_Lproduct (a_cons ((s_lst (a_cons (s_v 5) (a_cons (s_v 4) (a_nil))))) (a_nil)))) (a_nil)))) (a_nil))))))) (g_name 11)) (b_one (x_asg ((s_call (ok_Lover T) (by decide) T.g_Lover T.F_Lover.kp T.b_Lover (a_cons ((s_call (ok_Lsum T) (by decide) T.g_Lsum T.F_Lsum.kp T.b_Lsum (a_cons (s_v 11) (a_nil)))) (a_cons ((s_call (ok_Lsum T) (by decide) T.g_Lsum T.F_Lsum.kp T.b_Lsum (a_cons ((s_lst (a_cons (s_v 4) (a_cons (s_v 4) (a_cons ((s_call (ok_Lproduct T) (by decide) T.g_Lproduct T.F_Lproduct.kp T.b_Lproduct (a_cons ((s_lst (a_cons (s_v 5) (a_cons (s_v 3) (a_nil))))) (a_nil)))) (a_cons (s_v 7) (a_nil))))))) (a_nil)))) (a_nil))))) (g_name 10))))) (b_cons (x_asg ((s_lst (a_cons ((s_call (ok_Lproduct T) (by decide) T.g_Lproduct T.F_Lproduct.kp T.b_Lproduct (a_cons ((s_lst (a_cons (s_v 10) (a_cons (s_v 10) (a_nil))))) (a_nil)))) (a_cons ((s_call (ok_Lproduct T) (by decide) T.g_Lproduct T.F_Lproduct.kp T.b_Lproduct (a_cons ((s_lst (a_cons (s_v 5) (a_cons (s_v 10) (a_nil))))) (a_nil)))) (a_cons ((s_call (ok_Lminus T) (by decide) T.g_Lminus T.F_Lminus.kp T.b_Lminus (a_cons (s_v 6) (a_nil)))) (a_cons ((s_call (ok_Lminus T) (by decide) T.g_Lminus T.F_Lminus.kp T.b_Lminus (a_cons (s_v 3) (a_nil)))) (a_nil))))))) (g_name 12)) (b_cons (x_asg ((s_call (ok_Lsum T) (by decide) T.g_Lsum T.F_Lsum.kp T.b_Lsum (a_cons ((s_bin (o_add true) (s_v 12) ((s_lst (a_cons ((s_call (ok_Lminus T) (by decide) T.g_Lminus T.F_Lminus.kp T.b_Lminus (a_cons ((s_ix (s_v 2) (s_int))) (a_nil)))) (a_nil)))))) (a_nil)))) (g_name 13)) (b_cons (x_asg ((s_call (ok_Lsum T) (by decide) T.g_Lsum T.F_Lsum.kp T.b_Lsum (a_cons ((s_lst (a_cons (s_v 4) (a_cons ((s_call (ok_Lproduct T) (by decide) T.g_Lproduct T.F_Lproduct.kp T.b_Lproduct (a_cons ((s_lst (a_cons (s_v 10) (a_cons ((s_call (ok_Lsum T) (by decide) T.g_Lsum T.F_Lsum.kp T.b_Lsum (a_cons ((s_lst (a_cons (s_v 13) (a_cons ((s_call (ok_Lminus T) (by decide) T.g_Lminus T.F_Lminus.kp T.b_Lminus (a_cons (s_v 3) (a_nil)))) (a_nil))))) (a_nil)))) (a_nil))))) (a_nil)))) (a_nil))))) (a_nil)))) (g_name 14)) (b_one (x_ret ((s_call (ok_Lopposite T) (by decide) T.g_Lopposite T.F_Lopposite.kp T.b_Lopposite (a_cons (s_v 0) (a_cons ((s_tup (a_cons (s_v 13) (a_cons (s_v 14) (a_nil))))) (a_nil))))))))))))))) T.hX (fun v q h => nomatch h))
theorem ok_Lfinite (T : TxtC C) : Fn C 3 T.f_Lfinite T.d_Lfinite ["_law_draw"] (spM C 1 m_Lfinite) :=
  Fn.noq (fn_body (C := C.noq) (k := 2) (FunA.of T.F_Lfinite) sc_Lfinite (TxtC.uses T.noq fun T => show SB C.noq (defScope st_Lfinite) N_Lfinite 2 (defBody st_Lfinite) B_Lfinite from
    (b_cons (x_par 1 2 (a_cons ((s_bin (o_add true) (s_int) ((s_call (ok_Lnext T) (by decide) T.g_Lnext T.F_Lnext.kp T.b_Lnext (a_cons (s_v 0) (a_cons (s_int) (a_nil))))))) (a_cons ((s_bin (o_add true) (s_int) ((s_call (ok_Lnext T) (by decide) T.g_Lnext T.F_Lnext.kp T.b_Lnext (a_cons (s_v 0) (a_cons (s_int) (a_nil))))))) (a_nil))) (hw := by intro env h; cases env; cases h; rfl)) (b_cons (x_par 3 4 (a_cons ((s_call (ok_Lnext T) (by decide) T.g_Lnext T.F_Lnext.kp T.b_Lnext (a_cons (s_v 0) (a_cons (s_int) (a_nil))))) (a_cons ((s_ix ((s_lst (a_cons (s_int) (a_cons ((s_neg (s_int))) (a_nil))))) ((s_call (ok_Lnext T) (by decide) T.g_Lnext T.F_Lnext.kp T.b_Lnext (a_cons (s_v 0) (a_cons (s_int) (a_nil))))))) (a_nil))) (hw := by intro env h; cases env; cases h; rfl)) (b_cons (x_if (t_cmp (o_eq) (s_v 3) (s_int)) (b_one (x_ret ((s_lst (a_cons ((s_tup (a_cons ((s_tup (a_cons (s_int) (a_cons (s_int) (a_nil))))) (a_cons ((s_tup (a_cons (s_v 1) (a_cons (s_int) (a_nil))))) (a_cons ((s_tup (a_cons (s_int) (a_cons (s_int) (a_nil))))) (a_cons ((s_tup (a_cons ((s_bin (o_mul true) (s_v 2) (s_v 4))) (a_cons (s_int) (a_nil))))) (a_cons ((s_tup (a_cons (s_int) (a_cons (s_int) (a_nil))))) (a_nil)))))))) (a_cons ((s_tup (a_cons ((s_tup (a_cons (s_int) (a_cons (s_int) (a_nil))))) (a_cons ((s_tup (a_cons (s_int) (a_cons (s_int) (a_nil))))) (a_nil))))) (a_cons (s_int) (a_nil)))))))) b_nil) (b_cons (x_if (t_cmp (o_eq) (s_v 3) (s_int)) (b_one (x_ret ((s_lst (a_cons ((s_tup (a_cons ((s_tup (a_cons (s_v 1) (a_cons (s_int) (a_nil))))) (a_cons ((s_tup (a_cons (s_int) (a_cons (s_int) (a_nil))))) (a_cons ((s_tup (a_cons ((s_bin (o_mul true) (s_v 2) (s_v 4))) (a_cons (s_int) (a_nil))))) (a_cons ((s_tup (a_cons (s_int) (a_cons (s_int) (a_nil))))) (a_cons ((s_tup (a_cons (s_int) (a_cons (s_int) (a_nil))))) (a_nil)))))))) (a_cons ((s_tup (a_cons ((s_tup (a_cons (s_int) (a_cons (s_int) (a_nil))))) (a_cons ((s_tup (a_cons (s_int) (a_cons (s_int) (a_nil))))) (a_nil))))) (a_cons (s_int) (a_nil)))))))) b_nil) (b_cons (x_asg ((s_call (ok_Llowest T) (by decide) T.g_Llowest T.F_Llowest.kp T.b_Llowest (a_cons ((s_bin (o_mul true) (s_v 1) (s_v 4))) (a_cons (s_v 2) (a_nil))))) (g_name 5)) (b_cons (x_asg ((s_ix ((s_lst (a_cons ((s_tup (a_cons ((s_tup (a_cons (s_int) (a_cons (s_int) (a_nil))))) (a_cons (s_v 5) (a_nil))))) (a_cons ((s_tup (a_cons (s_v 5) (a_cons (s_v 5) (a_nil))))) (a_cons ((s_tup (a_cons (s_v 5) (a_cons ((s_call (ok_Lsum T) (by decide) T.g_Lsum T.F_Lsum.kp T.b_Lsum (a_cons ((s_lst (a_cons (s_v 5) (a_cons ((s_call (ok_Lproduct T) (by decide) T.g_Lproduct T.F_Lproduct.kp T.b_Lproduct (a_cons ((s_lst (a_cons (s_v 5) (a_cons (s_v 5) (a_nil))))) (a_nil)))) (a_nil))))) (a_nil)))) (a_nil))))) (a_nil)))))) ((s_ix ((s_lst (a_cons (s_int) (a_cons (s_int) (a_cons (s_int) (a_cons (s_int) (a_cons (s_int) (a_cons (s_int) (a_nil))))))))) (s_v 3))))) (g_tup (n := 2) (gs_cons (g_name 6) (gs_cons (g_name 7) gs_nil)))) (b_cons (x_asg ((s_call (ok_Lminus T) (by decide) T.g_Lminus T.F_Lminus.kp T.b_Lminus (a_cons (s_v 7) (a_nil)))) (g_name 8)) (b_one (x_ret ((s_lst (a_cons ((s_tup (a_cons ((s_call (ok_Lsum T) (by decide) T.g_Lsum T.F_Lsum.kp T.b_Lsum (a_cons ((s_lst (a_cons ((s_tup (a_cons (s_int) (a_cons (s_int) (a_nil))))) (a_cons ((s_call (ok_Lminus T) (by decide) T.g_Lminus T.F_Lminus.kp T.b_Lminus (a_cons (s_v 6) (a_nil)))) (a_nil))))) (a_nil)))) (a_cons (s_v 8) (a_cons (s_v 8) (a_cons ((s_tup (a_cons (s_int) (a_cons (s_int) (a_nil))))) (a_cons ((s_tup (a_cons (s_int) (a_cons (s_int) (a_nil))))) (a_nil)))))))) (a_cons ((s_tup (a_cons ((s_tup (a_cons (s_int) (a_cons (s_int) (a_nil))))) (a_cons ((s_tup (a_cons (s_int) (a_cons (s_int) (a_nil))))) (a_nil))))) (a_cons ((s_ix ((s_lst (a_cons (s_int) (a_cons (s_int) (a_cons (s_int) (a_cons (s_int) (a_cons (s_int) (a_cons (s_int) (a_nil))))))))) (s_v 3))) (a_nil)))))))))))))))) T.hX (fun v q h => nomatch h))
theorem ok_Lround_right (T : TxtC C) (hrg : C.rg = true) : Fn C 10 T.f_Lround_right T.d_Lround_right ["_law_draw"] (spM C 1 m_Lround_right) :=
  Fn.noq (fn_body (C := C.noq) (k := 9) (FunA.of T.F_Lround_right) sc_Lround_right (TxtC.uses T.noq fun T => show SB C.noq (defScope st_Lround_right) N_Lround_right 9 (defBody st_Lround_right) B_Lround_right from
    (b_cons (x_asg ((s_call (ok_Lfinite T) (by decide) T.g_Lfinite T.F_Lfinite.kp T.b_Lfinite (a_cons (s_v 0) (a_nil)))) (g_tup (n := 3) (gs_cons (g_name 1) (gs_cons (g_name 2) (gs_cons (g_name 3) gs_nil))))) (b_cons (x_if (t_not (t_val ((s_call (ok_Lis_single T) (by decide) T.g_Lis_single T.F_Lis_single.kp T.b_Lis_single (a_cons (s_v 1) (a_nil)))))) (b_one (x_ret (s_bl))) b_nil) (b_cons (x_par3 4 5 6 (a_cons ((s_call (ok_Lcurve T) (by decide) T.g_Lcurve T.F_Lcurve.kp T.b_Lcurve (a_cons (s_v 1) (a_nil)))) (a_cons ((s_call (ok_Lpoint T) (by decide) T.g_Lpoint T.F_Lpoint.kp T.b_Lpoint (a_cons (s_v 2) (a_nil)))) (a_cons ((s_lso (a_cons (s_non) (a_nil)))) (a_nil)))) (hw := by intro env h; cases env; cases h; rfl)) (b_cons (x_for (i_r1 (a_cons ((s_bin (o_sub) (s_v 3) (s_int))) (a_nil)) T.n_range) (g_name 7) (b_one (x_exp ((s_met PySem.F.plainAttrs_list PySem.F.slot_list_append PySem.F.type_list_append m_app (s_v 6) (a_cons ((s_call (ok_Ladded T) (by decide) T.g_Ladded T.F_Ladded.kp T.b_Ladded (a_cons (s_v 1) (a_cons ((s_ix (s_v 6) ((s_neg (s_int))))) (a_cons (s_v 2) (a_nil)))))) (a_nil))))))) (b_cons (x_if (t_w (w_or ((t_cmp (o_in1) (s_non) ((s_slc true (s_v 6) (o_some (s_int)) o_none)))) (w_or1 ((t_cmp (o_isnot) ((s_call (ok_Ladded T) (by decide) T.g_Ladded T.F_Ladded.kp T.b_Ladded (a_cons (s_v 1) (a_cons ((s_ix (s_v 6) ((s_neg (s_int))))) (a_cons (s_v 2) (a_nil)))))) (s_non)))))) (b_one (x_ret (s_bl))) b_nil) (b_cons (x_for (i_lst ((s_lst (a_cons (s_int) (a_cons ((s_neg (s_int))) (a_cons (s_v 3) (a_cons ((s_bin (o_sub) ((s_call (ok_Lnext T) (by decide) T.g_Lnext T.F_Lnext.kp T.b_Lnext (a_cons (s_v 0) (a_cons (s_int) (a_nil))))) (s_int))) (a_cons ((s_bin (o_sub) ((s_call (ok_Lnext T) (by decide) T.g_Lnext T.F_Lnext.kp T.b_Lnext (a_cons (s_v 0) (a_cons (s_int) (a_nil))))) (s_int))) (a_nil))))))))) (g_name 8) (b_one (x_if (t_cmp (o_ne) ((s_bf (c_shw hrg T.dig) T.n_repr bt_repr (a_cons ((s_call (ok_times_point T) (by decide) T.g_times_point T.F_times_point.kp T.b_times_point (a_cons (s_v 4) (a_cons (s_v 8) (a_cons (s_v 5) (a_nil)))))) (a_nil)))) ((s_bf (c_shw hrg T.dig) T.n_repr bt_repr (a_cons ((s_call (ok_Lpoint T) (by decide) T.g_Lpoint T.F_Lpoint.kp T.b_Lpoint (a_cons ((s_ix (s_v 6) ((s_bin (o_mod) (s_v 8) (s_v 3))))) (a_nil)))) (a_nil))))) (b_one (x_ret (s_bl))) b_nil))) (b_one (x_ret ((s_call (ok_is_point T) (by decide) T.g_is_point T.F_is_point.kp T.b_is_point (a_cons (s_v 4) (a_cons (s_v 5) (a_nil)))))))))))))) T.hX (fun v q h => nomatch h))
theorem ok_law (T : TxtC C) (hrg : C.rg = true) : Fn C 11 T.f_law T.d_law ["_law_script"] (spM C 1 m_law) :=
  Fn.noq (fn_body (C := C.noq) (k := 10) (FunA.of T.F_law) sc_law (TxtC.uses T.noq fun T => show SB C.noq (defScope st_law) N_law 10 (defBody st_law) B_law from
    (b_cons (x_asg (s_slcR 3 (s_lcD true true [("_law_k", 2)] (id_of (i_r1 (a_cons ((s_bf c_max T.n_max bt_max (a_cons (s_int) (a_cons ((s_bf c_len T.n_len bt_len (a_cons (s_v 0) (a_nil)))) (a_nil))))) (a_nil)) T.n_range)) (g_name 2) c_yes ((s_call (ok_Ldraw_of T) (by decide) T.g_Ldraw_of T.F_Ldraw_of.kp T.b_Ldraw_of (a_cons (s_v 0) (a_cons (s_v 2) (a_nil)))))) (s_int)) (g_name 1)) (b_cons (x_asg ((s_call (ok_Lsome T) (by decide) T.g_Lsome T.F_Lsome.kp T.b_Lsome (a_cons ((s_rix (s_v 1) (s_int))) (a_nil)))) (g_tup (n := 2) (gs_cons (g_name 3) (gs_cons (g_name 4) gs_nil)))) (b_cons (x_tas (a_cons ((s_call (ok_Lcurve T) (by decide) T.g_Lcurve T.F_Lcurve.kp T.b_Lcurve (a_cons (s_v 3) (a_nil)))) (a_cons ((s_call (ok_Lpoint T) (by decide) T.g_Lpoint T.F_Lpoint.kp T.b_Lpoint (a_cons ((s_ix (s_v 4) (s_int))) (a_nil)))) (a_nil))) (gd_cons (g_name 5) (gd_cons (g_name 6) gd_nil))) (b_cons (x_asg ((s_lso (a_cons (s_non) (a_nil)))) (g_name 7)) (b_cons (x_for (i_r1 (a_cons (s_int) (a_nil)) T.n_range) (g_name 2) (b_one (x_exp ((s_met PySem.F.plainAttrs_list PySem.F.slot_list_append PySem.F.type_list_append m_app (s_v 7) (a_cons ((s_call (ok_Ladded T) (by decide) T.g_Ladded T.F_Ladded.kp T.b_Ladded (a_cons (s_v 3) (a_cons ((s_ix (s_v 7) ((s_neg (s_int))))) (a_cons ((s_ix (s_v 4) (s_int))) (a_nil)))))) (a_nil))))))) (b_cons (x_lc 8 true [("_law_k", 2)] (i_r1 (a_cons (s_int) (a_nil)) T.n_range) (g_name 2) c_yes ((s_call (ok_times_point T) (by decide) T.g_times_point T.F_times_point.kp T.b_times_point (a_cons (s_v 5) (a_cons (s_v 2) (a_cons (s_v 6) (a_nil))))))) (b_cons (x_if (t_cmp (o_ne) ((s_bf (c_shw hrg T.dig) T.n_repr bt_repr (a_cons (s_v 8) (a_nil)))) ((s_bf (c_shw hrg T.dig) T.n_repr bt_repr (a_cons ((s_lc true [("_law_one", 9)] (i_row (s_v 7)) (g_name 9) c_yes ((s_call (ok_Lpoint T) (by decide) T.g_Lpoint T.F_Lpoint.kp T.b_Lpoint (a_cons (s_v 9) (a_nil)))))) (a_nil))))) (b_one (x_ret (s_bl))) b_nil) (b_cons (x_lc 8 true [("_law_k", 2)] (i_r1 (a_cons (s_int) (a_nil)) T.n_range) (g_name 2) c_yes ((s_call (ok_times_point T) (by decide) T.g_times_point T.F_times_point.kp T.b_times_point (a_cons (s_v 5) (a_cons ((s_neg (s_v 2))) (a_cons (s_v 6) (a_nil))))))) (b_cons (x_if (t_cmp (o_ne) ((s_bf (c_shw hrg T.dig) T.n_repr bt_repr (a_cons (s_v 8) (a_nil)))) ((s_bf (c_shw hrg T.dig) T.n_repr bt_repr (a_cons ((s_lc true [("_law_one", 9)] (i_row ((s_slc true (s_v 7) o_none (o_some (s_int))))) (g_name 9) c_yes ((s_call (ok_Lpoint T) (by decide) T.g_Lpoint T.F_Lpoint.kp T.b_Lpoint (a_cons ((s_call (ok_Lopposite T) (by decide) T.g_Lopposite T.F_Lopposite.kp T.b_Lopposite (a_cons (s_v 3) (a_cons (s_v 9) (a_nil))))) (a_nil)))))) (a_nil))))) (b_one (x_ret (s_bl))) b_nil) (b_cons (x_par 10 11 (a_cons ((s_call (ok_Lnext T) (by decide) T.g_Lnext T.F_Lnext.kp T.b_Lnext (a_cons ((s_rix (s_v 1) (s_int))) (a_cons (s_int) (a_nil))))) (a_cons ((s_bin (o_sub) ((s_call (ok_Lnext T) (by decide) T.g_Lnext T.F_Lnext.kp T.b_Lnext (a_cons ((s_rix (s_v 1) (s_int))) (a_cons (s_int) (a_nil))))) (s_int))) (a_nil))) (hw := by intro env h; cases env; cases h; rfl)) (b_cons (x_asg ((s_call (ok_added T) (by decide) T.g_added T.F_added.kp T.b_added (a_cons (s_v 5) (a_cons ((s_call (ok_times_point T) (by decide) T.g_times_point T.F_times_point.kp T.b_times_point (a_cons (s_v 5) (a_cons (s_v 10) (a_cons (s_v 6) (a_nil)))))) (a_cons ((s_call (ok_times_point T) (by decide) T.g_times_point T.F_times_point.kp T.b_times_point (a_cons (s_v 5) (a_cons (s_v 11) (a_cons (s_v 6) (a_nil)))))) (a_nil)))))) (g_name 12)) (b_cons (x_if (t_cmp (o_ne) ((s_bf (c_shw hrg T.dig) T.n_repr bt_repr (a_cons (s_v 12) (a_nil)))) ((s_bf (c_shw hrg T.dig) T.n_repr bt_repr (a_cons ((s_call (ok_times_point T) (by decide) T.g_times_point T.F_times_point.kp T.b_times_point (a_cons (s_v 5) (a_cons ((s_bin (o_add true) (s_v 10) (s_v 11))) (a_cons (s_v 6) (a_nil)))))) (a_nil))))) (b_one (x_ret (s_bl))) b_nil) (b_cons (x_if (t_cmp (o_ne) ((s_bf (c_shw hrg T.dig) T.n_repr bt_repr (a_cons ((s_call (ok_times_point T) (by decide) T.g_times_point T.F_times_point.kp T.b_times_point (a_cons (s_v 5) (a_cons (s_int) (a_cons ((s_call (ok_times_point T) (by decide) T.g_times_point T.F_times_point.kp T.b_times_point (a_cons (s_v 5) (a_cons (s_v 11) (a_cons (s_v 6) (a_nil)))))) (a_nil)))))) (a_nil)))) ((s_bf (c_shw hrg T.dig) T.n_repr bt_repr (a_cons ((s_call (ok_times_point T) (by decide) T.g_times_point T.F_times_point.kp T.b_times_point (a_cons (s_v 5) (a_cons ((s_bin (o_mul true) (s_int) (s_v 11))) (a_cons (s_v 6) (a_nil)))))) (a_nil))))) (b_one (x_ret (s_bl))) b_nil) (b_cons (x_if (t_cmp (o_eq) ((s_call (ok_Lnext T) (by decide) T.g_Lnext T.F_Lnext.kp T.b_Lnext (a_cons ((s_rix (s_v 1) (s_int))) (a_cons (s_int) (a_nil))))) (s_int)) (b_cons (x_tas (a_cons ((s_tup (a_cons (s_int) (a_cons (s_int) (a_cons (s_int) (a_cons ((s_neg (s_int))) (a_cons (s_int) (a_nil)))))))) (a_cons ((s_tup (a_cons (s_int) (a_cons (s_int) (a_nil))))) (a_cons ((s_bin (o_add true) (s_int) ((s_call (ok_Lnext T) (by decide) T.g_Lnext T.F_Lnext.kp T.b_Lnext (a_cons ((s_rix (s_v 1) (s_int))) (a_cons (s_int) (a_nil))))))) (a_nil)))) (gd_cons (g_name 5) (gd_cons (g_name 6) (gd_cons (g_name 13) gd_nil)))) (b_cons (x_asg ((s_call (ok_times_point T) (by decide) T.g_times_point T.F_times_point.kp T.b_times_point (a_cons (s_v 5) (a_cons (s_int) (a_cons (s_v 6) (a_nil)))))) (g_name 14)) (b_cons (x_asg ((s_lst (a_cons ((s_call (ok_times_point T) (by decide) T.g_times_point T.F_times_point.kp T.b_times_point (a_cons (s_v 5) (a_cons (s_v 13) (a_cons (s_v 6) (a_nil)))))) (a_cons ((s_call (ok_times_point T) (by decide) T.g_times_point T.F_times_point.kp T.b_times_point (a_cons (s_v 5) (a_cons ((s_bin (o_sub) (s_int) (s_v 13))) (a_cons (s_v 6) (a_nil)))))) (a_nil))))) (g_name 12)) (b_one (x_if (t_w (w_or ((t_cmp (o_is) (s_v 14) (s_non))) (w_or ((t_cmp (o_ne) (s_v 14) ((s_call (ok_added T) (by decide) T.g_added T.F_added.kp T.b_added (a_cons (s_v 5) (a_cons ((s_ix (s_v 12) (s_int))) (a_cons ((s_ix (s_v 12) (s_int))) (a_nil)))))))) (w_or1 ((t_cmp (o_ne) ((s_call (ok_times_point T) (by decide) T.g_times_point T.F_times_point.kp T.b_times_point (a_cons (s_v 5) (a_cons ((s_neg (s_int))) (a_cons (s_v 6) (a_nil)))))) ((s_call (ok_opposite T) (by decide) T.g_opposite T.F_opposite.kp T.b_opposite (a_cons (s_v 5) (a_cons (s_v 14) (a_nil))))))))))) (b_one (x_ret (s_bl))) b_nil))))) b_nil) (b_one (x_ret ((s_cmp (o_eq) ((s_lcD false true [("_law_draw", 15)] (id_row (s_v 1)) (g_name 15) (c_if (t_not (t_val ((s_call (ok_Lround_right T hrg) (by decide) T.g_Lround_right T.F_Lround_right.kp T.b_Lround_right (a_cons (s_v 15) (a_nil))))))) (s_int))) ((s_lst (a_nil)))))))))))))))))))))) T.hX (fun v q h => nomatch h))
end
def mkT {K : PySem.W.Frag} {h : Heap} {mg : Str → Option Value} {ts : List Addr} (X : K.In h) (G : h.Ns mainGlobals mg)
    {f_is_number f_common f_is_fraction f_pair_of f_lowest f_sum_of_two f_product f_turned f_quotient f_summed f_halves_of f_d_of f_is_curve f_need_curve f_together_of f_is_on f_need_point f_opposite_of f_slope_of f_sum_on f_multiple_on f_is_point f_opposite f_added f_times_point f_Ldraw_of f_Lnext f_Llowest f_Lsum f_Lproduct f_Lminus f_Lover f_Ltold f_Lsmall f_Lis_single f_Lbetween f_Lthrough f_Lsome f_Lcurve f_Lpoint f_Lopposite f_Ladded f_Lfinite f_Lround_right f_law : Addr}
    {od0 an0 : Option Addr} {sl0 : Array (Option Value)} {oc0 kV0 dc0 pm0 cd0 ct0 : Value}
    (a0 : PySem.W.nsIn K mainGlobals "is_number" = some (some (.ref f_is_number))) (l0 : K.lookup f_is_number = some ⟨oc0, od0, .func (PySem.W.fnOf "is_number" "is_number" (defArgs st_is_number) (defBody st_is_number) (defScope st_is_number) .none kV0 dc0 pm0 an0 cd0 ct0), sl0⟩) (c0 : PySem.W.codeIn K cd0 "is_number" = true) (k0 : PySem.W.keepIn K (.ref f_is_number) = true)
    {od1 an1 : Option Addr} {sl1 : Array (Option Value)} {oc1 kV1 dc1 pm1 cd1 ct1 : Value}
    (a1 : PySem.W.nsIn K mainGlobals "common" = some (some (.ref f_common))) (l1 : K.lookup f_common = some ⟨oc1, od1, .func (PySem.W.fnOf "common" "common" (defArgs st_common) (defBody st_common) (defScope st_common) .none kV1 dc1 pm1 an1 cd1 ct1), sl1⟩) (c1 : PySem.W.codeIn K cd1 "common" = true) (k1 : PySem.W.keepIn K (.ref f_common) = true)
    {od2 an2 : Option Addr} {sl2 : Array (Option Value)} {oc2 kV2 dc2 pm2 cd2 ct2 : Value}
    (a2 : PySem.W.nsIn K mainGlobals "is_fraction" = some (some (.ref f_is_fraction))) (l2 : K.lookup f_is_fraction = some ⟨oc2, od2, .func (PySem.W.fnOf "is_fraction" "is_fraction" (defArgs st_is_fraction) (defBody st_is_fraction) (defScope st_is_fraction) .none kV2 dc2 pm2 an2 cd2 ct2), sl2⟩) (c2 : PySem.W.codeIn K cd2 "is_fraction" = true) (k2 : PySem.W.keepIn K (.ref f_is_fraction) = true)
    {od3 an3 : Option Addr} {sl3 : Array (Option Value)} {oc3 kV3 dc3 pm3 cd3 ct3 : Value}
    (a3 : PySem.W.nsIn K mainGlobals "pair_of" = some (some (.ref f_pair_of))) (l3 : K.lookup f_pair_of = some ⟨oc3, od3, .func (PySem.W.fnOf "pair_of" "pair_of" (defArgs st_pair_of) (defBody st_pair_of) (defScope st_pair_of) .none kV3 dc3 pm3 an3 cd3 ct3), sl3⟩) (c3 : PySem.W.codeIn K cd3 "pair_of" = true) (k3 : PySem.W.keepIn K (.ref f_pair_of) = true)
    {od4 an4 : Option Addr} {sl4 : Array (Option Value)} {oc4 kV4 dc4 pm4 cd4 ct4 : Value}
    (a4 : PySem.W.nsIn K mainGlobals "lowest" = some (some (.ref f_lowest))) (l4 : K.lookup f_lowest = some ⟨oc4, od4, .func (PySem.W.fnOf "lowest" "lowest" (defArgs st_lowest) (defBody st_lowest) (defScope st_lowest) .none kV4 dc4 pm4 an4 cd4 ct4), sl4⟩) (c4 : PySem.W.codeIn K cd4 "lowest" = true) (k4 : PySem.W.keepIn K (.ref f_lowest) = true)
    {od5 an5 : Option Addr} {sl5 : Array (Option Value)} {oc5 kV5 dc5 pm5 cd5 ct5 : Value}
    (a5 : PySem.W.nsIn K mainGlobals "sum_of_two" = some (some (.ref f_sum_of_two))) (l5 : K.lookup f_sum_of_two = some ⟨oc5, od5, .func (PySem.W.fnOf "sum_of_two" "sum_of_two" (defArgs st_sum_of_two) (defBody st_sum_of_two) (defScope st_sum_of_two) .none kV5 dc5 pm5 an5 cd5 ct5), sl5⟩) (c5 : PySem.W.codeIn K cd5 "sum_of_two" = true) (k5 : PySem.W.keepIn K (.ref f_sum_of_two) = true)
    {od6 an6 : Option Addr} {sl6 : Array (Option Value)} {oc6 kV6 dc6 pm6 cd6 ct6 : Value}
    (a6 : PySem.W.nsIn K mainGlobals "product" = some (some (.ref f_product))) (l6 : K.lookup f_product = some ⟨oc6, od6, .func (PySem.W.fnOf "product" "product" (defArgs st_product) (defBody st_product) (defScope st_product) .none kV6 dc6 pm6 an6 cd6 ct6), sl6⟩) (c6 : PySem.W.codeIn K cd6 "product" = true) (k6 : PySem.W.keepIn K (.ref f_product) = true)
    {od7 an7 : Option Addr} {sl7 : Array (Option Value)} {oc7 kV7 dc7 pm7 cd7 ct7 : Value}
    (a7 : PySem.W.nsIn K mainGlobals "turned" = some (some (.ref f_turned))) (l7 : K.lookup f_turned = some ⟨oc7, od7, .func (PySem.W.fnOf "turned" "turned" (defArgs st_turned) (defBody st_turned) (defScope st_turned) .none kV7 dc7 pm7 an7 cd7 ct7), sl7⟩) (c7 : PySem.W.codeIn K cd7 "turned" = true) (k7 : PySem.W.keepIn K (.ref f_turned) = true)
    {od8 an8 : Option Addr} {sl8 : Array (Option Value)} {oc8 kV8 dc8 pm8 cd8 ct8 : Value}
    (a8 : PySem.W.nsIn K mainGlobals "quotient" = some (some (.ref f_quotient))) (l8 : K.lookup f_quotient = some ⟨oc8, od8, .func (PySem.W.fnOf "quotient" "quotient" (defArgs st_quotient) (defBody st_quotient) (defScope st_quotient) .none kV8 dc8 pm8 an8 cd8 ct8), sl8⟩) (c8 : PySem.W.codeIn K cd8 "quotient" = true) (k8 : PySem.W.keepIn K (.ref f_quotient) = true)
    {od9 an9 : Option Addr} {sl9 : Array (Option Value)} {oc9 kV9 dc9 pm9 cd9 ct9 : Value}
    (a9 : PySem.W.nsIn K mainGlobals "summed" = some (some (.ref f_summed))) (l9 : K.lookup f_summed = some ⟨oc9, od9, .func (PySem.W.fnOf "summed" "summed" (defArgs st_summed) (defBody st_summed) (defScope st_summed) .none kV9 dc9 pm9 an9 cd9 ct9), sl9⟩) (c9 : PySem.W.codeIn K cd9 "summed" = true) (k9 : PySem.W.keepIn K (.ref f_summed) = true)
    {od10 an10 : Option Addr} {sl10 : Array (Option Value)} {oc10 kV10 dc10 pm10 cd10 ct10 : Value}
    (a10 : PySem.W.nsIn K mainGlobals "halves_of" = some (some (.ref f_halves_of))) (l10 : K.lookup f_halves_of = some ⟨oc10, od10, .func (PySem.W.fnOf "halves_of" "halves_of" (defArgs st_halves_of) (defBody st_halves_of) (defScope st_halves_of) .none kV10 dc10 pm10 an10 cd10 ct10), sl10⟩) (c10 : PySem.W.codeIn K cd10 "halves_of" = true) (k10 : PySem.W.keepIn K (.ref f_halves_of) = true)
    {od11 an11 : Option Addr} {sl11 : Array (Option Value)} {oc11 kV11 dc11 pm11 cd11 ct11 : Value}
    (a11 : PySem.W.nsIn K mainGlobals "d_of" = some (some (.ref f_d_of))) (l11 : K.lookup f_d_of = some ⟨oc11, od11, .func (PySem.W.fnOf "d_of" "d_of" (defArgs st_d_of) (defBody st_d_of) (defScope st_d_of) .none kV11 dc11 pm11 an11 cd11 ct11), sl11⟩) (c11 : PySem.W.codeIn K cd11 "d_of" = true) (k11 : PySem.W.keepIn K (.ref f_d_of) = true)
    {od12 an12 : Option Addr} {sl12 : Array (Option Value)} {oc12 kV12 dc12 pm12 cd12 ct12 : Value}
    (a12 : PySem.W.nsIn K mainGlobals "is_curve" = some (some (.ref f_is_curve))) (l12 : K.lookup f_is_curve = some ⟨oc12, od12, .func (PySem.W.fnOf "is_curve" "is_curve" (defArgs st_is_curve) (defBody st_is_curve) (defScope st_is_curve) .none kV12 dc12 pm12 an12 cd12 ct12), sl12⟩) (c12 : PySem.W.codeIn K cd12 "is_curve" = true) (k12 : PySem.W.keepIn K (.ref f_is_curve) = true)
    {od13 an13 : Option Addr} {sl13 : Array (Option Value)} {oc13 kV13 dc13 pm13 cd13 ct13 : Value}
    (a13 : PySem.W.nsIn K mainGlobals "need_curve" = some (some (.ref f_need_curve))) (l13 : K.lookup f_need_curve = some ⟨oc13, od13, .func (PySem.W.fnOf "need_curve" "need_curve" (defArgs st_need_curve) (defBody st_need_curve) (defScope st_need_curve) .none kV13 dc13 pm13 an13 cd13 ct13), sl13⟩) (c13 : PySem.W.codeIn K cd13 "need_curve" = true) (k13 : PySem.W.keepIn K (.ref f_need_curve) = true)
    {od14 an14 : Option Addr} {sl14 : Array (Option Value)} {oc14 kV14 dc14 pm14 cd14 ct14 : Value}
    (a14 : PySem.W.nsIn K mainGlobals "together_of" = some (some (.ref f_together_of))) (l14 : K.lookup f_together_of = some ⟨oc14, od14, .func (PySem.W.fnOf "together_of" "together_of" (defArgs st_together_of) (defBody st_together_of) (defScope st_together_of) .none kV14 dc14 pm14 an14 cd14 ct14), sl14⟩) (c14 : PySem.W.codeIn K cd14 "together_of" = true) (k14 : PySem.W.keepIn K (.ref f_together_of) = true)
    {od15 an15 : Option Addr} {sl15 : Array (Option Value)} {oc15 kV15 dc15 pm15 cd15 ct15 : Value}
    (a15 : PySem.W.nsIn K mainGlobals "is_on" = some (some (.ref f_is_on))) (l15 : K.lookup f_is_on = some ⟨oc15, od15, .func (PySem.W.fnOf "is_on" "is_on" (defArgs st_is_on) (defBody st_is_on) (defScope st_is_on) .none kV15 dc15 pm15 an15 cd15 ct15), sl15⟩) (c15 : PySem.W.codeIn K cd15 "is_on" = true) (k15 : PySem.W.keepIn K (.ref f_is_on) = true)
    {od16 an16 : Option Addr} {sl16 : Array (Option Value)} {oc16 kV16 dc16 pm16 cd16 ct16 : Value}
    (a16 : PySem.W.nsIn K mainGlobals "need_point" = some (some (.ref f_need_point))) (l16 : K.lookup f_need_point = some ⟨oc16, od16, .func (PySem.W.fnOf "need_point" "need_point" (defArgs st_need_point) (defBody st_need_point) (defScope st_need_point) .none kV16 dc16 pm16 an16 cd16 ct16), sl16⟩) (c16 : PySem.W.codeIn K cd16 "need_point" = true) (k16 : PySem.W.keepIn K (.ref f_need_point) = true)
    {od17 an17 : Option Addr} {sl17 : Array (Option Value)} {oc17 kV17 dc17 pm17 cd17 ct17 : Value}
    (a17 : PySem.W.nsIn K mainGlobals "opposite_of" = some (some (.ref f_opposite_of))) (l17 : K.lookup f_opposite_of = some ⟨oc17, od17, .func (PySem.W.fnOf "opposite_of" "opposite_of" (defArgs st_opposite_of) (defBody st_opposite_of) (defScope st_opposite_of) .none kV17 dc17 pm17 an17 cd17 ct17), sl17⟩) (c17 : PySem.W.codeIn K cd17 "opposite_of" = true) (k17 : PySem.W.keepIn K (.ref f_opposite_of) = true)
    {od18 an18 : Option Addr} {sl18 : Array (Option Value)} {oc18 kV18 dc18 pm18 cd18 ct18 : Value}
    (a18 : PySem.W.nsIn K mainGlobals "slope_of" = some (some (.ref f_slope_of))) (l18 : K.lookup f_slope_of = some ⟨oc18, od18, .func (PySem.W.fnOf "slope_of" "slope_of" (defArgs st_slope_of) (defBody st_slope_of) (defScope st_slope_of) .none kV18 dc18 pm18 an18 cd18 ct18), sl18⟩) (c18 : PySem.W.codeIn K cd18 "slope_of" = true) (k18 : PySem.W.keepIn K (.ref f_slope_of) = true)
    {od19 an19 : Option Addr} {sl19 : Array (Option Value)} {oc19 kV19 dc19 pm19 cd19 ct19 : Value}
    (a19 : PySem.W.nsIn K mainGlobals "sum_on" = some (some (.ref f_sum_on))) (l19 : K.lookup f_sum_on = some ⟨oc19, od19, .func (PySem.W.fnOf "sum_on" "sum_on" (defArgs st_sum_on) (defBody st_sum_on) (defScope st_sum_on) .none kV19 dc19 pm19 an19 cd19 ct19), sl19⟩) (c19 : PySem.W.codeIn K cd19 "sum_on" = true) (k19 : PySem.W.keepIn K (.ref f_sum_on) = true)
    {od20 an20 : Option Addr} {sl20 : Array (Option Value)} {oc20 kV20 dc20 pm20 cd20 ct20 : Value}
    (a20 : PySem.W.nsIn K mainGlobals "multiple_on" = some (some (.ref f_multiple_on))) (l20 : K.lookup f_multiple_on = some ⟨oc20, od20, .func (PySem.W.fnOf "multiple_on" "multiple_on" (defArgs st_multiple_on) (defBody st_multiple_on) (defScope st_multiple_on) .none kV20 dc20 pm20 an20 cd20 ct20), sl20⟩) (c20 : PySem.W.codeIn K cd20 "multiple_on" = true) (k20 : PySem.W.keepIn K (.ref f_multiple_on) = true)
    {od21 an21 : Option Addr} {sl21 : Array (Option Value)} {oc21 kV21 dc21 pm21 cd21 ct21 : Value}
    (a21 : PySem.W.nsIn K mainGlobals "is_point" = some (some (.ref f_is_point))) (l21 : K.lookup f_is_point = some ⟨oc21, od21, .func (PySem.W.fnOf "is_point" "is_point" (defArgs st_is_point) (defBody st_is_point) (defScope st_is_point) .none kV21 dc21 pm21 an21 cd21 ct21), sl21⟩) (c21 : PySem.W.codeIn K cd21 "is_point" = true) (k21 : PySem.W.keepIn K (.ref f_is_point) = true)
    {od22 an22 : Option Addr} {sl22 : Array (Option Value)} {oc22 kV22 dc22 pm22 cd22 ct22 : Value}
    (a22 : PySem.W.nsIn K mainGlobals "opposite" = some (some (.ref f_opposite))) (l22 : K.lookup f_opposite = some ⟨oc22, od22, .func (PySem.W.fnOf "opposite" "opposite" (defArgs st_opposite) (defBody st_opposite) (defScope st_opposite) .none kV22 dc22 pm22 an22 cd22 ct22), sl22⟩) (c22 : PySem.W.codeIn K cd22 "opposite" = true) (k22 : PySem.W.keepIn K (.ref f_opposite) = true)
    {od23 an23 : Option Addr} {sl23 : Array (Option Value)} {oc23 kV23 dc23 pm23 cd23 ct23 : Value}
    (a23 : PySem.W.nsIn K mainGlobals "added" = some (some (.ref f_added))) (l23 : K.lookup f_added = some ⟨oc23, od23, .func (PySem.W.fnOf "added" "added" (defArgs st_added) (defBody st_added) (defScope st_added) .none kV23 dc23 pm23 an23 cd23 ct23), sl23⟩) (c23 : PySem.W.codeIn K cd23 "added" = true) (k23 : PySem.W.keepIn K (.ref f_added) = true)
    {od24 an24 : Option Addr} {sl24 : Array (Option Value)} {oc24 kV24 dc24 pm24 cd24 ct24 : Value}
    (a24 : PySem.W.nsIn K mainGlobals "times_point" = some (some (.ref f_times_point))) (l24 : K.lookup f_times_point = some ⟨oc24, od24, .func (PySem.W.fnOf "times_point" "times_point" (defArgs st_times_point) (defBody st_times_point) (defScope st_times_point) .none kV24 dc24 pm24 an24 cd24 ct24), sl24⟩) (c24 : PySem.W.codeIn K cd24 "times_point" = true) (k24 : PySem.W.keepIn K (.ref f_times_point) = true)
    {od25 an25 : Option Addr} {sl25 : Array (Option Value)} {oc25 kV25 dc25 pm25 cd25 ct25 : Value}
    (a25 : PySem.W.nsIn K mainGlobals "_law_draw_of" = some (some (.ref f_Ldraw_of))) (l25 : K.lookup f_Ldraw_of = some ⟨oc25, od25, .func (PySem.W.fnOf "_law_draw_of" "_law_draw_of" (defArgs st_Ldraw_of) (defBody st_Ldraw_of) (defScope st_Ldraw_of) .none kV25 dc25 pm25 an25 cd25 ct25), sl25⟩) (c25 : PySem.W.codeIn K cd25 "_law_draw_of" = true) (k25 : PySem.W.keepIn K (.ref f_Ldraw_of) = true)
    {od26 an26 : Option Addr} {sl26 : Array (Option Value)} {oc26 kV26 dc26 pm26 cd26 ct26 : Value}
    (a26 : PySem.W.nsIn K mainGlobals "_law_next" = some (some (.ref f_Lnext))) (l26 : K.lookup f_Lnext = some ⟨oc26, od26, .func (PySem.W.fnOf "_law_next" "_law_next" (defArgs st_Lnext) (defBody st_Lnext) (defScope st_Lnext) .none kV26 dc26 pm26 an26 cd26 ct26), sl26⟩) (c26 : PySem.W.codeIn K cd26 "_law_next" = true) (k26 : PySem.W.keepIn K (.ref f_Lnext) = true)
    {od27 an27 : Option Addr} {sl27 : Array (Option Value)} {oc27 kV27 dc27 pm27 cd27 ct27 : Value}
    (a27 : PySem.W.nsIn K mainGlobals "_law_lowest" = some (some (.ref f_Llowest))) (l27 : K.lookup f_Llowest = some ⟨oc27, od27, .func (PySem.W.fnOf "_law_lowest" "_law_lowest" (defArgs st_Llowest) (defBody st_Llowest) (defScope st_Llowest) .none kV27 dc27 pm27 an27 cd27 ct27), sl27⟩) (c27 : PySem.W.codeIn K cd27 "_law_lowest" = true) (k27 : PySem.W.keepIn K (.ref f_Llowest) = true)
    {od28 an28 : Option Addr} {sl28 : Array (Option Value)} {oc28 kV28 dc28 pm28 cd28 ct28 : Value}
    (a28 : PySem.W.nsIn K mainGlobals "_law_sum" = some (some (.ref f_Lsum))) (l28 : K.lookup f_Lsum = some ⟨oc28, od28, .func (PySem.W.fnOf "_law_sum" "_law_sum" (defArgs st_Lsum) (defBody st_Lsum) (defScope st_Lsum) .none kV28 dc28 pm28 an28 cd28 ct28), sl28⟩) (c28 : PySem.W.codeIn K cd28 "_law_sum" = true) (k28 : PySem.W.keepIn K (.ref f_Lsum) = true)
    {od29 an29 : Option Addr} {sl29 : Array (Option Value)} {oc29 kV29 dc29 pm29 cd29 ct29 : Value}
    (a29 : PySem.W.nsIn K mainGlobals "_law_product" = some (some (.ref f_Lproduct))) (l29 : K.lookup f_Lproduct = some ⟨oc29, od29, .func (PySem.W.fnOf "_law_product" "_law_product" (defArgs st_Lproduct) (defBody st_Lproduct) (defScope st_Lproduct) .none kV29 dc29 pm29 an29 cd29 ct29), sl29⟩) (c29 : PySem.W.codeIn K cd29 "_law_product" = true) (k29 : PySem.W.keepIn K (.ref f_Lproduct) = true)
    {od30 an30 : Option Addr} {sl30 : Array (Option Value)} {oc30 kV30 dc30 pm30 cd30 ct30 : Value}
    (a30 : PySem.W.nsIn K mainGlobals "_law_minus" = some (some (.ref f_Lminus))) (l30 : K.lookup f_Lminus = some ⟨oc30, od30, .func (PySem.W.fnOf "_law_minus" "_law_minus" (defArgs st_Lminus) (defBody st_Lminus) (defScope st_Lminus) .none kV30 dc30 pm30 an30 cd30 ct30), sl30⟩) (c30 : PySem.W.codeIn K cd30 "_law_minus" = true) (k30 : PySem.W.keepIn K (.ref f_Lminus) = true)
    {od31 an31 : Option Addr} {sl31 : Array (Option Value)} {oc31 kV31 dc31 pm31 cd31 ct31 : Value}
    (a31 : PySem.W.nsIn K mainGlobals "_law_over" = some (some (.ref f_Lover))) (l31 : K.lookup f_Lover = some ⟨oc31, od31, .func (PySem.W.fnOf "_law_over" "_law_over" (defArgs st_Lover) (defBody st_Lover) (defScope st_Lover) .none kV31 dc31 pm31 an31 cd31 ct31), sl31⟩) (c31 : PySem.W.codeIn K cd31 "_law_over" = true) (k31 : PySem.W.keepIn K (.ref f_Lover) = true)
    {od32 an32 : Option Addr} {sl32 : Array (Option Value)} {oc32 kV32 dc32 pm32 cd32 ct32 : Value}
    (a32 : PySem.W.nsIn K mainGlobals "_law_told" = some (some (.ref f_Ltold))) (l32 : K.lookup f_Ltold = some ⟨oc32, od32, .func (PySem.W.fnOf "_law_told" "_law_told" (defArgs st_Ltold) (defBody st_Ltold) (defScope st_Ltold) .none kV32 dc32 pm32 an32 cd32 ct32), sl32⟩) (c32 : PySem.W.codeIn K cd32 "_law_told" = true) (k32 : PySem.W.keepIn K (.ref f_Ltold) = true)
    {od33 an33 : Option Addr} {sl33 : Array (Option Value)} {oc33 kV33 dc33 pm33 cd33 ct33 : Value}
    (a33 : PySem.W.nsIn K mainGlobals "_law_small" = some (some (.ref f_Lsmall))) (l33 : K.lookup f_Lsmall = some ⟨oc33, od33, .func (PySem.W.fnOf "_law_small" "_law_small" (defArgs st_Lsmall) (defBody st_Lsmall) (defScope st_Lsmall) .none kV33 dc33 pm33 an33 cd33 ct33), sl33⟩) (c33 : PySem.W.codeIn K cd33 "_law_small" = true) (k33 : PySem.W.keepIn K (.ref f_Lsmall) = true)
    {od34 an34 : Option Addr} {sl34 : Array (Option Value)} {oc34 kV34 dc34 pm34 cd34 ct34 : Value}
    (a34 : PySem.W.nsIn K mainGlobals "_law_is_single" = some (some (.ref f_Lis_single))) (l34 : K.lookup f_Lis_single = some ⟨oc34, od34, .func (PySem.W.fnOf "_law_is_single" "_law_is_single" (defArgs st_Lis_single) (defBody st_Lis_single) (defScope st_Lis_single) .none kV34 dc34 pm34 an34 cd34 ct34), sl34⟩) (c34 : PySem.W.codeIn K cd34 "_law_is_single" = true) (k34 : PySem.W.keepIn K (.ref f_Lis_single) = true)
    {od35 an35 : Option Addr} {sl35 : Array (Option Value)} {oc35 kV35 dc35 pm35 cd35 ct35 : Value}
    (a35 : PySem.W.nsIn K mainGlobals "_law_between" = some (some (.ref f_Lbetween))) (l35 : K.lookup f_Lbetween = some ⟨oc35, od35, .func (PySem.W.fnOf "_law_between" "_law_between" (defArgs st_Lbetween) (defBody st_Lbetween) (defScope st_Lbetween) .none kV35 dc35 pm35 an35 cd35 ct35), sl35⟩) (c35 : PySem.W.codeIn K cd35 "_law_between" = true) (k35 : PySem.W.keepIn K (.ref f_Lbetween) = true)
    {od36 an36 : Option Addr} {sl36 : Array (Option Value)} {oc36 kV36 dc36 pm36 cd36 ct36 : Value}
    (a36 : PySem.W.nsIn K mainGlobals "_law_through" = some (some (.ref f_Lthrough))) (l36 : K.lookup f_Lthrough = some ⟨oc36, od36, .func (PySem.W.fnOf "_law_through" "_law_through" (defArgs st_Lthrough) (defBody st_Lthrough) (defScope st_Lthrough) .none kV36 dc36 pm36 an36 cd36 ct36), sl36⟩) (c36 : PySem.W.codeIn K cd36 "_law_through" = true) (k36 : PySem.W.keepIn K (.ref f_Lthrough) = true)
    {od37 an37 : Option Addr} {sl37 : Array (Option Value)} {oc37 kV37 dc37 pm37 cd37 ct37 : Value}
    (a37 : PySem.W.nsIn K mainGlobals "_law_some" = some (some (.ref f_Lsome))) (l37 : K.lookup f_Lsome = some ⟨oc37, od37, .func (PySem.W.fnOf "_law_some" "_law_some" (defArgs st_Lsome) (defBody st_Lsome) (defScope st_Lsome) .none kV37 dc37 pm37 an37 cd37 ct37), sl37⟩) (c37 : PySem.W.codeIn K cd37 "_law_some" = true) (k37 : PySem.W.keepIn K (.ref f_Lsome) = true)
    {od38 an38 : Option Addr} {sl38 : Array (Option Value)} {oc38 kV38 dc38 pm38 cd38 ct38 : Value}
    (a38 : PySem.W.nsIn K mainGlobals "_law_curve" = some (some (.ref f_Lcurve))) (l38 : K.lookup f_Lcurve = some ⟨oc38, od38, .func (PySem.W.fnOf "_law_curve" "_law_curve" (defArgs st_Lcurve) (defBody st_Lcurve) (defScope st_Lcurve) .none kV38 dc38 pm38 an38 cd38 ct38), sl38⟩) (c38 : PySem.W.codeIn K cd38 "_law_curve" = true) (k38 : PySem.W.keepIn K (.ref f_Lcurve) = true)
    {od39 an39 : Option Addr} {sl39 : Array (Option Value)} {oc39 kV39 dc39 pm39 cd39 ct39 : Value}
    (a39 : PySem.W.nsIn K mainGlobals "_law_point" = some (some (.ref f_Lpoint))) (l39 : K.lookup f_Lpoint = some ⟨oc39, od39, .func (PySem.W.fnOf "_law_point" "_law_point" (defArgs st_Lpoint) (defBody st_Lpoint) (defScope st_Lpoint) .none kV39 dc39 pm39 an39 cd39 ct39), sl39⟩) (c39 : PySem.W.codeIn K cd39 "_law_point" = true) (k39 : PySem.W.keepIn K (.ref f_Lpoint) = true)
    {od40 an40 : Option Addr} {sl40 : Array (Option Value)} {oc40 kV40 dc40 pm40 cd40 ct40 : Value}
    (a40 : PySem.W.nsIn K mainGlobals "_law_opposite" = some (some (.ref f_Lopposite))) (l40 : K.lookup f_Lopposite = some ⟨oc40, od40, .func (PySem.W.fnOf "_law_opposite" "_law_opposite" (defArgs st_Lopposite) (defBody st_Lopposite) (defScope st_Lopposite) .none kV40 dc40 pm40 an40 cd40 ct40), sl40⟩) (c40 : PySem.W.codeIn K cd40 "_law_opposite" = true) (k40 : PySem.W.keepIn K (.ref f_Lopposite) = true)
    {od41 an41 : Option Addr} {sl41 : Array (Option Value)} {oc41 kV41 dc41 pm41 cd41 ct41 : Value}
    (a41 : PySem.W.nsIn K mainGlobals "_law_added" = some (some (.ref f_Ladded))) (l41 : K.lookup f_Ladded = some ⟨oc41, od41, .func (PySem.W.fnOf "_law_added" "_law_added" (defArgs st_Ladded) (defBody st_Ladded) (defScope st_Ladded) .none kV41 dc41 pm41 an41 cd41 ct41), sl41⟩) (c41 : PySem.W.codeIn K cd41 "_law_added" = true) (k41 : PySem.W.keepIn K (.ref f_Ladded) = true)
    {od42 an42 : Option Addr} {sl42 : Array (Option Value)} {oc42 kV42 dc42 pm42 cd42 ct42 : Value}
    (a42 : PySem.W.nsIn K mainGlobals "_law_finite" = some (some (.ref f_Lfinite))) (l42 : K.lookup f_Lfinite = some ⟨oc42, od42, .func (PySem.W.fnOf "_law_finite" "_law_finite" (defArgs st_Lfinite) (defBody st_Lfinite) (defScope st_Lfinite) .none kV42 dc42 pm42 an42 cd42 ct42), sl42⟩) (c42 : PySem.W.codeIn K cd42 "_law_finite" = true) (k42 : PySem.W.keepIn K (.ref f_Lfinite) = true)
    {od43 an43 : Option Addr} {sl43 : Array (Option Value)} {oc43 kV43 dc43 pm43 cd43 ct43 : Value}
    (a43 : PySem.W.nsIn K mainGlobals "_law_round_right" = some (some (.ref f_Lround_right))) (l43 : K.lookup f_Lround_right = some ⟨oc43, od43, .func (PySem.W.fnOf "_law_round_right" "_law_round_right" (defArgs st_Lround_right) (defBody st_Lround_right) (defScope st_Lround_right) .none kV43 dc43 pm43 an43 cd43 ct43), sl43⟩) (c43 : PySem.W.codeIn K cd43 "_law_round_right" = true) (k43 : PySem.W.keepIn K (.ref f_Lround_right) = true)
    {od44 an44 : Option Addr} {sl44 : Array (Option Value)} {oc44 kV44 dc44 pm44 cd44 ct44 : Value}
    (a44 : PySem.W.nsIn K mainGlobals "law" = some (some (.ref f_law))) (l44 : K.lookup f_law = some ⟨oc44, od44, .func (PySem.W.fnOf "law" "law" (defArgs st_law) (defBody st_law) (defScope st_law) .none kV44 dc44 pm44 an44 cd44 ct44), sl44⟩) (c44 : PySem.W.codeIn K cd44 "law" = true) (k44 : PySem.W.keepIn K (.ref f_law) = true)
    (n0 : PySem.W.nsIn K mainGlobals "int" = some none)
    (n1 : PySem.W.nsIn K mainGlobals "isinstance" = some none)
    (n2 : PySem.W.nsIn K mainGlobals "bool" = some none)
    (n3 : PySem.W.nsIn K mainGlobals "abs" = some none)
    (n4 : PySem.W.nsIn K mainGlobals "tuple" = some none)
    (n5 : PySem.W.nsIn K mainGlobals "len" = some none)
    (n6 : PySem.W.nsIn K mainGlobals "all" = some none)
    (n7 : PySem.W.nsIn K mainGlobals "range" = some none)
    (n8 : PySem.W.nsIn K mainGlobals "repr" = some none)
    (n9 : PySem.W.nsIn K mainGlobals "max" = some none)
    {t0 : Tok} (e0 : PySem.W.nsIn K mainGlobals "MOST_TIMES" = some (some (.int (60) t0)))
    (dig : PySem.W.nsIn K cStatics "sys.int_max_str_digits" = some none) : Txt K mg :=
  { f_is_number := f_is_number, d_is_number := _, F_is_number := fun_mk (st := st_is_number) l0 c0 k0, b_is_number := (fun_mk (st := st_is_number) l0 c0 k0).binds (ps := ["thing"]) fun _ _ _ _ _ _ us hl => match us, hl with | [_], _ => rfl,
    f_common := f_common, d_common := _, F_common := fun_mk (st := st_common) l1 c1 k1, b_common := (fun_mk (st := st_common) l1 c1 k1).binds (ps := ["one", "other"]) fun _ _ _ _ _ _ us hl => match us, hl with | [_, _], _ => rfl,
    f_is_fraction := f_is_fraction, d_is_fraction := _, F_is_fraction := fun_mk (st := st_is_fraction) l2 c2 k2, b_is_fraction := (fun_mk (st := st_is_fraction) l2 c2 k2).binds (ps := ["thing"]) fun _ _ _ _ _ _ us hl => match us, hl with | [_], _ => rfl,
    f_pair_of := f_pair_of, d_pair_of := _, F_pair_of := fun_mk (st := st_pair_of) l3 c3 k3, b_pair_of := (fun_mk (st := st_pair_of) l3 c3 k3).binds (ps := ["a"]) fun _ _ _ _ _ _ us hl => match us, hl with | [_], _ => rfl,
    f_lowest := f_lowest, d_lowest := _, F_lowest := fun_mk (st := st_lowest) l4 c4 k4, b_lowest := (fun_mk (st := st_lowest) l4 c4 k4).binds (ps := ["top", "bottom"]) fun _ _ _ _ _ _ us hl => match us, hl with | [_, _], _ => rfl,
    f_sum_of_two := f_sum_of_two, d_sum_of_two := _, F_sum_of_two := fun_mk (st := st_sum_of_two) l5 c5 k5, b_sum_of_two := (fun_mk (st := st_sum_of_two) l5 c5 k5).binds (ps := ["a", "b"]) fun _ _ _ _ _ _ us hl => match us, hl with | [_, _], _ => rfl,
    f_product := f_product, d_product := _, F_product := fun_mk (st := st_product) l6 c6 k6, b_product := (fun_mk (st := st_product) l6 c6 k6).binds (ps := ["a", "b"]) fun _ _ _ _ _ _ us hl => match us, hl with | [_, _], _ => rfl,
    f_turned := f_turned, d_turned := _, F_turned := fun_mk (st := st_turned) l7 c7 k7, b_turned := (fun_mk (st := st_turned) l7 c7 k7).binds (ps := ["a"]) fun _ _ _ _ _ _ us hl => match us, hl with | [_], _ => rfl,
    f_quotient := f_quotient, d_quotient := _, F_quotient := fun_mk (st := st_quotient) l8 c8 k8, b_quotient := (fun_mk (st := st_quotient) l8 c8 k8).binds (ps := ["a", "b"]) fun _ _ _ _ _ _ us hl => match us, hl with | [_, _], _ => rfl,
    f_summed := f_summed, d_summed := _, F_summed := fun_mk (st := st_summed) l9 c9 k9, b_summed := (fun_mk (st := st_summed) l9 c9 k9).binds (ps := ["rows"]) fun _ _ _ _ _ _ us hl => match us, hl with | [_], _ => rfl,
    f_halves_of := f_halves_of, d_halves_of := _, F_halves_of := fun_mk (st := st_halves_of) l10 c10 k10, b_halves_of := (fun_mk (st := st_halves_of) l10 c10 k10).binds (ps := ["five"]) fun _ _ _ _ _ _ us hl => match us, hl with | [_], _ => rfl,
    f_d_of := f_d_of, d_d_of := _, F_d_of := fun_mk (st := st_d_of) l11 c11 k11, b_d_of := (fun_mk (st := st_d_of) l11 c11 k11).binds (ps := ["five"]) fun _ _ _ _ _ _ us hl => match us, hl with | [_], _ => rfl,
    f_is_curve := f_is_curve, d_is_curve := _, F_is_curve := fun_mk (st := st_is_curve) l12 c12 k12, b_is_curve := (fun_mk (st := st_is_curve) l12 c12 k12).binds (ps := ["thing"]) fun _ _ _ _ _ _ us hl => match us, hl with | [_], _ => rfl,
    f_need_curve := f_need_curve, d_need_curve := _, F_need_curve := fun_mk (st := st_need_curve) l13 c13 k13, b_need_curve := (fun_mk (st := st_need_curve) l13 c13 k13).binds (ps := ["curve"]) fun _ _ _ _ _ _ us hl => match us, hl with | [_], _ => rfl,
    f_together_of := f_together_of, d_together_of := _, F_together_of := fun_mk (st := st_together_of) l14 c14 k14, b_together_of := (fun_mk (st := st_together_of) l14 c14 k14).binds (ps := ["things"]) fun _ _ _ _ _ _ us hl => match us, hl with | [_], _ => rfl,
    f_is_on := f_is_on, d_is_on := _, F_is_on := fun_mk (st := st_is_on) l15 c15 k15, b_is_on := (fun_mk (st := st_is_on) l15 c15 k15).binds (ps := ["curve", "thing"]) fun _ _ _ _ _ _ us hl => match us, hl with | [_, _], _ => rfl,
    f_need_point := f_need_point, d_need_point := _, F_need_point := fun_mk (st := st_need_point) l16 c16 k16, b_need_point := (fun_mk (st := st_need_point) l16 c16 k16).binds (ps := ["curve", "thing"]) fun _ _ _ _ _ _ us hl => match us, hl with | [_, _], _ => rfl,
    f_opposite_of := f_opposite_of, d_opposite_of := _, F_opposite_of := fun_mk (st := st_opposite_of) l17 c17 k17, b_opposite_of := (fun_mk (st := st_opposite_of) l17 c17 k17).binds (ps := ["curve", "point"]) fun _ _ _ _ _ _ us hl => match us, hl with | [_, _], _ => rfl,
    f_slope_of := f_slope_of, d_slope_of := _, F_slope_of := fun_mk (st := st_slope_of) l18 c18 k18, b_slope_of := (fun_mk (st := st_slope_of) l18 c18 k18).binds (ps := ["curve", "one", "other"]) fun _ _ _ _ _ _ us hl => match us, hl with | [_, _, _], _ => rfl,
    f_sum_on := f_sum_on, d_sum_on := _, F_sum_on := fun_mk (st := st_sum_on) l19 c19 k19, b_sum_on := (fun_mk (st := st_sum_on) l19 c19 k19).binds (ps := ["curve", "one", "other"]) fun _ _ _ _ _ _ us hl => match us, hl with | [_, _, _], _ => rfl,
    f_multiple_on := f_multiple_on, d_multiple_on := _, F_multiple_on := fun_mk (st := st_multiple_on) l20 c20 k20, b_multiple_on := (fun_mk (st := st_multiple_on) l20 c20 k20).binds (ps := ["curve", "count", "point"]) fun _ _ _ _ _ _ us hl => match us, hl with | [_, _, _], _ => rfl,
    f_is_point := f_is_point, d_is_point := _, F_is_point := fun_mk (st := st_is_point) l21 c21 k21, b_is_point := (fun_mk (st := st_is_point) l21 c21 k21).binds (ps := ["curve", "thing"]) fun _ _ _ _ _ _ us hl => match us, hl with | [_, _], _ => rfl,
    f_opposite := f_opposite, d_opposite := _, F_opposite := fun_mk (st := st_opposite) l22 c22 k22, b_opposite := (fun_mk (st := st_opposite) l22 c22 k22).binds (ps := ["curve", "point"]) fun _ _ _ _ _ _ us hl => match us, hl with | [_, _], _ => rfl,
    f_added := f_added, d_added := _, F_added := fun_mk (st := st_added) l23 c23 k23, b_added := (fun_mk (st := st_added) l23 c23 k23).binds (ps := ["curve", "one", "other"]) fun _ _ _ _ _ _ us hl => match us, hl with | [_, _, _], _ => rfl,
    f_times_point := f_times_point, d_times_point := _, F_times_point := fun_mk (st := st_times_point) l24 c24 k24, b_times_point := (fun_mk (st := st_times_point) l24 c24 k24).binds (ps := ["curve", "count", "point"]) fun _ _ _ _ _ _ us hl => match us, hl with | [_, _, _], _ => rfl,
    f_Ldraw_of := f_Ldraw_of, d_Ldraw_of := _, F_Ldraw_of := fun_mk (st := st_Ldraw_of) l25 c25 k25, b_Ldraw_of := (fun_mk (st := st_Ldraw_of) l25 c25 k25).binds (ps := ["_law_script", "_law_k"]) fun _ _ _ _ _ _ us hl => match us, hl with | [_, _], _ => rfl,
    f_Lnext := f_Lnext, d_Lnext := _, F_Lnext := fun_mk (st := st_Lnext) l26 c26 k26, b_Lnext := (fun_mk (st := st_Lnext) l26 c26 k26).binds (ps := ["_law_draw", "_law_many"]) fun _ _ _ _ _ _ us hl => match us, hl with | [_, _], _ => rfl,
    f_Llowest := f_Llowest, d_Llowest := _, F_Llowest := fun_mk (st := st_Llowest) l27 c27 k27, b_Llowest := (fun_mk (st := st_Llowest) l27 c27 k27).binds (ps := ["_law_top", "_law_bottom"]) fun _ _ _ _ _ _ us hl => match us, hl with | [_, _], _ => rfl,
    f_Lsum := f_Lsum, d_Lsum := _, F_Lsum := fun_mk (st := st_Lsum) l28 c28 k28, b_Lsum := (fun_mk (st := st_Lsum) l28 c28 k28).binds (ps := ["_law_pairs"]) fun _ _ _ _ _ _ us hl => match us, hl with | [_], _ => rfl,
    f_Lproduct := f_Lproduct, d_Lproduct := _, F_Lproduct := fun_mk (st := st_Lproduct) l29 c29 k29, b_Lproduct := (fun_mk (st := st_Lproduct) l29 c29 k29).binds (ps := ["_law_pairs"]) fun _ _ _ _ _ _ us hl => match us, hl with | [_], _ => rfl,
    f_Lminus := f_Lminus, d_Lminus := _, F_Lminus := fun_mk (st := st_Lminus) l30 c30 k30, b_Lminus := (fun_mk (st := st_Lminus) l30 c30 k30).binds (ps := ["_law_a"]) fun _ _ _ _ _ _ us hl => match us, hl with | [_], _ => rfl,
    f_Lover := f_Lover, d_Lover := _, F_Lover := fun_mk (st := st_Lover) l31 c31 k31, b_Lover := (fun_mk (st := st_Lover) l31 c31 k31).binds (ps := ["_law_a", "_law_b"]) fun _ _ _ _ _ _ us hl => match us, hl with | [_, _], _ => rfl,
    f_Ltold := f_Ltold, d_Ltold := _, F_Ltold := fun_mk (st := st_Ltold) l32 c32 k32, b_Ltold := (fun_mk (st := st_Ltold) l32 c32 k32).binds (ps := ["_law_a"]) fun _ _ _ _ _ _ us hl => match us, hl with | [_], _ => rfl,
    f_Lsmall := f_Lsmall, d_Lsmall := _, F_Lsmall := fun_mk (st := st_Lsmall) l33 c33 k33, b_Lsmall := (fun_mk (st := st_Lsmall) l33 c33 k33).binds (ps := ["_law_draw", "_law_top", "_law_bottoms"]) fun _ _ _ _ _ _ us hl => match us, hl with | [_, _, _], _ => rfl,
    f_Lis_single := f_Lis_single, d_Lis_single := _, F_Lis_single := fun_mk (st := st_Lis_single) l34 c34 k34, b_Lis_single := (fun_mk (st := st_Lis_single) l34 c34 k34).binds (ps := ["_law_five"]) fun _ _ _ _ _ _ us hl => match us, hl with | [_], _ => rfl,
    f_Lbetween := f_Lbetween, d_Lbetween := _, F_Lbetween := fun_mk (st := st_Lbetween) l35 c35 k35, b_Lbetween := (fun_mk (st := st_Lbetween) l35 c35 k35).binds (ps := ["_law_one", "_law_other"]) fun _ _ _ _ _ _ us hl => match us, hl with | [_, _], _ => rfl,
    f_Lthrough := f_Lthrough, d_Lthrough := _, F_Lthrough := fun_mk (st := st_Lthrough) l36 c36 k36, b_Lthrough := (fun_mk (st := st_Lthrough) l36 c36 k36).binds (ps := ["_law_a1", "_law_a3", "_law_points"]) fun _ _ _ _ _ _ us hl => match us, hl with | [_, _, _], _ => rfl,
    f_Lsome := f_Lsome, d_Lsome := _, F_Lsome := fun_mk (st := st_Lsome) l37 c37 k37, b_Lsome := (fun_mk (st := st_Lsome) l37 c37 k37).binds (ps := ["_law_draw"]) fun _ _ _ _ _ _ us hl => match us, hl with | [_], _ => rfl,
    f_Lcurve := f_Lcurve, d_Lcurve := _, F_Lcurve := fun_mk (st := st_Lcurve) l38 c38 k38, b_Lcurve := (fun_mk (st := st_Lcurve) l38 c38 k38).binds (ps := ["_law_five"]) fun _ _ _ _ _ _ us hl => match us, hl with | [_], _ => rfl,
    f_Lpoint := f_Lpoint, d_Lpoint := _, F_Lpoint := fun_mk (st := st_Lpoint) l39 c39 k39, b_Lpoint := (fun_mk (st := st_Lpoint) l39 c39 k39).binds (ps := ["_law_point_here"]) fun _ _ _ _ _ _ us hl => match us, hl with | [_], _ => rfl,
    f_Lopposite := f_Lopposite, d_Lopposite := _, F_Lopposite := fun_mk (st := st_Lopposite) l40 c40 k40, b_Lopposite := (fun_mk (st := st_Lopposite) l40 c40 k40).binds (ps := ["_law_five", "_law_point_here"]) fun _ _ _ _ _ _ us hl => match us, hl with | [_, _], _ => rfl,
    f_Ladded := f_Ladded, d_Ladded := _, F_Ladded := fun_mk (st := st_Ladded) l41 c41 k41, b_Ladded := (fun_mk (st := st_Ladded) l41 c41 k41).binds (ps := ["_law_five", "_law_one", "_law_other"]) fun _ _ _ _ _ _ us hl => match us, hl with | [_, _, _], _ => rfl,
    f_Lfinite := f_Lfinite, d_Lfinite := _, F_Lfinite := fun_mk (st := st_Lfinite) l42 c42 k42, b_Lfinite := (fun_mk (st := st_Lfinite) l42 c42 k42).binds (ps := ["_law_draw"]) fun _ _ _ _ _ _ us hl => match us, hl with | [_], _ => rfl,
    f_Lround_right := f_Lround_right, d_Lround_right := _, F_Lround_right := fun_mk (st := st_Lround_right) l43 c43 k43, b_Lround_right := (fun_mk (st := st_Lround_right) l43 c43 k43).binds (ps := ["_law_draw"]) fun _ _ _ _ _ _ us hl => match us, hl with | [_], _ => rfl,
    f_law := f_law, d_law := _, F_law := fun_mk (st := st_law) l44 c44 k44, b_law := (fun_mk (st := st_law) l44 c44 k44).binds (ps := ["_law_script"]) fun _ _ _ _ _ _ us hl => match us, hl with | [_], _ => rfl,
    g_is_number := PySem.W.mg_of X G a0,
    g_common := PySem.W.mg_of X G a1,
    g_pair_of := PySem.W.mg_of X G a3,
    g_lowest := PySem.W.mg_of X G a4,
    g_product := PySem.W.mg_of X G a6,
    g_sum_of_two := PySem.W.mg_of X G a5,
    g_summed := PySem.W.mg_of X G a9,
    g_halves_of := PySem.W.mg_of X G a10,
    g_is_fraction := PySem.W.mg_of X G a2,
    g_d_of := PySem.W.mg_of X G a11,
    g_is_curve := PySem.W.mg_of X G a12,
    g_together_of := PySem.W.mg_of X G a14,
    g_is_on := PySem.W.mg_of X G a15,
    g_turned := PySem.W.mg_of X G a7,
    g_quotient := PySem.W.mg_of X G a8,
    g_opposite_of := PySem.W.mg_of X G a17,
    g_slope_of := PySem.W.mg_of X G a18,
    g_sum_on := PySem.W.mg_of X G a19,
    g_need_curve := PySem.W.mg_of X G a13,
    g_need_point := PySem.W.mg_of X G a16,
    g_multiple_on := PySem.W.mg_of X G a20,
    g_Llowest := PySem.W.mg_of X G a27,
    g_Lnext := PySem.W.mg_of X G a26,
    g_Lproduct := PySem.W.mg_of X G a29,
    g_Lsum := PySem.W.mg_of X G a28,
    g_Lminus := PySem.W.mg_of X G a30,
    g_Lover := PySem.W.mg_of X G a31,
    g_Lbetween := PySem.W.mg_of X G a35,
    g_Lsmall := PySem.W.mg_of X G a33,
    g_Lthrough := PySem.W.mg_of X G a36,
    g_Lis_single := PySem.W.mg_of X G a34,
    g_Ltold := PySem.W.mg_of X G a32,
    g_Lopposite := PySem.W.mg_of X G a40,
    g_Lfinite := PySem.W.mg_of X G a42,
    g_Lpoint := PySem.W.mg_of X G a39,
    g_Lcurve := PySem.W.mg_of X G a38,
    g_Ladded := PySem.W.mg_of X G a41,
    g_times_point := PySem.W.mg_of X G a24,
    g_is_point := PySem.W.mg_of X G a21,
    g_Ldraw_of := PySem.W.mg_of X G a25,
    g_Lsome := PySem.W.mg_of X G a37,
    g_added := PySem.W.mg_of X G a23,
    g_opposite := PySem.W.mg_of X G a22,
    g_Lround_right := PySem.W.mg_of X G a43,
    g_law := PySem.W.mg_of X G a44,
    n_int := PySem.W.mg_none_of X G n0,
    n_isinstance := PySem.W.mg_none_of X G n1,
    n_bool := PySem.W.mg_none_of X G n2,
    n_abs := PySem.W.mg_none_of X G n3,
    n_tuple := PySem.W.mg_none_of X G n4,
    n_len := PySem.W.mg_none_of X G n5,
    n_all := PySem.W.mg_none_of X G n6,
    n_range := PySem.W.mg_none_of X G n7,
    n_repr := PySem.W.mg_none_of X G n8,
    n_max := PySem.W.mg_none_of X G n9,
    e_MOST_TIMES := ⟨_, PySem.W.mg_of X G e0⟩,
    dig := dig }
theorem all_mk {l : PySem.W.OpenLaw} {w : World} {K : PySem.W.Frag} {h : Heap} {mg : Str → Option Value} {fa : Addr} {ts : List Addr} (X : K.In h) (G : h.Ns mainGlobals mg) (hfa : mg "law" = some (.ref fa))
    {f_is_number f_common f_is_fraction f_pair_of f_lowest f_sum_of_two f_product f_turned f_quotient f_summed f_halves_of f_d_of f_is_curve f_need_curve f_together_of f_is_on f_need_point f_opposite_of f_slope_of f_sum_on f_multiple_on f_is_point f_opposite f_added f_times_point f_Ldraw_of f_Lnext f_Llowest f_Lsum f_Lproduct f_Lminus f_Lover f_Ltold f_Lsmall f_Lis_single f_Lbetween f_Lthrough f_Lsome f_Lcurve f_Lpoint f_Lopposite f_Ladded f_Lfinite f_Lround_right f_law : Addr}
    {od0 an0 : Option Addr} {sl0 : Array (Option Value)} {oc0 kV0 dc0 pm0 cd0 ct0 : Value}
    (a0 : PySem.W.nsIn K mainGlobals "is_number" = some (some (.ref f_is_number))) (l0 : K.lookup f_is_number = some ⟨oc0, od0, .func (PySem.W.fnOf "is_number" "is_number" (defArgs st_is_number) (defBody st_is_number) (defScope st_is_number) .none kV0 dc0 pm0 an0 cd0 ct0), sl0⟩) (c0 : PySem.W.codeIn K cd0 "is_number" = true) (k0 : PySem.W.keepIn K (.ref f_is_number) = true)
    {od1 an1 : Option Addr} {sl1 : Array (Option Value)} {oc1 kV1 dc1 pm1 cd1 ct1 : Value}
    (a1 : PySem.W.nsIn K mainGlobals "common" = some (some (.ref f_common))) (l1 : K.lookup f_common = some ⟨oc1, od1, .func (PySem.W.fnOf "common" "common" (defArgs st_common) (defBody st_common) (defScope st_common) .none kV1 dc1 pm1 an1 cd1 ct1), sl1⟩) (c1 : PySem.W.codeIn K cd1 "common" = true) (k1 : PySem.W.keepIn K (.ref f_common) = true)
    {od2 an2 : Option Addr} {sl2 : Array (Option Value)} {oc2 kV2 dc2 pm2 cd2 ct2 : Value}
    (a2 : PySem.W.nsIn K mainGlobals "is_fraction" = some (some (.ref f_is_fraction))) (l2 : K.lookup f_is_fraction = some ⟨oc2, od2, .func (PySem.W.fnOf "is_fraction" "is_fraction" (defArgs st_is_fraction) (defBody st_is_fraction) (defScope st_is_fraction) .none kV2 dc2 pm2 an2 cd2 ct2), sl2⟩) (c2 : PySem.W.codeIn K cd2 "is_fraction" = true) (k2 : PySem.W.keepIn K (.ref f_is_fraction) = true)
    {od3 an3 : Option Addr} {sl3 : Array (Option Value)} {oc3 kV3 dc3 pm3 cd3 ct3 : Value}
    (a3 : PySem.W.nsIn K mainGlobals "pair_of" = some (some (.ref f_pair_of))) (l3 : K.lookup f_pair_of = some ⟨oc3, od3, .func (PySem.W.fnOf "pair_of" "pair_of" (defArgs st_pair_of) (defBody st_pair_of) (defScope st_pair_of) .none kV3 dc3 pm3 an3 cd3 ct3), sl3⟩) (c3 : PySem.W.codeIn K cd3 "pair_of" = true) (k3 : PySem.W.keepIn K (.ref f_pair_of) = true)
    {od4 an4 : Option Addr} {sl4 : Array (Option Value)} {oc4 kV4 dc4 pm4 cd4 ct4 : Value}
    (a4 : PySem.W.nsIn K mainGlobals "lowest" = some (some (.ref f_lowest))) (l4 : K.lookup f_lowest = some ⟨oc4, od4, .func (PySem.W.fnOf "lowest" "lowest" (defArgs st_lowest) (defBody st_lowest) (defScope st_lowest) .none kV4 dc4 pm4 an4 cd4 ct4), sl4⟩) (c4 : PySem.W.codeIn K cd4 "lowest" = true) (k4 : PySem.W.keepIn K (.ref f_lowest) = true)
    {od5 an5 : Option Addr} {sl5 : Array (Option Value)} {oc5 kV5 dc5 pm5 cd5 ct5 : Value}
    (a5 : PySem.W.nsIn K mainGlobals "sum_of_two" = some (some (.ref f_sum_of_two))) (l5 : K.lookup f_sum_of_two = some ⟨oc5, od5, .func (PySem.W.fnOf "sum_of_two" "sum_of_two" (defArgs st_sum_of_two) (defBody st_sum_of_two) (defScope st_sum_of_two) .none kV5 dc5 pm5 an5 cd5 ct5), sl5⟩) (c5 : PySem.W.codeIn K cd5 "sum_of_two" = true) (k5 : PySem.W.keepIn K (.ref f_sum_of_two) = true)
    {od6 an6 : Option Addr} {sl6 : Array (Option Value)} {oc6 kV6 dc6 pm6 cd6 ct6 : Value}
    (a6 : PySem.W.nsIn K mainGlobals "product" = some (some (.ref f_product))) (l6 : K.lookup f_product = some ⟨oc6, od6, .func (PySem.W.fnOf "product" "product" (defArgs st_product) (defBody st_product) (defScope st_product) .none kV6 dc6 pm6 an6 cd6 ct6), sl6⟩) (c6 : PySem.W.codeIn K cd6 "product" = true) (k6 : PySem.W.keepIn K (.ref f_product) = true)
    {od7 an7 : Option Addr} {sl7 : Array (Option Value)} {oc7 kV7 dc7 pm7 cd7 ct7 : Value}
    (a7 : PySem.W.nsIn K mainGlobals "turned" = some (some (.ref f_turned))) (l7 : K.lookup f_turned = some ⟨oc7, od7, .func (PySem.W.fnOf "turned" "turned" (defArgs st_turned) (defBody st_turned) (defScope st_turned) .none kV7 dc7 pm7 an7 cd7 ct7), sl7⟩) (c7 : PySem.W.codeIn K cd7 "turned" = true) (k7 : PySem.W.keepIn K (.ref f_turned) = true)
    {od8 an8 : Option Addr} {sl8 : Array (Option Value)} {oc8 kV8 dc8 pm8 cd8 ct8 : Value}
    (a8 : PySem.W.nsIn K mainGlobals "quotient" = some (some (.ref f_quotient))) (l8 : K.lookup f_quotient = some ⟨oc8, od8, .func (PySem.W.fnOf "quotient" "quotient" (defArgs st_quotient) (defBody st_quotient) (defScope st_quotient) .none kV8 dc8 pm8 an8 cd8 ct8), sl8⟩) (c8 : PySem.W.codeIn K cd8 "quotient" = true) (k8 : PySem.W.keepIn K (.ref f_quotient) = true)
    {od9 an9 : Option Addr} {sl9 : Array (Option Value)} {oc9 kV9 dc9 pm9 cd9 ct9 : Value}
    (a9 : PySem.W.nsIn K mainGlobals "summed" = some (some (.ref f_summed))) (l9 : K.lookup f_summed = some ⟨oc9, od9, .func (PySem.W.fnOf "summed" "summed" (defArgs st_summed) (defBody st_summed) (defScope st_summed) .none kV9 dc9 pm9 an9 cd9 ct9), sl9⟩) (c9 : PySem.W.codeIn K cd9 "summed" = true) (k9 : PySem.W.keepIn K (.ref f_summed) = true)
    {od10 an10 : Option Addr} {sl10 : Array (Option Value)} {oc10 kV10 dc10 pm10 cd10 ct10 : Value}
    (a10 : PySem.W.nsIn K mainGlobals "halves_of" = some (some (.ref f_halves_of))) (l10 : K.lookup f_halves_of = some ⟨oc10, od10, .func (PySem.W.fnOf "halves_of" "halves_of" (defArgs st_halves_of) (defBody st_halves_of) (defScope st_halves_of) .none kV10 dc10 pm10 an10 cd10 ct10), sl10⟩) (c10 : PySem.W.codeIn K cd10 "halves_of" = true) (k10 : PySem.W.keepIn K (.ref f_halves_of) = true)
    {od11 an11 : Option Addr} {sl11 : Array (Option Value)} {oc11 kV11 dc11 pm11 cd11 ct11 : Value}
    (a11 : PySem.W.nsIn K mainGlobals "d_of" = some (some (.ref f_d_of))) (l11 : K.lookup f_d_of = some ⟨oc11, od11, .func (PySem.W.fnOf "d_of" "d_of" (defArgs st_d_of) (defBody st_d_of) (defScope st_d_of) .none kV11 dc11 pm11 an11 cd11 ct11), sl11⟩) (c11 : PySem.W.codeIn K cd11 "d_of" = true) (k11 : PySem.W.keepIn K (.ref f_d_of) = true)
    {od12 an12 : Option Addr} {sl12 : Array (Option Value)} {oc12 kV12 dc12 pm12 cd12 ct12 : Value}
    (a12 : PySem.W.nsIn K mainGlobals "is_curve" = some (some (.ref f_is_curve))) (l12 : K.lookup f_is_curve = some ⟨oc12, od12, .func (PySem.W.fnOf "is_curve" "is_curve" (defArgs st_is_curve) (defBody st_is_curve) (defScope st_is_curve) .none kV12 dc12 pm12 an12 cd12 ct12), sl12⟩) (c12 : PySem.W.codeIn K cd12 "is_curve" = true) (k12 : PySem.W.keepIn K (.ref f_is_curve) = true)
    {od13 an13 : Option Addr} {sl13 : Array (Option Value)} {oc13 kV13 dc13 pm13 cd13 ct13 : Value}
    (a13 : PySem.W.nsIn K mainGlobals "need_curve" = some (some (.ref f_need_curve))) (l13 : K.lookup f_need_curve = some ⟨oc13, od13, .func (PySem.W.fnOf "need_curve" "need_curve" (defArgs st_need_curve) (defBody st_need_curve) (defScope st_need_curve) .none kV13 dc13 pm13 an13 cd13 ct13), sl13⟩) (c13 : PySem.W.codeIn K cd13 "need_curve" = true) (k13 : PySem.W.keepIn K (.ref f_need_curve) = true)
    {od14 an14 : Option Addr} {sl14 : Array (Option Value)} {oc14 kV14 dc14 pm14 cd14 ct14 : Value}
    (a14 : PySem.W.nsIn K mainGlobals "together_of" = some (some (.ref f_together_of))) (l14 : K.lookup f_together_of = some ⟨oc14, od14, .func (PySem.W.fnOf "together_of" "together_of" (defArgs st_together_of) (defBody st_together_of) (defScope st_together_of) .none kV14 dc14 pm14 an14 cd14 ct14), sl14⟩) (c14 : PySem.W.codeIn K cd14 "together_of" = true) (k14 : PySem.W.keepIn K (.ref f_together_of) = true)
    {od15 an15 : Option Addr} {sl15 : Array (Option Value)} {oc15 kV15 dc15 pm15 cd15 ct15 : Value}
    (a15 : PySem.W.nsIn K mainGlobals "is_on" = some (some (.ref f_is_on))) (l15 : K.lookup f_is_on = some ⟨oc15, od15, .func (PySem.W.fnOf "is_on" "is_on" (defArgs st_is_on) (defBody st_is_on) (defScope st_is_on) .none kV15 dc15 pm15 an15 cd15 ct15), sl15⟩) (c15 : PySem.W.codeIn K cd15 "is_on" = true) (k15 : PySem.W.keepIn K (.ref f_is_on) = true)
    {od16 an16 : Option Addr} {sl16 : Array (Option Value)} {oc16 kV16 dc16 pm16 cd16 ct16 : Value}
    (a16 : PySem.W.nsIn K mainGlobals "need_point" = some (some (.ref f_need_point))) (l16 : K.lookup f_need_point = some ⟨oc16, od16, .func (PySem.W.fnOf "need_point" "need_point" (defArgs st_need_point) (defBody st_need_point) (defScope st_need_point) .none kV16 dc16 pm16 an16 cd16 ct16), sl16⟩) (c16 : PySem.W.codeIn K cd16 "need_point" = true) (k16 : PySem.W.keepIn K (.ref f_need_point) = true)
    {od17 an17 : Option Addr} {sl17 : Array (Option Value)} {oc17 kV17 dc17 pm17 cd17 ct17 : Value}
    (a17 : PySem.W.nsIn K mainGlobals "opposite_of" = some (some (.ref f_opposite_of))) (l17 : K.lookup f_opposite_of = some ⟨oc17, od17, .func (PySem.W.fnOf "opposite_of" "opposite_of" (defArgs st_opposite_of) (defBody st_opposite_of) (defScope st_opposite_of) .none kV17 dc17 pm17 an17 cd17 ct17), sl17⟩) (c17 : PySem.W.codeIn K cd17 "opposite_of" = true) (k17 : PySem.W.keepIn K (.ref f_opposite_of) = true)
    {od18 an18 : Option Addr} {sl18 : Array (Option Value)} {oc18 kV18 dc18 pm18 cd18 ct18 : Value}
    (a18 : PySem.W.nsIn K mainGlobals "slope_of" = some (some (.ref f_slope_of))) (l18 : K.lookup f_slope_of = some ⟨oc18, od18, .func (PySem.W.fnOf "slope_of" "slope_of" (defArgs st_slope_of) (defBody st_slope_of) (defScope st_slope_of) .none kV18 dc18 pm18 an18 cd18 ct18), sl18⟩) (c18 : PySem.W.codeIn K cd18 "slope_of" = true) (k18 : PySem.W.keepIn K (.ref f_slope_of) = true)
    {od19 an19 : Option Addr} {sl19 : Array (Option Value)} {oc19 kV19 dc19 pm19 cd19 ct19 : Value}
    (a19 : PySem.W.nsIn K mainGlobals "sum_on" = some (some (.ref f_sum_on))) (l19 : K.lookup f_sum_on = some ⟨oc19, od19, .func (PySem.W.fnOf "sum_on" "sum_on" (defArgs st_sum_on) (defBody st_sum_on) (defScope st_sum_on) .none kV19 dc19 pm19 an19 cd19 ct19), sl19⟩) (c19 : PySem.W.codeIn K cd19 "sum_on" = true) (k19 : PySem.W.keepIn K (.ref f_sum_on) = true)
    {od20 an20 : Option Addr} {sl20 : Array (Option Value)} {oc20 kV20 dc20 pm20 cd20 ct20 : Value}
    (a20 : PySem.W.nsIn K mainGlobals "multiple_on" = some (some (.ref f_multiple_on))) (l20 : K.lookup f_multiple_on = some ⟨oc20, od20, .func (PySem.W.fnOf "multiple_on" "multiple_on" (defArgs st_multiple_on) (defBody st_multiple_on) (defScope st_multiple_on) .none kV20 dc20 pm20 an20 cd20 ct20), sl20⟩) (c20 : PySem.W.codeIn K cd20 "multiple_on" = true) (k20 : PySem.W.keepIn K (.ref f_multiple_on) = true)
    {od21 an21 : Option Addr} {sl21 : Array (Option Value)} {oc21 kV21 dc21 pm21 cd21 ct21 : Value}
    (a21 : PySem.W.nsIn K mainGlobals "is_point" = some (some (.ref f_is_point))) (l21 : K.lookup f_is_point = some ⟨oc21, od21, .func (PySem.W.fnOf "is_point" "is_point" (defArgs st_is_point) (defBody st_is_point) (defScope st_is_point) .none kV21 dc21 pm21 an21 cd21 ct21), sl21⟩) (c21 : PySem.W.codeIn K cd21 "is_point" = true) (k21 : PySem.W.keepIn K (.ref f_is_point) = true)
    {od22 an22 : Option Addr} {sl22 : Array (Option Value)} {oc22 kV22 dc22 pm22 cd22 ct22 : Value}
    (a22 : PySem.W.nsIn K mainGlobals "opposite" = some (some (.ref f_opposite))) (l22 : K.lookup f_opposite = some ⟨oc22, od22, .func (PySem.W.fnOf "opposite" "opposite" (defArgs st_opposite) (defBody st_opposite) (defScope st_opposite) .none kV22 dc22 pm22 an22 cd22 ct22), sl22⟩) (c22 : PySem.W.codeIn K cd22 "opposite" = true) (k22 : PySem.W.keepIn K (.ref f_opposite) = true)
    {od23 an23 : Option Addr} {sl23 : Array (Option Value)} {oc23 kV23 dc23 pm23 cd23 ct23 : Value}
    (a23 : PySem.W.nsIn K mainGlobals "added" = some (some (.ref f_added))) (l23 : K.lookup f_added = some ⟨oc23, od23, .func (PySem.W.fnOf "added" "added" (defArgs st_added) (defBody st_added) (defScope st_added) .none kV23 dc23 pm23 an23 cd23 ct23), sl23⟩) (c23 : PySem.W.codeIn K cd23 "added" = true) (k23 : PySem.W.keepIn K (.ref f_added) = true)
    {od24 an24 : Option Addr} {sl24 : Array (Option Value)} {oc24 kV24 dc24 pm24 cd24 ct24 : Value}
    (a24 : PySem.W.nsIn K mainGlobals "times_point" = some (some (.ref f_times_point))) (l24 : K.lookup f_times_point = some ⟨oc24, od24, .func (PySem.W.fnOf "times_point" "times_point" (defArgs st_times_point) (defBody st_times_point) (defScope st_times_point) .none kV24 dc24 pm24 an24 cd24 ct24), sl24⟩) (c24 : PySem.W.codeIn K cd24 "times_point" = true) (k24 : PySem.W.keepIn K (.ref f_times_point) = true)
    {od25 an25 : Option Addr} {sl25 : Array (Option Value)} {oc25 kV25 dc25 pm25 cd25 ct25 : Value}
    (a25 : PySem.W.nsIn K mainGlobals "_law_draw_of" = some (some (.ref f_Ldraw_of))) (l25 : K.lookup f_Ldraw_of = some ⟨oc25, od25, .func (PySem.W.fnOf "_law_draw_of" "_law_draw_of" (defArgs st_Ldraw_of) (defBody st_Ldraw_of) (defScope st_Ldraw_of) .none kV25 dc25 pm25 an25 cd25 ct25), sl25⟩) (c25 : PySem.W.codeIn K cd25 "_law_draw_of" = true) (k25 : PySem.W.keepIn K (.ref f_Ldraw_of) = true)
    {od26 an26 : Option Addr} {sl26 : Array (Option Value)} {oc26 kV26 dc26 pm26 cd26 ct26 : Value}
    (a26 : PySem.W.nsIn K mainGlobals "_law_next" = some (some (.ref f_Lnext))) (l26 : K.lookup f_Lnext = some ⟨oc26, od26, .func (PySem.W.fnOf "_law_next" "_law_next" (defArgs st_Lnext) (defBody st_Lnext) (defScope st_Lnext) .none kV26 dc26 pm26 an26 cd26 ct26), sl26⟩) (c26 : PySem.W.codeIn K cd26 "_law_next" = true) (k26 : PySem.W.keepIn K (.ref f_Lnext) = true)
    {od27 an27 : Option Addr} {sl27 : Array (Option Value)} {oc27 kV27 dc27 pm27 cd27 ct27 : Value}
    (a27 : PySem.W.nsIn K mainGlobals "_law_lowest" = some (some (.ref f_Llowest))) (l27 : K.lookup f_Llowest = some ⟨oc27, od27, .func (PySem.W.fnOf "_law_lowest" "_law_lowest" (defArgs st_Llowest) (defBody st_Llowest) (defScope st_Llowest) .none kV27 dc27 pm27 an27 cd27 ct27), sl27⟩) (c27 : PySem.W.codeIn K cd27 "_law_lowest" = true) (k27 : PySem.W.keepIn K (.ref f_Llowest) = true)
    {od28 an28 : Option Addr} {sl28 : Array (Option Value)} {oc28 kV28 dc28 pm28 cd28 ct28 : Value}
    (a28 : PySem.W.nsIn K mainGlobals "_law_sum" = some (some (.ref f_Lsum))) (l28 : K.lookup f_Lsum = some ⟨oc28, od28, .func (PySem.W.fnOf "_law_sum" "_law_sum" (defArgs st_Lsum) (defBody st_Lsum) (defScope st_Lsum) .none kV28 dc28 pm28 an28 cd28 ct28), sl28⟩) (c28 : PySem.W.codeIn K cd28 "_law_sum" = true) (k28 : PySem.W.keepIn K (.ref f_Lsum) = true)
    {od29 an29 : Option Addr} {sl29 : Array (Option Value)} {oc29 kV29 dc29 pm29 cd29 ct29 : Value}
    (a29 : PySem.W.nsIn K mainGlobals "_law_product" = some (some (.ref f_Lproduct))) (l29 : K.lookup f_Lproduct = some ⟨oc29, od29, .func (PySem.W.fnOf "_law_product" "_law_product" (defArgs st_Lproduct) (defBody st_Lproduct) (defScope st_Lproduct) .none kV29 dc29 pm29 an29 cd29 ct29), sl29⟩) (c29 : PySem.W.codeIn K cd29 "_law_product" = true) (k29 : PySem.W.keepIn K (.ref f_Lproduct) = true)
    {od30 an30 : Option Addr} {sl30 : Array (Option Value)} {oc30 kV30 dc30 pm30 cd30 ct30 : Value}
    (a30 : PySem.W.nsIn K mainGlobals "_law_minus" = some (some (.ref f_Lminus))) (l30 : K.lookup f_Lminus = some ⟨oc30, od30, .func (PySem.W.fnOf "_law_minus" "_law_minus" (defArgs st_Lminus) (defBody st_Lminus) (defScope st_Lminus) .none kV30 dc30 pm30 an30 cd30 ct30), sl30⟩) (c30 : PySem.W.codeIn K cd30 "_law_minus" = true) (k30 : PySem.W.keepIn K (.ref f_Lminus) = true)
    {od31 an31 : Option Addr} {sl31 : Array (Option Value)} {oc31 kV31 dc31 pm31 cd31 ct31 : Value}
    (a31 : PySem.W.nsIn K mainGlobals "_law_over" = some (some (.ref f_Lover))) (l31 : K.lookup f_Lover = some ⟨oc31, od31, .func (PySem.W.fnOf "_law_over" "_law_over" (defArgs st_Lover) (defBody st_Lover) (defScope st_Lover) .none kV31 dc31 pm31 an31 cd31 ct31), sl31⟩) (c31 : PySem.W.codeIn K cd31 "_law_over" = true) (k31 : PySem.W.keepIn K (.ref f_Lover) = true)
    {od32 an32 : Option Addr} {sl32 : Array (Option Value)} {oc32 kV32 dc32 pm32 cd32 ct32 : Value}
    (a32 : PySem.W.nsIn K mainGlobals "_law_told" = some (some (.ref f_Ltold))) (l32 : K.lookup f_Ltold = some ⟨oc32, od32, .func (PySem.W.fnOf "_law_told" "_law_told" (defArgs st_Ltold) (defBody st_Ltold) (defScope st_Ltold) .none kV32 dc32 pm32 an32 cd32 ct32), sl32⟩) (c32 : PySem.W.codeIn K cd32 "_law_told" = true) (k32 : PySem.W.keepIn K (.ref f_Ltold) = true)
    {od33 an33 : Option Addr} {sl33 : Array (Option Value)} {oc33 kV33 dc33 pm33 cd33 ct33 : Value}
    (a33 : PySem.W.nsIn K mainGlobals "_law_small" = some (some (.ref f_Lsmall))) (l33 : K.lookup f_Lsmall = some ⟨oc33, od33, .func (PySem.W.fnOf "_law_small" "_law_small" (defArgs st_Lsmall) (defBody st_Lsmall) (defScope st_Lsmall) .none kV33 dc33 pm33 an33 cd33 ct33), sl33⟩) (c33 : PySem.W.codeIn K cd33 "_law_small" = true) (k33 : PySem.W.keepIn K (.ref f_Lsmall) = true)
    {od34 an34 : Option Addr} {sl34 : Array (Option Value)} {oc34 kV34 dc34 pm34 cd34 ct34 : Value}
    (a34 : PySem.W.nsIn K mainGlobals "_law_is_single" = some (some (.ref f_Lis_single))) (l34 : K.lookup f_Lis_single = some ⟨oc34, od34, .func (PySem.W.fnOf "_law_is_single" "_law_is_single" (defArgs st_Lis_single) (defBody st_Lis_single) (defScope st_Lis_single) .none kV34 dc34 pm34 an34 cd34 ct34), sl34⟩) (c34 : PySem.W.codeIn K cd34 "_law_is_single" = true) (k34 : PySem.W.keepIn K (.ref f_Lis_single) = true)
    {od35 an35 : Option Addr} {sl35 : Array (Option Value)} {oc35 kV35 dc35 pm35 cd35 ct35 : Value}
    (a35 : PySem.W.nsIn K mainGlobals "_law_between" = some (some (.ref f_Lbetween))) (l35 : K.lookup f_Lbetween = some ⟨oc35, od35, .func (PySem.W.fnOf "_law_between" "_law_between" (defArgs st_Lbetween) (defBody st_Lbetween) (defScope st_Lbetween) .none kV35 dc35 pm35 an35 cd35 ct35), sl35⟩) (c35 : PySem.W.codeIn K cd35 "_law_between" = true) (k35 : PySem.W.keepIn K (.ref f_Lbetween) = true)
    {od36 an36 : Option Addr} {sl36 : Array (Option Value)} {oc36 kV36 dc36 pm36 cd36 ct36 : Value}
    (a36 : PySem.W.nsIn K mainGlobals "_law_through" = some (some (.ref f_Lthrough))) (l36 : K.lookup f_Lthrough = some ⟨oc36, od36, .func (PySem.W.fnOf "_law_through" "_law_through" (defArgs st_Lthrough) (defBody st_Lthrough) (defScope st_Lthrough) .none kV36 dc36 pm36 an36 cd36 ct36), sl36⟩) (c36 : PySem.W.codeIn K cd36 "_law_through" = true) (k36 : PySem.W.keepIn K (.ref f_Lthrough) = true)
    {od37 an37 : Option Addr} {sl37 : Array (Option Value)} {oc37 kV37 dc37 pm37 cd37 ct37 : Value}
    (a37 : PySem.W.nsIn K mainGlobals "_law_some" = some (some (.ref f_Lsome))) (l37 : K.lookup f_Lsome = some ⟨oc37, od37, .func (PySem.W.fnOf "_law_some" "_law_some" (defArgs st_Lsome) (defBody st_Lsome) (defScope st_Lsome) .none kV37 dc37 pm37 an37 cd37 ct37), sl37⟩) (c37 : PySem.W.codeIn K cd37 "_law_some" = true) (k37 : PySem.W.keepIn K (.ref f_Lsome) = true)
    {od38 an38 : Option Addr} {sl38 : Array (Option Value)} {oc38 kV38 dc38 pm38 cd38 ct38 : Value}
    (a38 : PySem.W.nsIn K mainGlobals "_law_curve" = some (some (.ref f_Lcurve))) (l38 : K.lookup f_Lcurve = some ⟨oc38, od38, .func (PySem.W.fnOf "_law_curve" "_law_curve" (defArgs st_Lcurve) (defBody st_Lcurve) (defScope st_Lcurve) .none kV38 dc38 pm38 an38 cd38 ct38), sl38⟩) (c38 : PySem.W.codeIn K cd38 "_law_curve" = true) (k38 : PySem.W.keepIn K (.ref f_Lcurve) = true)
    {od39 an39 : Option Addr} {sl39 : Array (Option Value)} {oc39 kV39 dc39 pm39 cd39 ct39 : Value}
    (a39 : PySem.W.nsIn K mainGlobals "_law_point" = some (some (.ref f_Lpoint))) (l39 : K.lookup f_Lpoint = some ⟨oc39, od39, .func (PySem.W.fnOf "_law_point" "_law_point" (defArgs st_Lpoint) (defBody st_Lpoint) (defScope st_Lpoint) .none kV39 dc39 pm39 an39 cd39 ct39), sl39⟩) (c39 : PySem.W.codeIn K cd39 "_law_point" = true) (k39 : PySem.W.keepIn K (.ref f_Lpoint) = true)
    {od40 an40 : Option Addr} {sl40 : Array (Option Value)} {oc40 kV40 dc40 pm40 cd40 ct40 : Value}
    (a40 : PySem.W.nsIn K mainGlobals "_law_opposite" = some (some (.ref f_Lopposite))) (l40 : K.lookup f_Lopposite = some ⟨oc40, od40, .func (PySem.W.fnOf "_law_opposite" "_law_opposite" (defArgs st_Lopposite) (defBody st_Lopposite) (defScope st_Lopposite) .none kV40 dc40 pm40 an40 cd40 ct40), sl40⟩) (c40 : PySem.W.codeIn K cd40 "_law_opposite" = true) (k40 : PySem.W.keepIn K (.ref f_Lopposite) = true)
    {od41 an41 : Option Addr} {sl41 : Array (Option Value)} {oc41 kV41 dc41 pm41 cd41 ct41 : Value}
    (a41 : PySem.W.nsIn K mainGlobals "_law_added" = some (some (.ref f_Ladded))) (l41 : K.lookup f_Ladded = some ⟨oc41, od41, .func (PySem.W.fnOf "_law_added" "_law_added" (defArgs st_Ladded) (defBody st_Ladded) (defScope st_Ladded) .none kV41 dc41 pm41 an41 cd41 ct41), sl41⟩) (c41 : PySem.W.codeIn K cd41 "_law_added" = true) (k41 : PySem.W.keepIn K (.ref f_Ladded) = true)
    {od42 an42 : Option Addr} {sl42 : Array (Option Value)} {oc42 kV42 dc42 pm42 cd42 ct42 : Value}
    (a42 : PySem.W.nsIn K mainGlobals "_law_finite" = some (some (.ref f_Lfinite))) (l42 : K.lookup f_Lfinite = some ⟨oc42, od42, .func (PySem.W.fnOf "_law_finite" "_law_finite" (defArgs st_Lfinite) (defBody st_Lfinite) (defScope st_Lfinite) .none kV42 dc42 pm42 an42 cd42 ct42), sl42⟩) (c42 : PySem.W.codeIn K cd42 "_law_finite" = true) (k42 : PySem.W.keepIn K (.ref f_Lfinite) = true)
    {od43 an43 : Option Addr} {sl43 : Array (Option Value)} {oc43 kV43 dc43 pm43 cd43 ct43 : Value}
    (a43 : PySem.W.nsIn K mainGlobals "_law_round_right" = some (some (.ref f_Lround_right))) (l43 : K.lookup f_Lround_right = some ⟨oc43, od43, .func (PySem.W.fnOf "_law_round_right" "_law_round_right" (defArgs st_Lround_right) (defBody st_Lround_right) (defScope st_Lround_right) .none kV43 dc43 pm43 an43 cd43 ct43), sl43⟩) (c43 : PySem.W.codeIn K cd43 "_law_round_right" = true) (k43 : PySem.W.keepIn K (.ref f_Lround_right) = true)
    {od44 an44 : Option Addr} {sl44 : Array (Option Value)} {oc44 kV44 dc44 pm44 cd44 ct44 : Value}
    (a44 : PySem.W.nsIn K mainGlobals "law" = some (some (.ref f_law))) (l44 : K.lookup f_law = some ⟨oc44, od44, .func (PySem.W.fnOf "law" "law" (defArgs st_law) (defBody st_law) (defScope st_law) .none kV44 dc44 pm44 an44 cd44 ct44), sl44⟩) (c44 : PySem.W.codeIn K cd44 "law" = true) (k44 : PySem.W.keepIn K (.ref f_law) = true)
    (n0 : PySem.W.nsIn K mainGlobals "int" = some none)
    (n1 : PySem.W.nsIn K mainGlobals "isinstance" = some none)
    (n2 : PySem.W.nsIn K mainGlobals "bool" = some none)
    (n3 : PySem.W.nsIn K mainGlobals "abs" = some none)
    (n4 : PySem.W.nsIn K mainGlobals "tuple" = some none)
    (n5 : PySem.W.nsIn K mainGlobals "len" = some none)
    (n6 : PySem.W.nsIn K mainGlobals "all" = some none)
    (n7 : PySem.W.nsIn K mainGlobals "range" = some none)
    (n8 : PySem.W.nsIn K mainGlobals "repr" = some none)
    (n9 : PySem.W.nsIn K mainGlobals "max" = some none)
    {t0 : Tok} (e0 : PySem.W.nsIn K mainGlobals "MOST_TIMES" = some (some (.int (60) t0)))
    (dig : PySem.W.nsIn K cStatics "sys.int_max_str_digits" = some none) :
    ∃ (fd : FuncData) (ms : Mks), (∀ p ∈ ms, p.2.1 ∈ ts) ∧ MkK K ms ∧ (∀ (s : Shared) (u : Value), BindsTo s fd ⟨[u], []⟩ [("_law_script", u)]) ∧ ∀ base : Heap, TabF ms mg base → Fn (cfL l.prog w K mg base ms.tb) 11 fa fd ["_law_script"] (spM (cfL l.prog w K mg base ms.tb) 1 m_law) := by
  have e := hfa.symm.trans (PySem.W.mg_of X G a44)
  cases e
  refine ⟨_, [], ?_, ⟨?_, ?_⟩, fun s v => .of_eq rfl, fun base tf => ok_law (C := cfL l.prog w K mg base (Mks.tb [])) ⟨mkT (ts := ts) X G a0 l0 c0 k0 a1 l1 c1 k1 a2 l2 c2 k2 a3 l3 c3 k3 a4 l4 c4 k4 a5 l5 c5 k5 a6 l6 c6 k6 a7 l7 c7 k7 a8 l8 c8 k8 a9 l9 c9 k9 a10 l10 c10 k10 a11 l11 c11 k11 a12 l12 c12 k12 a13 l13 c13 k13 a14 l14 c14 k14 a15 l15 c15 k15 a16 l16 c16 k16 a17 l17 c17 k17 a18 l18 c18 k18 a19 l19 c19 k19 a20 l20 c20 k20 a21 l21 c21 k21 a22 l22 c22 k22 a23 l23 c23 k23 a24 l24 c24 k24 a25 l25 c25 k25 a26 l26 c26 k26 a27 l27 c27 k27 a28 l28 c28 k28 a29 l29 c29 k29 a30 l30 c30 k30 a31 l31 c31 k31 a32 l32 c32 k32 a33 l33 c33 k33 a34 l34 c34 k34 a35 l35 c35 k35 a36 l36 c36 k36 a37 l37 c37 k37 a38 l38 c38 k38 a39 l39 c39 k39 a40 l40 c40 k40 a41 l41 c41 k41 a42 l42 c42 k42 a43 l43 c43 k43 a44 l44 c44 k44 n0 n1 n2 n3 n4 n5 n6 n7 n8 n9 e0 dig, rfl⟩ rfl⟩
  · exact fun p hp => nomatch hp
  · exact fun p hp => nomatch hp
  · exact fun p hp => nomatch hp
noncomputable abbrev hd0 : He.FnD := ⟨("is_number", none), "is_number", "is_number", defArgs st_is_number, defBody st_is_number, defScope st_is_number⟩
noncomputable abbrev hd1 : He.FnD := ⟨("common", none), "common", "common", defArgs st_common, defBody st_common, defScope st_common⟩
noncomputable abbrev hd2 : He.FnD := ⟨("is_fraction", none), "is_fraction", "is_fraction", defArgs st_is_fraction, defBody st_is_fraction, defScope st_is_fraction⟩
noncomputable abbrev hd3 : He.FnD := ⟨("pair_of", none), "pair_of", "pair_of", defArgs st_pair_of, defBody st_pair_of, defScope st_pair_of⟩
noncomputable abbrev hd4 : He.FnD := ⟨("lowest", none), "lowest", "lowest", defArgs st_lowest, defBody st_lowest, defScope st_lowest⟩
noncomputable abbrev hd5 : He.FnD := ⟨("sum_of_two", none), "sum_of_two", "sum_of_two", defArgs st_sum_of_two, defBody st_sum_of_two, defScope st_sum_of_two⟩
noncomputable abbrev hd6 : He.FnD := ⟨("product", none), "product", "product", defArgs st_product, defBody st_product, defScope st_product⟩
noncomputable abbrev hd7 : He.FnD := ⟨("turned", none), "turned", "turned", defArgs st_turned, defBody st_turned, defScope st_turned⟩
noncomputable abbrev hd8 : He.FnD := ⟨("quotient", none), "quotient", "quotient", defArgs st_quotient, defBody st_quotient, defScope st_quotient⟩
noncomputable abbrev hd9 : He.FnD := ⟨("summed", none), "summed", "summed", defArgs st_summed, defBody st_summed, defScope st_summed⟩
noncomputable abbrev hd10 : He.FnD := ⟨("halves_of", none), "halves_of", "halves_of", defArgs st_halves_of, defBody st_halves_of, defScope st_halves_of⟩
noncomputable abbrev hd11 : He.FnD := ⟨("d_of", none), "d_of", "d_of", defArgs st_d_of, defBody st_d_of, defScope st_d_of⟩
noncomputable abbrev hd12 : He.FnD := ⟨("is_curve", none), "is_curve", "is_curve", defArgs st_is_curve, defBody st_is_curve, defScope st_is_curve⟩
noncomputable abbrev hd13 : He.FnD := ⟨("need_curve", none), "need_curve", "need_curve", defArgs st_need_curve, defBody st_need_curve, defScope st_need_curve⟩
noncomputable abbrev hd14 : He.FnD := ⟨("together_of", none), "together_of", "together_of", defArgs st_together_of, defBody st_together_of, defScope st_together_of⟩
noncomputable abbrev hd15 : He.FnD := ⟨("is_on", none), "is_on", "is_on", defArgs st_is_on, defBody st_is_on, defScope st_is_on⟩
noncomputable abbrev hd16 : He.FnD := ⟨("need_point", none), "need_point", "need_point", defArgs st_need_point, defBody st_need_point, defScope st_need_point⟩
noncomputable abbrev hd17 : He.FnD := ⟨("opposite_of", none), "opposite_of", "opposite_of", defArgs st_opposite_of, defBody st_opposite_of, defScope st_opposite_of⟩
noncomputable abbrev hd18 : He.FnD := ⟨("slope_of", none), "slope_of", "slope_of", defArgs st_slope_of, defBody st_slope_of, defScope st_slope_of⟩
noncomputable abbrev hd19 : He.FnD := ⟨("sum_on", none), "sum_on", "sum_on", defArgs st_sum_on, defBody st_sum_on, defScope st_sum_on⟩
noncomputable abbrev hd20 : He.FnD := ⟨("multiple_on", none), "multiple_on", "multiple_on", defArgs st_multiple_on, defBody st_multiple_on, defScope st_multiple_on⟩
noncomputable abbrev hd21 : He.FnD := ⟨("is_point", none), "is_point", "is_point", defArgs st_is_point, defBody st_is_point, defScope st_is_point⟩
noncomputable abbrev hd22 : He.FnD := ⟨("opposite", none), "opposite", "opposite", defArgs st_opposite, defBody st_opposite, defScope st_opposite⟩
noncomputable abbrev hd23 : He.FnD := ⟨("added", none), "added", "added", defArgs st_added, defBody st_added, defScope st_added⟩
noncomputable abbrev hd24 : He.FnD := ⟨("times_point", none), "times_point", "times_point", defArgs st_times_point, defBody st_times_point, defScope st_times_point⟩
noncomputable abbrev hd25 : He.FnD := ⟨("_law_draw_of", none), "_law_draw_of", "_law_draw_of", defArgs st_Ldraw_of, defBody st_Ldraw_of, defScope st_Ldraw_of⟩
noncomputable abbrev hd26 : He.FnD := ⟨("_law_next", none), "_law_next", "_law_next", defArgs st_Lnext, defBody st_Lnext, defScope st_Lnext⟩
noncomputable abbrev hd27 : He.FnD := ⟨("_law_lowest", none), "_law_lowest", "_law_lowest", defArgs st_Llowest, defBody st_Llowest, defScope st_Llowest⟩
noncomputable abbrev hd28 : He.FnD := ⟨("_law_sum", none), "_law_sum", "_law_sum", defArgs st_Lsum, defBody st_Lsum, defScope st_Lsum⟩
noncomputable abbrev hd29 : He.FnD := ⟨("_law_product", none), "_law_product", "_law_product", defArgs st_Lproduct, defBody st_Lproduct, defScope st_Lproduct⟩
noncomputable abbrev hd30 : He.FnD := ⟨("_law_minus", none), "_law_minus", "_law_minus", defArgs st_Lminus, defBody st_Lminus, defScope st_Lminus⟩
noncomputable abbrev hd31 : He.FnD := ⟨("_law_over", none), "_law_over", "_law_over", defArgs st_Lover, defBody st_Lover, defScope st_Lover⟩
noncomputable abbrev hd32 : He.FnD := ⟨("_law_told", none), "_law_told", "_law_told", defArgs st_Ltold, defBody st_Ltold, defScope st_Ltold⟩
noncomputable abbrev hd33 : He.FnD := ⟨("_law_small", none), "_law_small", "_law_small", defArgs st_Lsmall, defBody st_Lsmall, defScope st_Lsmall⟩
noncomputable abbrev hd34 : He.FnD := ⟨("_law_is_single", none), "_law_is_single", "_law_is_single", defArgs st_Lis_single, defBody st_Lis_single, defScope st_Lis_single⟩
noncomputable abbrev hd35 : He.FnD := ⟨("_law_between", none), "_law_between", "_law_between", defArgs st_Lbetween, defBody st_Lbetween, defScope st_Lbetween⟩
noncomputable abbrev hd36 : He.FnD := ⟨("_law_through", none), "_law_through", "_law_through", defArgs st_Lthrough, defBody st_Lthrough, defScope st_Lthrough⟩
noncomputable abbrev hd37 : He.FnD := ⟨("_law_some", none), "_law_some", "_law_some", defArgs st_Lsome, defBody st_Lsome, defScope st_Lsome⟩
noncomputable abbrev hd38 : He.FnD := ⟨("_law_curve", none), "_law_curve", "_law_curve", defArgs st_Lcurve, defBody st_Lcurve, defScope st_Lcurve⟩
noncomputable abbrev hd39 : He.FnD := ⟨("_law_point", none), "_law_point", "_law_point", defArgs st_Lpoint, defBody st_Lpoint, defScope st_Lpoint⟩
noncomputable abbrev hd40 : He.FnD := ⟨("_law_opposite", none), "_law_opposite", "_law_opposite", defArgs st_Lopposite, defBody st_Lopposite, defScope st_Lopposite⟩
noncomputable abbrev hd41 : He.FnD := ⟨("_law_added", none), "_law_added", "_law_added", defArgs st_Ladded, defBody st_Ladded, defScope st_Ladded⟩
noncomputable abbrev hd42 : He.FnD := ⟨("_law_finite", none), "_law_finite", "_law_finite", defArgs st_Lfinite, defBody st_Lfinite, defScope st_Lfinite⟩
noncomputable abbrev hd43 : He.FnD := ⟨("_law_round_right", none), "_law_round_right", "_law_round_right", defArgs st_Lround_right, defBody st_Lround_right, defScope st_Lround_right⟩
noncomputable abbrev hd44 : He.FnD := ⟨("law", none), "law", "law", defArgs st_law, defBody st_law, defScope st_law⟩
def hfa0_0 : List He.Fa := [.glo "is_number", .keep "is_number", .glo "common", .keep "common", .glo "is_fraction", .keep "is_fraction", .glo "pair_of", .keep "pair_of", .glo "lowest", .keep "lowest", .glo "sum_of_two", .keep "sum_of_two", .glo "product", .keep "product", .glo "turned", .keep "turned", .glo "quotient", .keep "quotient", .glo "summed", .keep "summed"]
def hfa0_1 : List He.Fa := [.glo "halves_of", .keep "halves_of", .glo "d_of", .keep "d_of", .glo "is_curve", .keep "is_curve"]
noncomputable def hfn0_0 : List He.FnD := [hd0, hd1, hd2, hd3, hd4, hd5, hd6, hd7, hd8, hd9]
noncomputable def hfn0_1 : List He.FnD := [hd10, hd11]
noncomputable def hp0 : HdE.Pt4 := ⟨hfa0_0 ++ (hfa0_1), hfn0_0 ++ (hfn0_1)⟩
def hfa1_0 : List He.Fa := [.glo "need_curve", .keep "need_curve", .glo "together_of", .keep "together_of", .glo "is_on", .keep "is_on", .glo "need_point", .keep "need_point", .glo "opposite_of", .keep "opposite_of", .glo "slope_of", .keep "slope_of", .glo "sum_on", .keep "sum_on", .glo "multiple_on", .keep "multiple_on", .glo "is_point", .keep "is_point", .glo "opposite", .keep "opposite"]
def hfa1_1 : List He.Fa := [.glo "added", .keep "added", .glo "times_point", .keep "times_point", .glo "_law_draw_of", .keep "_law_draw_of"]
noncomputable def hfn1_0 : List He.FnD := [hd12, hd13, hd14, hd15, hd16, hd17, hd18, hd19, hd20, hd21]
noncomputable def hfn1_1 : List He.FnD := [hd22, hd23]
noncomputable def hp1 : HdE.Pt4 := ⟨hfa1_0 ++ (hfa1_1), hfn1_0 ++ (hfn1_1)⟩
def hfa2_0 : List He.Fa := [.glo "_law_next", .keep "_law_next", .glo "_law_lowest", .keep "_law_lowest", .glo "_law_sum", .keep "_law_sum", .glo "_law_product", .keep "_law_product", .glo "_law_minus", .keep "_law_minus", .glo "_law_over", .keep "_law_over", .glo "_law_told", .keep "_law_told", .glo "_law_small", .keep "_law_small", .glo "_law_is_single", .keep "_law_is_single", .glo "_law_between", .keep "_law_between"]
def hfa2_1 : List He.Fa := [.glo "_law_through", .keep "_law_through", .glo "_law_some", .keep "_law_some", .glo "_law_curve", .keep "_law_curve"]
noncomputable def hfn2_0 : List He.FnD := [hd24, hd25, hd26, hd27, hd28, hd29, hd30, hd31, hd32, hd33]
noncomputable def hfn2_1 : List He.FnD := [hd34, hd35]
noncomputable def hp2 : HdE.Pt4 := ⟨hfa2_0 ++ (hfa2_1), hfn2_0 ++ (hfn2_1)⟩
def hfa3_0 : List He.Fa := [.glo "_law_point", .keep "_law_point", .glo "_law_opposite", .keep "_law_opposite", .glo "_law_added", .keep "_law_added", .glo "_law_finite", .keep "_law_finite", .glo "_law_round_right", .keep "_law_round_right", .glo "law", .keep "law", .free "int", .free "isinstance", .free "bool", .free "abs", .free "tuple", .free "len", .free "all", .free "range"]
def hfa3_1 : List He.Fa := [.free "repr", .free "max", .int "MOST_TIMES" (60)]
noncomputable def hfn3_0 : List He.FnD := [hd36, hd37, hd38, hd39, hd40, hd41, hd42, hd43, hd44]
noncomputable def hp3 : HdE.Pt4 := ⟨hfa3_0 ++ (hfa3_1), hfn3_0⟩
noncomputable def hexs (K : PySem.W.Frag) : List Bool := [He.eqO (PySem.W.nsIn K cStatics "sys.int_max_str_digits") (some none)]
noncomputable def hex (K : PySem.W.Frag) : Bool := (hexs K).all id
noncomputable def hhs (K : PySem.W.Frag) : List Int := []
noncomputable def hhv (w : World) : List Int := []
theorem hex_at {K : PySem.W.Frag} (h : hex K = true) (i : Nat) {b : Bool} (e : (hexs K)[i]? = some b) : b = true := List.all_eq_true.mp h b (List.mem_of_getElem? e)
section
variable {w : World} {K : PySem.W.Frag} (S : HdE.SaysK hp0 hp1 hp2 hp3 hex hhs hhv w K)
include S
theorem hgl0 (i : Nat) (x : Str) (h : hp0.fa[i]? = some (.glo x)) : PySem.W.nsIn K mainGlobals x = some (some (.ref (He.ga K x))) := He.eqO_ok (S.1.1.fact i h)
theorem hkp0 (i : Nat) (x : Str) (h : hp0.fa[i]? = some (.keep x)) : PySem.W.keepIn K (.ref (He.ga K x)) = true := He.keep_ok (S.1.1.fact i h)
theorem hgl1 (i : Nat) (x : Str) (h : hp1.fa[i]? = some (.glo x)) : PySem.W.nsIn K mainGlobals x = some (some (.ref (He.ga K x))) := He.eqO_ok (S.2.1.fact i h)
theorem hkp1 (i : Nat) (x : Str) (h : hp1.fa[i]? = some (.keep x)) : PySem.W.keepIn K (.ref (He.ga K x)) = true := He.keep_ok (S.2.1.fact i h)
theorem hgl2 (i : Nat) (x : Str) (h : hp2.fa[i]? = some (.glo x)) : PySem.W.nsIn K mainGlobals x = some (some (.ref (He.ga K x))) := He.eqO_ok (S.2.2.1.fact i h)
theorem hkp2 (i : Nat) (x : Str) (h : hp2.fa[i]? = some (.keep x)) : PySem.W.keepIn K (.ref (He.ga K x)) = true := He.keep_ok (S.2.2.1.fact i h)
theorem hgl3 (i : Nat) (x : Str) (h : hp3.fa[i]? = some (.glo x)) : PySem.W.nsIn K mainGlobals x = some (some (.ref (He.ga K x))) := He.eqO_ok (S.2.2.2.fact i h)
theorem hkp3 (i : Nat) (x : Str) (h : hp3.fa[i]? = some (.keep x)) : PySem.W.keepIn K (.ref (He.ga K x)) = true := He.keep_ok (S.2.2.2.fact i h)
theorem hy_n0 : PySem.W.nsIn K mainGlobals "int" = some none := He.eqO_ok (S.2.2.2.fact 12 (f := .free "int") rfl)
theorem hy_n1 : PySem.W.nsIn K mainGlobals "isinstance" = some none := He.eqO_ok (S.2.2.2.fact 13 (f := .free "isinstance") rfl)
theorem hy_n2 : PySem.W.nsIn K mainGlobals "bool" = some none := He.eqO_ok (S.2.2.2.fact 14 (f := .free "bool") rfl)
theorem hy_n3 : PySem.W.nsIn K mainGlobals "abs" = some none := He.eqO_ok (S.2.2.2.fact 15 (f := .free "abs") rfl)
theorem hy_n4 : PySem.W.nsIn K mainGlobals "tuple" = some none := He.eqO_ok (S.2.2.2.fact 16 (f := .free "tuple") rfl)
theorem hy_n5 : PySem.W.nsIn K mainGlobals "len" = some none := He.eqO_ok (S.2.2.2.fact 17 (f := .free "len") rfl)
theorem hy_n6 : PySem.W.nsIn K mainGlobals "all" = some none := He.eqO_ok (S.2.2.2.fact 18 (f := .free "all") rfl)
theorem hy_n7 : PySem.W.nsIn K mainGlobals "range" = some none := He.eqO_ok (S.2.2.2.fact 19 (f := .free "range") rfl)
theorem hy_n8 : PySem.W.nsIn K mainGlobals "repr" = some none := He.eqO_ok (S.2.2.2.fact 20 (f := .free "repr") rfl)
theorem hy_n9 : PySem.W.nsIn K mainGlobals "max" = some none := He.eqO_ok (S.2.2.2.fact 21 (f := .free "max") rfl)
theorem hy_dig : PySem.W.nsIn K cStatics "sys.int_max_str_digits" = some none := He.eqO_ok (hex_at S.1.2.1 0 (by rfl))
end
theorem all_E {l : PySem.W.OpenLaw} {w : World} {K : PySem.W.Frag} {h : Heap} {mg : Str → Option Value} {fa : Addr} (X : K.In h) (S : HdE.SaysK hp0 hp1 hp2 hp3 hex hhs hhv w K) (G : h.Ns mainGlobals mg) (hfa_ : mg "law" = some (.ref fa)) :
    ∃ (fd : FuncData) (ms : Mks), (∀ p ∈ ms, p.2.1 ∈ ([] : List Addr)) ∧ MkK K ms ∧ (∀ (s : Shared) (u : Value), BindsTo s fd ⟨[u], []⟩ [("_law_script", u)]) ∧ ∀ base : Heap, TabF ms mg base → Fn (cfL l.prog w K mg base ms.tb) 11 fa fd ["_law_script"] (spM (cfL l.prog w K mg base ms.tb) 1 m_law) := by
  have E := fun (i : Nat) {b : Bool} (e : (hexs K)[i]? = some b) => hex_at S.1.2.1 i e
  have a0 := hgl0 S 0 "is_number" rfl
  obtain ⟨oc0, od0, sl0, kV0, dc0, pm0, an0, cd0, ct0, l0, c0⟩ := S.1.1.def_ 0 (d := hd0) rfl
  have k0 := hkp0 S 1 "is_number" rfl
  have a1 := hgl0 S 2 "common" rfl
  obtain ⟨oc1, od1, sl1, kV1, dc1, pm1, an1, cd1, ct1, l1, c1⟩ := S.1.1.def_ 1 (d := hd1) rfl
  have k1 := hkp0 S 3 "common" rfl
  have a2 := hgl0 S 4 "is_fraction" rfl
  obtain ⟨oc2, od2, sl2, kV2, dc2, pm2, an2, cd2, ct2, l2, c2⟩ := S.1.1.def_ 2 (d := hd2) rfl
  have k2 := hkp0 S 5 "is_fraction" rfl
  have a3 := hgl0 S 6 "pair_of" rfl
  obtain ⟨oc3, od3, sl3, kV3, dc3, pm3, an3, cd3, ct3, l3, c3⟩ := S.1.1.def_ 3 (d := hd3) rfl
  have k3 := hkp0 S 7 "pair_of" rfl
  have a4 := hgl0 S 8 "lowest" rfl
  obtain ⟨oc4, od4, sl4, kV4, dc4, pm4, an4, cd4, ct4, l4, c4⟩ := S.1.1.def_ 4 (d := hd4) rfl
  have k4 := hkp0 S 9 "lowest" rfl
  have a5 := hgl0 S 10 "sum_of_two" rfl
  obtain ⟨oc5, od5, sl5, kV5, dc5, pm5, an5, cd5, ct5, l5, c5⟩ := S.1.1.def_ 5 (d := hd5) rfl
  have k5 := hkp0 S 11 "sum_of_two" rfl
  have a6 := hgl0 S 12 "product" rfl
  obtain ⟨oc6, od6, sl6, kV6, dc6, pm6, an6, cd6, ct6, l6, c6⟩ := S.1.1.def_ 6 (d := hd6) rfl
  have k6 := hkp0 S 13 "product" rfl
  have a7 := hgl0 S 14 "turned" rfl
  obtain ⟨oc7, od7, sl7, kV7, dc7, pm7, an7, cd7, ct7, l7, c7⟩ := S.1.1.def_ 7 (d := hd7) rfl
  have k7 := hkp0 S 15 "turned" rfl
  have a8 := hgl0 S 16 "quotient" rfl
  obtain ⟨oc8, od8, sl8, kV8, dc8, pm8, an8, cd8, ct8, l8, c8⟩ := S.1.1.def_ 8 (d := hd8) rfl
  have k8 := hkp0 S 17 "quotient" rfl
  have a9 := hgl0 S 18 "summed" rfl
  obtain ⟨oc9, od9, sl9, kV9, dc9, pm9, an9, cd9, ct9, l9, c9⟩ := S.1.1.def_ 9 (d := hd9) rfl
  have k9 := hkp0 S 19 "summed" rfl
  have a10 := hgl0 S 20 "halves_of" rfl
  obtain ⟨oc10, od10, sl10, kV10, dc10, pm10, an10, cd10, ct10, l10, c10⟩ := S.1.1.def_ 10 (d := hd10) rfl
  have k10 := hkp0 S 21 "halves_of" rfl
  have a11 := hgl0 S 22 "d_of" rfl
  obtain ⟨oc11, od11, sl11, kV11, dc11, pm11, an11, cd11, ct11, l11, c11⟩ := S.1.1.def_ 11 (d := hd11) rfl
  have k11 := hkp0 S 23 "d_of" rfl
  have a12 := hgl0 S 24 "is_curve" rfl
  obtain ⟨oc12, od12, sl12, kV12, dc12, pm12, an12, cd12, ct12, l12, c12⟩ := S.2.1.def_ 0 (d := hd12) rfl
  have k12 := hkp0 S 25 "is_curve" rfl
  have a13 := hgl1 S 0 "need_curve" rfl
  obtain ⟨oc13, od13, sl13, kV13, dc13, pm13, an13, cd13, ct13, l13, c13⟩ := S.2.1.def_ 1 (d := hd13) rfl
  have k13 := hkp1 S 1 "need_curve" rfl
  have a14 := hgl1 S 2 "together_of" rfl
  obtain ⟨oc14, od14, sl14, kV14, dc14, pm14, an14, cd14, ct14, l14, c14⟩ := S.2.1.def_ 2 (d := hd14) rfl
  have k14 := hkp1 S 3 "together_of" rfl
  have a15 := hgl1 S 4 "is_on" rfl
  obtain ⟨oc15, od15, sl15, kV15, dc15, pm15, an15, cd15, ct15, l15, c15⟩ := S.2.1.def_ 3 (d := hd15) rfl
  have k15 := hkp1 S 5 "is_on" rfl
  have a16 := hgl1 S 6 "need_point" rfl
  obtain ⟨oc16, od16, sl16, kV16, dc16, pm16, an16, cd16, ct16, l16, c16⟩ := S.2.1.def_ 4 (d := hd16) rfl
  have k16 := hkp1 S 7 "need_point" rfl
  have a17 := hgl1 S 8 "opposite_of" rfl
  obtain ⟨oc17, od17, sl17, kV17, dc17, pm17, an17, cd17, ct17, l17, c17⟩ := S.2.1.def_ 5 (d := hd17) rfl
  have k17 := hkp1 S 9 "opposite_of" rfl
  have a18 := hgl1 S 10 "slope_of" rfl
  obtain ⟨oc18, od18, sl18, kV18, dc18, pm18, an18, cd18, ct18, l18, c18⟩ := S.2.1.def_ 6 (d := hd18) rfl
  have k18 := hkp1 S 11 "slope_of" rfl
  have a19 := hgl1 S 12 "sum_on" rfl
  obtain ⟨oc19, od19, sl19, kV19, dc19, pm19, an19, cd19, ct19, l19, c19⟩ := S.2.1.def_ 7 (d := hd19) rfl
  have k19 := hkp1 S 13 "sum_on" rfl
  have a20 := hgl1 S 14 "multiple_on" rfl
  obtain ⟨oc20, od20, sl20, kV20, dc20, pm20, an20, cd20, ct20, l20, c20⟩ := S.2.1.def_ 8 (d := hd20) rfl
  have k20 := hkp1 S 15 "multiple_on" rfl
  have a21 := hgl1 S 16 "is_point" rfl
  obtain ⟨oc21, od21, sl21, kV21, dc21, pm21, an21, cd21, ct21, l21, c21⟩ := S.2.1.def_ 9 (d := hd21) rfl
  have k21 := hkp1 S 17 "is_point" rfl
  have a22 := hgl1 S 18 "opposite" rfl
  obtain ⟨oc22, od22, sl22, kV22, dc22, pm22, an22, cd22, ct22, l22, c22⟩ := S.2.1.def_ 10 (d := hd22) rfl
  have k22 := hkp1 S 19 "opposite" rfl
  have a23 := hgl1 S 20 "added" rfl
  obtain ⟨oc23, od23, sl23, kV23, dc23, pm23, an23, cd23, ct23, l23, c23⟩ := S.2.1.def_ 11 (d := hd23) rfl
  have k23 := hkp1 S 21 "added" rfl
  have a24 := hgl1 S 22 "times_point" rfl
  obtain ⟨oc24, od24, sl24, kV24, dc24, pm24, an24, cd24, ct24, l24, c24⟩ := S.2.2.1.def_ 0 (d := hd24) rfl
  have k24 := hkp1 S 23 "times_point" rfl
  have a25 := hgl1 S 24 "_law_draw_of" rfl
  obtain ⟨oc25, od25, sl25, kV25, dc25, pm25, an25, cd25, ct25, l25, c25⟩ := S.2.2.1.def_ 1 (d := hd25) rfl
  have k25 := hkp1 S 25 "_law_draw_of" rfl
  have a26 := hgl2 S 0 "_law_next" rfl
  obtain ⟨oc26, od26, sl26, kV26, dc26, pm26, an26, cd26, ct26, l26, c26⟩ := S.2.2.1.def_ 2 (d := hd26) rfl
  have k26 := hkp2 S 1 "_law_next" rfl
  have a27 := hgl2 S 2 "_law_lowest" rfl
  obtain ⟨oc27, od27, sl27, kV27, dc27, pm27, an27, cd27, ct27, l27, c27⟩ := S.2.2.1.def_ 3 (d := hd27) rfl
  have k27 := hkp2 S 3 "_law_lowest" rfl
  have a28 := hgl2 S 4 "_law_sum" rfl
  obtain ⟨oc28, od28, sl28, kV28, dc28, pm28, an28, cd28, ct28, l28, c28⟩ := S.2.2.1.def_ 4 (d := hd28) rfl
  have k28 := hkp2 S 5 "_law_sum" rfl
  have a29 := hgl2 S 6 "_law_product" rfl
  obtain ⟨oc29, od29, sl29, kV29, dc29, pm29, an29, cd29, ct29, l29, c29⟩ := S.2.2.1.def_ 5 (d := hd29) rfl
  have k29 := hkp2 S 7 "_law_product" rfl
  have a30 := hgl2 S 8 "_law_minus" rfl
  obtain ⟨oc30, od30, sl30, kV30, dc30, pm30, an30, cd30, ct30, l30, c30⟩ := S.2.2.1.def_ 6 (d := hd30) rfl
  have k30 := hkp2 S 9 "_law_minus" rfl
  have a31 := hgl2 S 10 "_law_over" rfl
  obtain ⟨oc31, od31, sl31, kV31, dc31, pm31, an31, cd31, ct31, l31, c31⟩ := S.2.2.1.def_ 7 (d := hd31) rfl
  have k31 := hkp2 S 11 "_law_over" rfl
  have a32 := hgl2 S 12 "_law_told" rfl
  obtain ⟨oc32, od32, sl32, kV32, dc32, pm32, an32, cd32, ct32, l32, c32⟩ := S.2.2.1.def_ 8 (d := hd32) rfl
  have k32 := hkp2 S 13 "_law_told" rfl
  have a33 := hgl2 S 14 "_law_small" rfl
  obtain ⟨oc33, od33, sl33, kV33, dc33, pm33, an33, cd33, ct33, l33, c33⟩ := S.2.2.1.def_ 9 (d := hd33) rfl
  have k33 := hkp2 S 15 "_law_small" rfl
  have a34 := hgl2 S 16 "_law_is_single" rfl
  obtain ⟨oc34, od34, sl34, kV34, dc34, pm34, an34, cd34, ct34, l34, c34⟩ := S.2.2.1.def_ 10 (d := hd34) rfl
  have k34 := hkp2 S 17 "_law_is_single" rfl
  have a35 := hgl2 S 18 "_law_between" rfl
  obtain ⟨oc35, od35, sl35, kV35, dc35, pm35, an35, cd35, ct35, l35, c35⟩ := S.2.2.1.def_ 11 (d := hd35) rfl
  have k35 := hkp2 S 19 "_law_between" rfl
  have a36 := hgl2 S 20 "_law_through" rfl
  obtain ⟨oc36, od36, sl36, kV36, dc36, pm36, an36, cd36, ct36, l36, c36⟩ := S.2.2.2.def_ 0 (d := hd36) rfl
  have k36 := hkp2 S 21 "_law_through" rfl
  have a37 := hgl2 S 22 "_law_some" rfl
  obtain ⟨oc37, od37, sl37, kV37, dc37, pm37, an37, cd37, ct37, l37, c37⟩ := S.2.2.2.def_ 1 (d := hd37) rfl
  have k37 := hkp2 S 23 "_law_some" rfl
  have a38 := hgl2 S 24 "_law_curve" rfl
  obtain ⟨oc38, od38, sl38, kV38, dc38, pm38, an38, cd38, ct38, l38, c38⟩ := S.2.2.2.def_ 2 (d := hd38) rfl
  have k38 := hkp2 S 25 "_law_curve" rfl
  have a39 := hgl3 S 0 "_law_point" rfl
  obtain ⟨oc39, od39, sl39, kV39, dc39, pm39, an39, cd39, ct39, l39, c39⟩ := S.2.2.2.def_ 3 (d := hd39) rfl
  have k39 := hkp3 S 1 "_law_point" rfl
  have a40 := hgl3 S 2 "_law_opposite" rfl
  obtain ⟨oc40, od40, sl40, kV40, dc40, pm40, an40, cd40, ct40, l40, c40⟩ := S.2.2.2.def_ 4 (d := hd40) rfl
  have k40 := hkp3 S 3 "_law_opposite" rfl
  have a41 := hgl3 S 4 "_law_added" rfl
  obtain ⟨oc41, od41, sl41, kV41, dc41, pm41, an41, cd41, ct41, l41, c41⟩ := S.2.2.2.def_ 5 (d := hd41) rfl
  have k41 := hkp3 S 5 "_law_added" rfl
  have a42 := hgl3 S 6 "_law_finite" rfl
  obtain ⟨oc42, od42, sl42, kV42, dc42, pm42, an42, cd42, ct42, l42, c42⟩ := S.2.2.2.def_ 6 (d := hd42) rfl
  have k42 := hkp3 S 7 "_law_finite" rfl
  have a43 := hgl3 S 8 "_law_round_right" rfl
  obtain ⟨oc43, od43, sl43, kV43, dc43, pm43, an43, cd43, ct43, l43, c43⟩ := S.2.2.2.def_ 7 (d := hd43) rfl
  have k43 := hkp3 S 9 "_law_round_right" rfl
  have a44 := hgl3 S 10 "law" rfl
  obtain ⟨oc44, od44, sl44, kV44, dc44, pm44, an44, cd44, ct44, l44, c44⟩ := S.2.2.2.def_ 8 (d := hd44) rfl
  have k44 := hkp3 S 11 "law" rfl
  have n0 := hy_n0 S
  have n1 := hy_n1 S
  have n2 := hy_n2 S
  have n3 := hy_n3 S
  have n4 := hy_n4 S
  have n5 := hy_n5 S
  have n6 := hy_n6 S
  have n7 := hy_n7 S
  have n8 := hy_n8 S
  have n9 := hy_n9 S
  obtain ⟨t0, e0⟩ := HdE.int_in (S.2.2.2.fact 22 (f := .int "MOST_TIMES" (60)) rfl)
  have dig := hy_dig S
  exact all_mk (l := l) (w := w) (ts := []) X G hfa_ a0 l0 c0 k0 a1 l1 c1 k1 a2 l2 c2 k2 a3 l3 c3 k3 a4 l4 c4 k4 a5 l5 c5 k5 a6 l6 c6 k6 a7 l7 c7 k7 a8 l8 c8 k8 a9 l9 c9 k9 a10 l10 c10 k10 a11 l11 c11 k11 a12 l12 c12 k12 a13 l13 c13 k13 a14 l14 c14 k14 a15 l15 c15 k15 a16 l16 c16 k16 a17 l17 c17 k17 a18 l18 c18 k18 a19 l19 c19 k19 a20 l20 c20 k20 a21 l21 c21 k21 a22 l22 c22 k22 a23 l23 c23 k23 a24 l24 c24 k24 a25 l25 c25 k25 a26 l26 c26 k26 a27 l27 c27 k27 a28 l28 c28 k28 a29 l29 c29 k29 a30 l30 c30 k30 a31 l31 c31 k31 a32 l32 c32 k32 a33 l33 c33 k33 a34 l34 c34 k34 a35 l35 c35 k35 a36 l36 c36 k36 a37 l37 c37 k37 a38 l38 c38 k38 a39 l39 c39 k39 a40 l40 c40 k40 a41 l41 c41 k41 a42 l42 c42 k42 a43 l43 c43 k43 a44 l44 c44 k44 n0 n1 n2 n3 n4 n5 n6 n7 n8 n9 e0 dig
end CWL
end
namespace CWL.Hd
open PySem PySem.W PySem.Calls PyProof.Rows
abbrev R : OpenRow := OpenLaw.row PySem.Challenge.rw_cubicway_k22_multiples
abbrev qv : Program := view R.prog [54]
def names0 : List PySem.Str := [PySem.Str.ofString "Refused", PySem.Str.ofString "BadNumber", PySem.Str.ofString "BadCurve", PySem.Str.ofString "BadPoint", PySem.Str.ofString "is_number", PySem.Str.ofString "common", PySem.Str.ofString "is_fraction", PySem.Str.ofString "pair_of", PySem.Str.ofString "lowest", PySem.Str.ofString "sum_of_two", PySem.Str.ofString "product", PySem.Str.ofString "turned", PySem.Str.ofString "quotient", PySem.Str.ofString "summed", PySem.Str.ofString "halves_of", PySem.Str.ofString "d_of", PySem.Str.ofString "is_curve", PySem.Str.ofString "need_curve", PySem.Str.ofString "MOST_TIMES", PySem.Str.ofString "together_of", PySem.Str.ofString "is_on", PySem.Str.ofString "need_point", PySem.Str.ofString "opposite_of", PySem.Str.ofString "slope_of", PySem.Str.ofString "sum_on", PySem.Str.ofString "multiple_on", PySem.Str.ofString "is_point", PySem.Str.ofString "opposite", PySem.Str.ofString "added", PySem.Str.ofString "times_point"]
def names1 : List PySem.Str := [PySem.Str.ofString "_law_draw_of", PySem.Str.ofString "_law_next", PySem.Str.ofString "_law_lowest", PySem.Str.ofString "_law_sum", PySem.Str.ofString "_law_product", PySem.Str.ofString "_law_minus", PySem.Str.ofString "_law_over", PySem.Str.ofString "_law_told", PySem.Str.ofString "_law_small", PySem.Str.ofString "_law_is_single", PySem.Str.ofString "_law_between", PySem.Str.ofString "_law_through", PySem.Str.ofString "_law_some", PySem.Str.ofString "_law_curve", PySem.Str.ofString "_law_point", PySem.Str.ofString "_law_opposite", PySem.Str.ofString "_law_added", PySem.Str.ofString "_law_finite", PySem.Str.ofString "_law_round_right"]
def names : List PySem.Str := names0 ++ names1
noncomputable abbrev hk : Hook := CW.HdE.hookK 900 hp0 hp1 hp2 hp3 hex hhs hhv
noncomputable def fr (s : SharedT) : Frag := He.frG (HandSHeadRun.getT s) (List.range 900)
noncomputable def ob (s : SharedT) : CW.HdE.Al := (CW.HdE.ob0 hp0 hex hhs (fr s), He.obsE hp1.fa hp1.fn (fr s), He.obsE hp2.fa hp2.fn (fr s), He.obsE hp3.fa hp3.fn (fr s))
theorem ob_eq (s : SharedT) : ob s = hk.obs s.abs := by
  have e : HandSHeadRun.getT s = s.abs.heap.get? := funext fun a => HandSHeadRun.getT_eq s a
  unfold ob fr
  rw [e]
  rfl
set_option maxRecDepth 100000 in
set_option maxHeartbeats 0 in
theorem runL_0 (w : World) : HandSHeadRun.RunEq R qv Hook.none (fun _ => ()) 6000 names (w.withFollow "special-get-raises" false) := by
  intro os
  kernel_rfl
set_option maxRecDepth 100000 in
set_option maxHeartbeats 0 in
theorem runL_1 (w : World) : HandSHeadRun.RunEq R qv Hook.none (fun _ => ()) 6000 names (w.withFollow "special-get-raises" true) := by
  intro os
  kernel_rfl
theorem runL (w : World) : HandSHeadRun.RunEq R qv Hook.none (fun _ => ()) 6000 names w := byRow2 "special-get-raises" (P := fun w => HandSHeadRun.RunEq R qv Hook.none (fun _ => ()) 6000 names w) runL_0 runL_1 w
set_option maxRecDepth 100000 in
set_option maxHeartbeats 0 in
theorem run0_0 (w : World) : CW.HdE.RunO R (fun s => CW.HdE.ob0 hp0 hex hhs (fr s)) (fun w => (He.valE hp0.fn, true, hhv w)) 6000 (w.withFollow "special-get-raises" false) := by
  intro os
  kernel_rfl
set_option maxRecDepth 100000 in
set_option maxHeartbeats 0 in
theorem run0_1 (w : World) : CW.HdE.RunO R (fun s => CW.HdE.ob0 hp0 hex hhs (fr s)) (fun w => (He.valE hp0.fn, true, hhv w)) 6000 (w.withFollow "special-get-raises" true) := by
  intro os
  kernel_rfl
theorem run0 (w : World) : CW.HdE.RunO R (fun s => CW.HdE.ob0 hp0 hex hhs (fr s)) (fun w => (He.valE hp0.fn, true, hhv w)) 6000 w := byRow2 "special-get-raises" (P := fun w => CW.HdE.RunO R (fun s => CW.HdE.ob0 hp0 hex hhs (fr s)) (fun w => (He.valE hp0.fn, true, hhv w)) 6000 w) run0_0 run0_1 w
set_option maxRecDepth 100000 in
set_option maxHeartbeats 0 in
theorem run1_0 (w : World) : CW.HdE.RunO R (fun s => He.obsE hp1.fa hp1.fn (fr s)) (fun _ => He.valE hp1.fn) 6000 (w.withFollow "special-get-raises" false) := by
  intro os
  kernel_rfl
set_option maxRecDepth 100000 in
set_option maxHeartbeats 0 in
theorem run1_1 (w : World) : CW.HdE.RunO R (fun s => He.obsE hp1.fa hp1.fn (fr s)) (fun _ => He.valE hp1.fn) 6000 (w.withFollow "special-get-raises" true) := by
  intro os
  kernel_rfl
theorem run1 (w : World) : CW.HdE.RunO R (fun s => He.obsE hp1.fa hp1.fn (fr s)) (fun _ => He.valE hp1.fn) 6000 w := byRow2 "special-get-raises" (P := fun w => CW.HdE.RunO R (fun s => He.obsE hp1.fa hp1.fn (fr s)) (fun _ => He.valE hp1.fn) 6000 w) run1_0 run1_1 w
set_option maxRecDepth 100000 in
set_option maxHeartbeats 0 in
theorem run2_0 (w : World) : CW.HdE.RunO R (fun s => He.obsE hp2.fa hp2.fn (fr s)) (fun _ => He.valE hp2.fn) 6000 (w.withFollow "special-get-raises" false) := by
  intro os
  kernel_rfl
set_option maxRecDepth 100000 in
set_option maxHeartbeats 0 in
theorem run2_1 (w : World) : CW.HdE.RunO R (fun s => He.obsE hp2.fa hp2.fn (fr s)) (fun _ => He.valE hp2.fn) 6000 (w.withFollow "special-get-raises" true) := by
  intro os
  kernel_rfl
theorem run2 (w : World) : CW.HdE.RunO R (fun s => He.obsE hp2.fa hp2.fn (fr s)) (fun _ => He.valE hp2.fn) 6000 w := byRow2 "special-get-raises" (P := fun w => CW.HdE.RunO R (fun s => He.obsE hp2.fa hp2.fn (fr s)) (fun _ => He.valE hp2.fn) 6000 w) run2_0 run2_1 w
set_option maxRecDepth 100000 in
set_option maxHeartbeats 0 in
theorem run3_0 (w : World) : CW.HdE.RunO R (fun s => He.obsE hp3.fa hp3.fn (fr s)) (fun _ => He.valE hp3.fn) 6000 (w.withFollow "special-get-raises" false) := by
  intro os
  kernel_rfl
set_option maxRecDepth 100000 in
set_option maxHeartbeats 0 in
theorem run3_1 (w : World) : CW.HdE.RunO R (fun s => He.obsE hp3.fa hp3.fn (fr s)) (fun _ => He.valE hp3.fn) 6000 (w.withFollow "special-get-raises" true) := by
  intro os
  kernel_rfl
theorem run3 (w : World) : CW.HdE.RunO R (fun s => He.obsE hp3.fa hp3.fn (fr s)) (fun _ => He.valE hp3.fn) 6000 w := byRow2 "special-get-raises" (P := fun w => CW.HdE.RunO R (fun s => He.obsE hp3.fa hp3.fn (fr s)) (fun _ => He.valE hp3.fn) 6000 w) run3_0 run3_1 w
theorem run (w : World) : HandSHeadRun.RunEq R qv hk ob 6000 names w := CW.HdE.run_eq (runL w) ((run0 w).pair ((run1 w).pair ((run2 w).pair (run3 w))))
end CWL.Hd
section
set_option maxRecDepth 100000
set_option maxHeartbeats 2000000
open PySem PySem.Spec PyProof.Rows L2 CW
namespace CWL
theorem is_number_int (i : Int) (s : S) : m_is_number [.p (.int i)] s = .ok (.p (.bl true)) s := by
  simp [m_is_number, defM_if, B_is_number]
theorem common_wh (s : S) : ∀ (n : Nat) (a b : Int), b.natAbs < n →
   ∃ c, whF (tB (op2 (eqD true) (vE 1) (cE (.int 0)))) (parF 0 1 [vE 1, (op2 (modD) (vE 0) (vE 1))]) [some (.p (.int a)), some (.p (.int b))] s = .ok (.nx [some (.p (.int c)), some (.p (.int 0))]) s ∧ c.natAbs = Int.gcd a b := by
  intro n
  induction n with
  | zero => intro a b h; omega
  | succ n ih =>
    intro a b h
    rw [whF_eq]
    by_cases hb : b = 0
    · subst hb
      exact ⟨a, by simp [bnd_ev], by simp⟩
    · obtain ⟨c, h1, h2⟩ := ih b (a.fmod b) (Nat.lt_of_lt_of_le (fmod_less a hb) (Nat.le_of_lt_succ h))
      refine ⟨c, ?_, by rw [h2, gcd_mod a b hb]⟩
      simp [bnd_ev, hb]
      exact h1
theorem common_ok (a b : Int) (s : S) : m_common [.p (.int a), .p (.int b)] s = .ok (.p (.int (Int.gcd a b))) s := by
  obtain ⟨c, h1, h2⟩ := common_wh s _ a b (Nat.lt_succ_self _)
  simp [m_common, defM_if, B_common, h1, h2]
theorem is_fraction_ok (q : Rat) (s : S) : m_is_fraction [.p (fq q)] s = .ok (.p (.bl true)) s := by
  unfold fq
  split
  · simp [m_is_fraction, defM_if, B_is_fraction, is_number_int]
  · rename_i h
    have h1 : (1 : Int) < q.den := by have := q.den_nz; omega
    have h2 : Int.gcd q.num q.den = 1 := q.reduced
    simp [m_is_fraction, defM_if, B_is_fraction, is_number_int, common_ok, h1, h2]
theorem pair_of_ok (q : Rat) (s : S) : m_pair_of [.p (fq q)] s = .ok (.p (.tup [.int q.num, .int q.den])) s := by
  unfold fq
  split
  · rename_i h
    simp [m_pair_of, defM_if, B_pair_of, h]
  · simp [m_pair_of, defM_if, B_pair_of]
theorem lowest_ok (t b : Int) (s : S) (h0 : b ≠ 0) (hb : szi b 8900) : m_lowest [.p (.int t), .p (.int b)] s = .ok (.p (fq (Rat.divInt t b))) s := by
  obtain ⟨hg, e1, e2⟩ := low_eq (t := t) (b := b) h0 rfl
  have hgb : szi (b.sign * (Int.gcd t b : Nat)) 8900 := by
    refine Nat.lt_of_le_of_lt ?_ hb
    conv => rhs; rw [e2, Int.natAbs_mul]
    exact Nat.le_mul_of_pos_left _ (by have := (Rat.divInt t b).den_nz; omega)
  generalize hq : Rat.divInt t b = q at *
  generalize hgg : b.sign * (Int.gcd t b : Nat) = g at *
  have hgs : (if 0 < b then ((Int.gcd t b : Nat) : Int) else -((Int.gcd t b : Nat) : Int)) = g := by
    rw [← hgg]
    split
    · rename_i h; rw [Int.sign_eq_one_of_pos h, Int.one_mul]
    · rename_i h; rw [Int.sign_eq_neg_one_of_neg (by omega), Int.neg_one_mul]
  have d1 : divOk t g := hgb.divOk (by decide) (by decide) hg
  have d2 : divOk b g := hgb.divOk (by decide) (by decide) hg
  have q1 : t.fdiv g = q.num := by rw [e1]; exact fdiv_exact hg
  have q2 : b.fdiv g = q.den := by rw [e2]; exact fdiv_exact hg
  have hd : ((q.den : Int) = 1) = (q.den = 1) := propext (by omega)
  unfold fq
  by_cases hp : 0 < b
  · rw [if_pos hp] at hgs
    by_cases h1 : q.den = 1
    · simp [m_lowest, defM_if, B_lowest, common_ok, hp, hgs, d1, d2, q1, q2, h1]
    · simp [m_lowest, defM_if, B_lowest, common_ok, hp, hgs, d1, d2, q1, q2, h1, hd]
  · rw [if_neg hp] at hgs
    by_cases h1 : q.den = 1
    · simp [m_lowest, defM_if, B_lowest, common_ok, hp, hgs, d1, d2, q1, q2, h1]
    · simp [m_lowest, defM_if, B_lowest, common_ok, hp, hgs, d1, d2, q1, q2, h1, hd]
theorem sum_of_two_ok (a b : Rat) (s : S) (h : hz a + hz b ≤ 8800) : m_sum_of_two [.p (fq a), .p (fq b)] s = .ok (.p (fq (a + b))) s := by
  have o1 : mulOk a.num b.den := mulOk_szi (hz_num a) (hz_den b) (by omega) (hz_pos a) (hz_pos b)
  have o2 : mulOk b.num a.den := mulOk_szi (hz_num b) (hz_den a) (by omega) (hz_pos b) (hz_pos a)
  have o3 : mulOk a.den b.den := mulOk_szi (hz_den a) (hz_den b) (by omega) (hz_pos a) (hz_pos b)
  have hd : (a.den : Int) * b.den ≠ 0 := Int.mul_ne_zero (by have := a.den_nz; omega) (by have := b.den_nz; omega)
  have e : a + b = Rat.divInt (a.num * b.den + b.num * a.den) ((a.den : Int) * b.den) := by
    rw [Rat.add_def', ← Rat.divInt_ofNat, Int.natCast_mul]
  rw [e]
  have hl := lowest_ok (a.num * b.den + b.num * a.den) ((a.den : Int) * b.den) s hd (((hz_den a).mul (hz_den b)).mono (by omega))
  simp [m_sum_of_two, defM_if, B_sum_of_two, pair_of_ok, o1, o2, o3, hl]
theorem product_ok (a b : Rat) (s : S) (h : hz a + hz b ≤ 8800) : m_product [.p (fq a), .p (fq b)] s = .ok (.p (fq (a * b))) s := by
  have o1 : mulOk a.num b.num := mulOk_szi (hz_num a) (hz_num b) (by omega) (hz_pos a) (hz_pos b)
  have o3 : mulOk a.den b.den := mulOk_szi (hz_den a) (hz_den b) (by omega) (hz_pos a) (hz_pos b)
  have hd : (a.den : Int) * b.den ≠ 0 := Int.mul_ne_zero (by have := a.den_nz; omega) (by have := b.den_nz; omega)
  have e : a * b = Rat.divInt (a.num * b.num) ((a.den : Int) * b.den) := by
    rw [Rat.mul_def', ← Rat.divInt_ofNat, Int.natCast_mul]
  rw [e]
  have hl := lowest_ok (a.num * b.num) ((a.den : Int) * b.den) s hd (((hz_den a).mul (hz_den b)).mono (by omega))
  simp [m_product, defM_if, B_product, pair_of_ok, o1, o3, hl]
theorem turned_ok (a : Rat) (s : S) (h : hz a ≤ 8000) : m_turned [.p (fq a)] s = .ok (.p (fq (-a))) s := by
  have hl := product_ok (-1) a s (by
    have : hz (-1) = 1 := by decide
    omega)
  have e : (fq (-1)) = .int (-1) := rfl
  rw [e, Rat.neg_mul, Rat.one_mul] at hl
  simp [m_turned, defM_if, B_turned, hl]
theorem quotient_ok (a b : Rat) (s : S) (hb : b ≠ 0) (h : hz a + hz b ≤ 8800) : m_quotient [.p (fq a), .p (fq b)] s = .ok (.p (fq (a / b))) s := by
  have h0 : b.num ≠ 0 := fun h => hb (Rat.num_eq_zero.mp h)
  have h1 := lowest_ok b.den b.num s h0 ((hz_num b).mono (by omega))
  rw [← Rat.inv_def] at h1
  have h2 := product_ok a b⁻¹ s (by have := hz_inv b; omega)
  rw [← Rat.div_def] at h2
  simp [m_quotient, defM_if, B_quotient, pair_of_ok, h1, h2]
theorem summed_ok (rows : List (List Rat)) (v : Rat) (s : S) (hv : sumR 0 rows = v) (h : totZ rows ≤ 8700) : m_summed [.p (.lst (rows.map fun r => .tup (r.map fq)))] s = .ok (.p (fq v)) s :=
  sumB_ok (pr := m_product) (su := m_sum_of_two) product_ok sum_of_two_ok s .tup (hm_tup s) rows v hv h
theorem z1 : hz 1 = 1 := by decide
theorem zm1 : hz (-1) = 1 := by decide
theorem z2 : hz 2 = 2 := by decide
theorem z4 : hz 4 = 3 := by decide
theorem z9 : hz 9 = 4 := by decide
theorem z8 : hz (-8) = 4 := by decide
theorem z27 : hz (-27) = 5 := by decide
section
variable {W : Int} {n : Nat} {a1 a2 a3 a4 a6 : Rat}
theorem halves_of_ok (c : Cv W n a1 a2 a3 a4 a6) (hn : n ≤ 370) (s : S) : m_halves_of [.p (.tup [fq a1, fq a2, fq a3, fq a4, fq a6])] s =
    .ok (.p (.tup [fq (b2 a1 a2 a3 a4 a6), fq (b4 a1 a2 a3 a4 a6), fq (b6 a1 a2 a3 a4 a6), fq (b8 a1 a2 a3 a4 a6)])) s := by
  have e1 := c.h1.hz c.W0 c.hw
  have e2 := c.h2.hz c.W0 c.hw
  have e3 := c.h3.hz c.W0 c.hw
  have e4 := c.h4.hz c.W0 c.hw
  have e6 := c.h6.hz c.W0 c.hw
  have s1 : m_summed [.p (.lst [.tup [fq a1, fq a1], .tup [.int 4, fq a2]])] s = .ok (.p (fq (b2 a1 a2 a3 a4 a6))) s :=
    summed_ok [[a1, a1], [4, a2]] _ s (by simp [sumR, prodR, b2]; try grind) (by simp [totZ, totR, z4]; omega)
  have s2 : m_summed [.p (.lst [.tup [.int 2, fq a4], .tup [fq a1, fq a3]])] s = .ok (.p (fq (b4 a1 a2 a3 a4 a6))) s :=
    summed_ok [[2, a4], [a1, a3]] _ s (by simp [sumR, prodR, b4]; try grind) (by simp [totZ, totR, z2]; omega)
  have s3 : m_summed [.p (.lst [.tup [fq a3, fq a3], .tup [.int 4, fq a6]])] s = .ok (.p (fq (b6 a1 a2 a3 a4 a6))) s :=
    summed_ok [[a3, a3], [4, a6]] _ s (by simp [sumR, prodR, b6]; try grind) (by simp [totZ, totR, z4]; omega)
  have s4 : m_summed [.p (.lst [.tup [fq a1, fq a1, fq a6], .tup [.int 4, fq a2, fq a6], .tup [.int (-1), fq a1, fq a3, fq a4], .tup [fq a2, fq a3, fq a3], .tup [.int (-1), fq a4, fq a4]])] s = .ok (.p (fq (b8 a1 a2 a3 a4 a6))) s :=
    summed_ok [[a1, a1, a6], [4, a2, a6], [-1, a1, a3, a4], [a2, a3, a3], [-1, a4, a4]] _ s (by simp [sumR, prodR, b8]; try grind) (by simp [totZ, totR, z4, zm1]; omega)
  simp [m_halves_of, defM_if, B_halves_of, s1, s2, s3, s4]
theorem d_of_ok (c : Cv W n a1 a2 a3 a4 a6) (hn : n ≤ 370) (s : S) : m_d_of [.p (.tup [fq a1, fq a2, fq a3, fq a4, fq a6])] s = .ok (.p (fq (dd a1 a2 a3 a4 a6))) s := by
  have e2 := c.b2.hz c.W0 c.hw
  have e4 := c.b4.hz c.W0 c.hw
  have e6 := c.b6.hz c.W0 c.hw
  have e8 := c.b8.hz c.W0 c.hw
  have h := halves_of_ok c hn s
  have s1 : m_summed [.p (.lst [.tup [.int 9, fq (b2 a1 a2 a3 a4 a6), fq (b4 a1 a2 a3 a4 a6), fq (b6 a1 a2 a3 a4 a6)], .tup [.int (-1), fq (b2 a1 a2 a3 a4 a6), fq (b2 a1 a2 a3 a4 a6), fq (b8 a1 a2 a3 a4 a6)],
      .tup [.int (-8), fq (b4 a1 a2 a3 a4 a6), fq (b4 a1 a2 a3 a4 a6), fq (b4 a1 a2 a3 a4 a6)], .tup [.int (-27), fq (b6 a1 a2 a3 a4 a6), fq (b6 a1 a2 a3 a4 a6)]])] s = .ok (.p (fq (dd a1 a2 a3 a4 a6))) s :=
    summed_ok [[9, b2 a1 a2 a3 a4 a6, b4 a1 a2 a3 a4 a6, b6 a1 a2 a3 a4 a6], [-1, b2 a1 a2 a3 a4 a6, b2 a1 a2 a3 a4 a6, b8 a1 a2 a3 a4 a6], [-8, b4 a1 a2 a3 a4 a6, b4 a1 a2 a3 a4 a6, b4 a1 a2 a3 a4 a6], [-27, b6 a1 a2 a3 a4 a6, b6 a1 a2 a3 a4 a6]] _ s
      (by simp [sumR, prodR, dd, dD]; try grind) (by simp [totZ, totR, z9, z8, z27, zm1]; omega)
  simp [m_d_of, defM_if, B_d_of, h, s1]
theorem all_fr (qs : List Rat) (hl : qs.length ≤ 100) (s : S) : lcE true (rowI (vE 0)) [1] (setG 1) yesT (calE m_is_fraction [vE 1]) [some (.p (.tup (qs.map fq))), none] s = .ok (.p (.lst (qs.map fun _ => .bl true))) s := by
  rw [lcE_all (F := fun x => [some (.p (.tup (qs.map fq))), some (.p x)]) (f := fun _ => .bl true) (xs := qs.map fq) (s1 := s) (rowI_ev (by simp)) (by rw [List.length_map, sizeLine_eq]; omega)
    (fun x hx => by
      obtain ⟨q, _, rfl⟩ := List.mem_map.mp hx
      simp [is_fraction_ok])]
  simp [Function.comp_def]
theorem is_curve_ok (c : Cv W n a1 a2 a3 a4 a6) (hn : n ≤ 370) (s : S) : m_is_curve [.p (.tup [fq a1, fq a2, fq a3, fq a4, fq a6])] s = .ok (.p (.bl (!decide (dd a1 a2 a3 a4 a6 = 0)))) s := by
  have h1 := all_fr [a1, a2, a3, a4, a6] (by simp) s
  have h2 := all_trues (s := s) [a1, a2, a3, a4, a6]
  simp only [List.map_cons, List.map_nil] at h1 h2
  simp [m_is_curve, defM_if, B_is_curve, h1, h2, d_of_ok c hn s, ne_fq0]
end
abbrev dS (pre : S) (c t d : Int) (post : S) : S := pre ++ some (O.lst [.int c, .int t, .int d]) :: post
theorem at_mid (pre post : S) (o : Option O) : (pre ++ o :: post)[pre.length]? = some o := by
  rw [List.getElem?_append_right (Nat.le_refl _), Nat.sub_self]
  rfl
theorem set_mid (pre post : S) (a b : Option O) : (pre ++ a :: post).set pre.length b = pre ++ b :: post := by
  rw [List.set_append_right _ _ (Nat.le_refl _), Nat.sub_self]
  rfl
theorem lsAt_mid (pre post : S) (xs : List P) : lsAt pre.length (pre ++ some (O.lst xs) :: post) = some xs := by
  unfold lsAt
  rw [at_mid]
theorem fin_mid (pre post r : S) (xs ys : List P) (x : P) : fin (pre ++ some (O.lst xs) :: post) (.p x) (pre ++ some (O.lst ys) :: post ++ r) = .ok (.p x) (pre ++ some (O.lst ys) :: post) := by
  have hl : (pre ++ some (O.lst xs) :: post).length = (pre ++ some (O.lst ys) :: post).length := by simp
  have hs : pre ++ some (O.lst ys) :: post ++ r = pre ++ some (O.lst ys) :: (post ++ r) := by simp
  unfold fin
  dsimp only
  rw [if_pos]
  · rw [hl, List.take_left]
  · rw [hs]
    refine ⟨by simp, fun i kvs hi hd => .inl ?_, fun i kvs hi hd => .inl ?_, fun i kvs hi hd => .inl ?_⟩
    · have hi2 : i < pre.length + (post.length + 1) := by simpa using hi
      by_cases e : i < pre.length
      · rw [List.getElem?_append_left e, List.getElem?_append_left e]
      · have ge : pre.length ≤ i := by omega
        rw [List.getElem?_append_right ge] at hd ⊢
        rw [List.getElem?_append_right ge]
        match h : i - pre.length with
        | 0 =>
          rw [h] at hd
          cases hd
        | j + 1 =>
          show post[j]? = (post ++ r)[j]?
          rw [List.getElem?_append_left (by omega)]
    · have hi2 : i < pre.length + (post.length + 1) := by simpa using hi
      by_cases e : i < pre.length
      · rw [List.getElem?_append_left e, List.getElem?_append_left e]
      · have ge : pre.length ≤ i := by omega
        rw [List.getElem?_append_right ge] at hd ⊢
        rw [List.getElem?_append_right ge]
        match h : i - pre.length with
        | 0 =>
          rw [h] at hd
          cases hd
        | j + 1 =>
          show post[j]? = (post ++ r)[j]?
          rw [List.getElem?_append_left (by omega)]
    · have hi2 : i < pre.length + (post.length + 1) := by simpa using hi
      by_cases e : i < pre.length
      · rw [List.getElem?_append_left e, List.getElem?_append_left e]
      · have ge : pre.length ≤ i := by omega
        rw [List.getElem?_append_right ge] at hd ⊢
        rw [List.getElem?_append_right ge]
        match h : i - pre.length with
        | 0 =>
          rw [h] at hd
          cases hd
        | j + 1 =>
          show post[j]? = (post ++ r)[j]?
          rw [List.getElem?_append_left (by omega)]
theorem fin_mid0 (pre post : S) (xs ys : List P) (x : P) : fin (pre ++ some (O.lst xs) :: post) (.p x) (pre ++ some (O.lst ys) :: post) = .ok (.p x) (pre ++ some (O.lst ys) :: post) := by
  have h := fin_mid pre post [] xs ys x
  rw [List.append_nil] at h
  exact h
theorem draw4_prime (k : Int) : ∃ p : Int, L2.atI [P.int 2147483647, .int 2147483629, .int 2147483587, .int 2147483579, .int 2147483563, .int 2147483549, .int 2147483543, .int 2147483497, .int 2147483489, .int 2147483477, .int 2147483423] (k.fmod 11) = some (.int p) ∧ 0 < p ∧ p < 2147483648 := by
  have h0 := Int.fmod_nonneg_of_pos k (b := 11) (by decide)
  have h1 := Int.fmod_lt_of_pos k (b := 11) (by decide)
  generalize k.fmod 11 = j at *
  have : j = 0 ∨ j = 1 ∨ j = 2 ∨ j = 3 ∨ j = 4 ∨ j = 5 ∨ j = 6 ∨ j = 7 ∨ j = 8 ∨ j = 9 ∨ j = 10 := by omega
  rcases this with rfl | rfl | rfl | rfl | rfl | rfl | rfl | rfl | rfl | rfl | rfl <;> exact ⟨_, rfl, by decide, by decide⟩
theorem pow5 {x : Int} (h0 : 0 ≤ x) (h : x < 4294967296) : powOk x 5 := ⟨by decide, by decide, by omega⟩
theorem ixm (pre post : S) (xs : List P) (z : Int) {x : P} (h : L2.atI xs z = some x) : ixD (.obj pre.length) (.p (.int z)) (pre ++ some (O.lst xs) :: post) = .ok (.p x) (pre ++ some (O.lst xs) :: post) := ix_obj (lsAt_mid pre post xs) h
theorem putm (ρ : En) (pre post : S) (xs : List P) (x : P) (z : Int) (j : Nat) (h : L2.ixN xs.length z = some j) : lputk ρ (.p x) (.obj pre.length) (.p (.int z)) (pre ++ some (O.lst xs) :: post) = .ok (.nx ρ) (pre ++ some (O.lst (xs.set j x)) :: post) := by
  unfold lputk
  dsimp only
  rw [at_mid]
  dsimp only
  rw [h]
  dsimp only
  rw [set_mid]
theorem Lnext_ok (pre post : S) (c t d many : Int) (hm : 0 < many) (hs : szi many 8000) (t0 : 0 ≤ t) (t1 : t ≤ 100000) :
    ∃ v t' d', 0 ≤ v ∧ v < many ∧ t ≤ t' ∧ t' ≤ t + 1 ∧ m_Lnext [.obj pre.length, .p (.int many)] (dS pre c t d post) = .ok (.p (.int v)) (dS pre c t' d' post) := by
  have hm' : many ≠ 0 := by omega
  have i0 : ∀ c t d : Int, ixD (.obj pre.length) (.p (.int 0)) (pre ++ some (O.lst [.int c, .int t, .int d]) :: post) = .ok (.p (.int c)) (pre ++ some (O.lst [.int c, .int t, .int d]) :: post) := fun c t d => ixm pre post _ 0 rfl
  have i1 : ∀ c t d : Int, ixD (.obj pre.length) (.p (.int 1)) (pre ++ some (O.lst [.int c, .int t, .int d]) :: post) = .ok (.p (.int t)) (pre ++ some (O.lst [.int c, .int t, .int d]) :: post) := fun c t d => ixm pre post _ 1 rfl
  have i2 : ∀ c t d : Int, ixD (.obj pre.length) (.p (.int 2)) (pre ++ some (O.lst [.int c, .int t, .int d]) :: post) = .ok (.p (.int d)) (pre ++ some (O.lst [.int c, .int t, .int d]) :: post) := fun c t d => ixm pre post _ 2 rfl
  have u1 : ∀ (ρ : En) (c t d v : Int), lputk ρ (.p (.int v)) (.obj pre.length) (.p (.int 1)) (pre ++ some (O.lst [.int c, .int t, .int d]) :: post) = .ok (.nx ρ) (pre ++ some (O.lst [.int c, .int v, .int d]) :: post) := fun ρ c t d v => putm ρ pre post _ _ 1 1 rfl
  have u2 : ∀ (ρ : En) (c t d v : Int), lputk ρ (.p (.int v)) (.obj pre.length) (.p (.int 2)) (pre ++ some (O.lst [.int c, .int t, .int d]) :: post) = .ok (.nx ρ) (pre ++ some (O.lst [.int c, .int t, .int v]) :: post) := fun ρ c t d v => putm ρ pre post _ _ 2 2 rfl
  have km : ∀ z, divOk z many := fun z => hs.divOk (by decide) (by decide) hm'
  have tail : ∀ z : Int, 0 ≤ z.fmod many ∧ z.fmod many < many := fun z => ⟨Int.fmod_nonneg_of_pos z hm, Int.fmod_lt_of_pos z hm⟩
  suffices hsu : ∃ z t' d', t ≤ t' ∧ t' ≤ t + 1 ∧ m_Lnext [.obj pre.length, .p (.int many)] (dS pre c t d post) = .ok (.p (.int (Int.fmod z many))) (dS pre c t' d' post) from by
    obtain ⟨z, t', d', h1, h2, h⟩ := hsu
    exact ⟨_, t', d', (tail z).1, (tail z).2, h1, h2, h⟩
  by_cases h0 : 0 < d
  · refine ⟨d, t, d.fdiv many, Int.le_refl _, by omega, ?_⟩
    simp [m_Lnext, defM_if, B_Lnext, dS, i0, i1, i2, u1, u2, h0, km, hm', fin_mid0]
  · obtain ⟨p, hp, hp0, hp1⟩ := draw4_prime (t + 1)
    have hp' : p ≠ 0 := by omega
    have q0 := Int.fmod_nonneg_of_pos c hp0
    have q1 := Int.fmod_lt_of_pos c hp0
    have k1 : ∀ z, mulOk 7919 z := fun z => Or.inr (Or.inl (by decide))
    have k7 : ∀ z, divOk z 13 := fun z => ⟨by decide, PyProof.noPylong_of_log2 (by decide)⟩
    have p5 : powOk (c.fmod p + 7919 * (t + 1) + 1) 5 := pow5 (by omega) (by omega)
    refine ⟨?z, t + 1, d, by omega, by omega, ?main⟩
    case main =>
      simp [m_Lnext, defM_if, B_Lnext, dS, i0, i1, i2, u1, u2, h0, hm', hp, hp', k1, k7, p5, fin_mid0]
      rfl
abbrev pr (q : Rat) : P := .tup [.int q.num, .int q.den]
theorem Llow4_wh (s : S) (x y : Option D) : ∀ (n : Nat) (a b : Int), 0 ≤ a → 0 ≤ b → b.toNat < n →
   whF (tB (op2 (eqD true) (vE 3) (cE (.int 0)))) (parF 2 3 [vE 3, op2 modD (vE 2) (vE 3)]) [x, y, some (.p (.int a)), some (.p (.int b))] s = .ok (.nx [x, y, some (.p (.int (Int.gcd a b))), some (.p (.int 0))]) s := by
  intro n
  induction n with
  | zero => intro a b _ _ h; omega
  | succ n ih =>
    intro a b ha hb h
    rw [whF_ev]
    by_cases h0 : b = 0
    · subst h0
      have : (a.natAbs : Int) = a := by omega
      simp [this]
    · have hp : 0 < b := by omega
      have m0 := Int.fmod_nonneg_of_pos a hp
      have m1 := Int.fmod_lt_of_pos a hp
      have := ih b (a.fmod b) hb m0 (by omega)
      rw [gcd_mod a b h0] at this
      simp [h0]
      exact this
theorem Llowest_ok (t b : Int) (s : S) (h0 : b ≠ 0) (hb : szi b 8000) : m_Llowest [.p (.int t), .p (.int b)] s = .ok (.p (pr (Rat.divInt t b))) s := by
  obtain ⟨hg, e1, e2⟩ := low_eq (t := t) (b := b) h0 rfl
  have hgb : szi (b.sign * (Int.gcd t b : Nat)) 8000 := by
    refine Nat.lt_of_le_of_lt ?_ hb
    conv => rhs; rw [e2, Int.natAbs_mul]
    exact Nat.le_mul_of_pos_left _ (by have := (Rat.divInt t b).den_nz; omega)
  have w1 := Llow4_wh s (some (.p (.int t))) (some (.p (.int b))) _ (t.natAbs) (b.natAbs) (by omega) (by omega) (Nat.lt_succ_self _)
  have w2 : Int.gcd (t.natAbs : Int) (b.natAbs : Int) = Int.gcd t b := by simp [Int.gcd]
  rw [w2] at w1
  generalize hq : Rat.divInt t b = q at *
  generalize hgg : b.sign * (Int.gcd t b : Nat) = g at *
  have d1 : divOk t g := hgb.divOk (by decide) (by decide) hg
  have d2 : divOk b g := hgb.divOk (by decide) (by decide) hg
  have q1 : t.fdiv g = q.num := by rw [e1]; exact fdiv_exact hg
  have q2 : b.fdiv g = q.den := by rw [e2]; exact fdiv_exact hg
  by_cases hp : 0 < b
  · have hgs : (((Int.gcd t b : Nat) : Int)) = g := by rw [← hgg, Int.sign_eq_one_of_pos hp, Int.one_mul]
    rw [hgs] at w1
    simp [m_Llowest, defM_if, B_Llowest, hp, w1, d1, d2, q1, q2]
  · have hgs : -(((Int.gcd t b : Nat) : Int)) = g := by rw [← hgg, Int.sign_eq_neg_one_of_neg (by omega), Int.neg_one_mul]
    simp [m_Llowest, defM_if, B_Llowest, hp, w1, hgs, d1, d2, q1, q2]
def totS : List Rat → Nat
  | [] => 0
  | q :: qs => hz q + 1 + totS qs
theorem add_di (f q : Rat) : f + q = Rat.divInt (f.num * q.den + q.num * f.den) ((f.den : Int) * q.den) := by
  rw [Rat.add_def', ← Rat.divInt_ofNat, Int.natCast_mul]
theorem mul_di (f q : Rat) : f * q = Rat.divInt (f.num * q.num) ((f.den : Int) * q.den) := by
  rw [Rat.mul_def', ← Rat.divInt_ofNat, Int.natCast_mul]
theorem Lsum_loop (x0 : Option D) (s : S) : ∀ (qs : List Rat) (f : Rat) (y2 y3 : Option D), hz f + totS qs ≤ 7900 →
    ∃ z2 z3, forL [] (tupG 2 (consG (setG 2) (consG (setG 3) nilG))) (asgF (calE m_Llowest [op2 (addD true) (op2 (mulD true) (op2 ixD (vE 1) (cE (.int 0))) (vE 3)) (op2 (mulD true) (vE 2) (op2 ixD (vE 1) (cE (.int 1)))), op2 (mulD true) (op2 ixD (vE 1) (cE (.int 1))) (vE 3)]) (setG 1)) (qs.map pr)
      [x0, some (.p (pr f)), y2, y3] s = .ok (.nx [x0, some (.p (pr (qs.foldl (· + ·) f))), z2, z3]) s
  | [], f, y2, y3, _ => ⟨y2, y3, forL_nil⟩
  | q :: qs, f, y2, y3, h => by
    have h' : hz f + (hz q + 1 + totS qs) ≤ 7900 := h
    have ha := hz_add f q
    obtain ⟨z2, z3, e⟩ := Lsum_loop x0 s qs (f + q) (some (.p (.int q.num))) (some (.p (.int q.den))) (by omega)
    have hd : (f.den : Int) * q.den ≠ 0 := Int.mul_ne_zero (by have := f.den_nz; omega) (by have := q.den_nz; omega)
    have o1 : mulOk f.num q.den := mulOk_szi (hz_num f) (hz_den q) (by omega) (hz_pos f) (hz_pos q)
    have o2 : mulOk q.num f.den := mulOk_szi (hz_num q) (hz_den f) (by omega) (hz_pos q) (hz_pos f)
    have o3 : mulOk f.den q.den := mulOk_szi (hz_den f) (hz_den q) (by omega) (hz_pos f) (hz_pos q)
    have hl := Llowest_ok (f.num * q.den + q.num * f.den) ((f.den : Int) * q.den) s hd (((hz_den f).mul (hz_den q)).mono (by omega))
    rw [← add_di] at hl
    refine ⟨z2, z3, ?_⟩
    rw [List.map_cons, forL_cons]
    simp [o1, o2, o3, hl]
    exact e
theorem Lprod_loop (x0 : Option D) (s : S) : ∀ (qs : List Rat) (f : Rat) (y2 y3 : Option D), hz f + totS qs ≤ 7900 →
    ∃ z2 z3, forL [] (tupG 2 (consG (setG 2) (consG (setG 3) nilG))) (asgF (calE m_Llowest [op2 (mulD true) (op2 ixD (vE 1) (cE (.int 0))) (vE 2), op2 (mulD true) (op2 ixD (vE 1) (cE (.int 1))) (vE 3)]) (setG 1)) (qs.map pr)
      [x0, some (.p (pr f)), y2, y3] s = .ok (.nx [x0, some (.p (pr (qs.foldl (· * ·) f))), z2, z3]) s
  | [], f, y2, y3, _ => ⟨y2, y3, forL_nil⟩
  | q :: qs, f, y2, y3, h => by
    have h' : hz f + (hz q + 1 + totS qs) ≤ 7900 := h
    have ha := hz_mul f q
    obtain ⟨z2, z3, e⟩ := Lprod_loop x0 s qs (f * q) (some (.p (.int q.num))) (some (.p (.int q.den))) (by omega)
    have hd : (f.den : Int) * q.den ≠ 0 := Int.mul_ne_zero (by have := f.den_nz; omega) (by have := q.den_nz; omega)
    have o1 : mulOk f.num q.num := mulOk_szi (hz_num f) (hz_num q) (by omega) (hz_pos f) (hz_pos q)
    have o3 : mulOk f.den q.den := mulOk_szi (hz_den f) (hz_den q) (by omega) (hz_pos f) (hz_pos q)
    have hl := Llowest_ok (f.num * q.num) ((f.den : Int) * q.den) s hd (((hz_den f).mul (hz_den q)).mono (by omega))
    rw [← mul_di] at hl
    refine ⟨z2, z3, ?_⟩
    rw [List.map_cons, forL_cons]
    simp [o1, o3, hl]
    exact e
theorem Lsum_ok (qs : List Rat) {v : Rat} (hv : qs.foldl (· + ·) 0 = v) (h : totS qs ≤ 7800) (s : S) : m_Lsum [.p (.lst (qs.map pr))] s = .ok (.p (pr v)) s := by
  obtain ⟨z2, z3, e⟩ := Lsum_loop (some (.p (.lst (qs.map pr)))) s qs 0 none none (by rw [show hz 0 = 1 by decide]; omega)
  rw [hv] at e
  have e' := forF_of (i := rowI (vE 0)) (rowI_lst (xs := qs.map pr) rfl) e
  simp [m_Lsum, defM_if, B_Lsum]
  rw [show P.tup [.int 0, .int 1] = pr 0 from rfl, e']
  simp
theorem Lproduct_ok (qs : List Rat) {v : Rat} (hv : qs.foldl (· * ·) 1 = v) (h : totS qs ≤ 7800) (s : S) : m_Lproduct [.p (.lst (qs.map pr))] s = .ok (.p (pr v)) s := by
  obtain ⟨z2, z3, e⟩ := Lprod_loop (some (.p (.lst (qs.map pr)))) s qs 1 none none (by rw [show hz 1 = 1 by decide]; omega)
  rw [hv] at e
  have e' := forF_of (i := rowI (vE 0)) (rowI_lst (xs := qs.map pr) rfl) e
  simp [m_Lproduct, defM_if, B_Lproduct]
  rw [show P.tup [.int 1, .int 1] = pr 1 from rfl, e']
  simp
theorem Lsum2 (a b : Rat) (h : hz a + hz b ≤ 7700) (s : S) : m_Lsum [.p (.lst [pr a, pr b])] s = .ok (.p (pr (a + b))) s := Lsum_ok [a, b] (by simp [List.foldl, Rat.zero_add]) (by simp [totS]; omega) s
theorem Lsum3 (a b c : Rat) (h : hz a + hz b + hz c ≤ 7700) (s : S) : m_Lsum [.p (.lst [pr a, pr b, pr c])] s = .ok (.p (pr (a + b + c))) s := Lsum_ok [a, b, c] (by simp [List.foldl, Rat.zero_add]) (by simp [totS]; omega) s
theorem Lsum4 (a b c d : Rat) (h : hz a + hz b + hz c + hz d ≤ 7700) (s : S) : m_Lsum [.p (.lst [pr a, pr b, pr c, pr d])] s = .ok (.p (pr (a + b + c + d))) s := Lsum_ok [a, b, c, d] (by simp [List.foldl, Rat.zero_add]) (by simp [totS]; omega) s
theorem Lprod2 (a b : Rat) (h : hz a + hz b ≤ 7700) (s : S) : m_Lproduct [.p (.lst [pr a, pr b])] s = .ok (.p (pr (a * b))) s := Lproduct_ok [a, b] (by simp [List.foldl, Rat.zero_add]) (by simp [totS]; omega) s
theorem Lprod3 (a b c : Rat) (h : hz a + hz b + hz c ≤ 7700) (s : S) : m_Lproduct [.p (.lst [pr a, pr b, pr c])] s = .ok (.p (pr (a * b * c))) s := Lproduct_ok [a, b, c] (by simp [List.foldl, Rat.zero_add]) (by simp [totS]; omega) s
theorem Lprod4 (a b c d : Rat) (h : hz a + hz b + hz c + hz d ≤ 7700) (s : S) : m_Lproduct [.p (.lst [pr a, pr b, pr c, pr d])] s = .ok (.p (pr (a * b * c * d))) s := Lproduct_ok [a, b, c, d] (by simp [List.foldl, Rat.zero_add]) (by simp [totS]; omega) s
theorem Lminus_ok (a : Rat) (s : S) : m_Lminus [.p (pr a)] s = .ok (.p (pr (-a))) s := by
  simp [m_Lminus, defM_if, B_Lminus, Rat.neg_num, Rat.neg_den]
theorem Lover_ok (a b : Rat) (hb : b ≠ 0) (h : hz a + hz b ≤ 7900) (s : S) : m_Lover [.p (pr a), .p (pr b)] s = .ok (.p (pr (a / b))) s := by
  have da : (a.den : Int) ≠ 0 := by have := a.den_nz; omega
  have nb : ¬ b.num = 0 := fun z => hb (Rat.num_eq_zero.mp z)
  have d5 : (a.den : Int) * b.num ≠ 0 := Int.mul_ne_zero da nb
  have o1 : mulOk a.num b.den := mulOk_szi (hz_num a) (hz_den b) (by omega) (hz_pos a) (hz_pos b)
  have o5 : mulOk a.den b.num := mulOk_szi (hz_den a) (hz_num b) (by omega) (hz_pos a) (hz_pos b)
  have e4 : a / b = Rat.divInt (a.num * b.den) ((a.den : Int) * b.num) := by
    rw [Rat.div_def, Rat.inv_def, ← Rat.num_divInt_den a, Rat.divInt_mul_divInt, Rat.num_divInt_den]
    all_goals first | exact da | exact nb | skip
  have l4 := Llowest_ok (a.num * b.den) ((a.den : Int) * b.num) s d5 (((hz_den a).mul (hz_num b)).mono (by omega))
  rw [← e4] at l4
  simp [m_Lover, defM_if, B_Lover, o1, o5, l4]
theorem Ltold_ok (a : Rat) (s : S) : m_Ltold [.p (pr a)] s = .ok (.p (fq a)) s := by
  unfold fq
  by_cases h : a.den = 1
  · simp [m_Ltold, defM_if, B_Ltold, h]
  · have h' : ¬ (a.den : Int) = 1 := by omega
    simp [m_Ltold, defM_if, B_Ltold, h, h']
theorem fin_moreP4 (s r : S) (x : P) : fin s (.p x) (s ++ r) = .ok (.p x) s := by
  unfold fin
  dsimp only
  rw [if_pos (Keeps.more r), List.take_left]
theorem forL_nilg {tg : GF} {f : SF} {g : Gd} {ρ : En} {s : S} (hg : gok g s) : forL g tg f [] ρ s = .ok (.nx ρ) s := by
  unfold forL
  exact if_pos hg
theorem forL_consg {tg : GF} {f : SF} {g : Gd} {ρ ρ1 ρ2 : En} {s s2 : S} {x : P} {xs : List P} (hg : gok g s) (h1 : tg (.p x) ρ s = .ok ρ1 s) (h2 : f ρ1 s = .ok (.nx ρ2) s2) : forL g tg f (x :: xs) ρ s = forL g tg f xs ρ2 s2 := by
  conv => lhs; unfold forL
  rw [if_pos hg, bnd_ev, h1, R.bind_ok, bnd_ev, h2, R.bind_ok]
theorem hz_uu {a c x y : Rat} (ha : hz a ≤ 9) (hc : hz c ≤ 9) (hx : hz x ≤ 9) (hy : hz y ≤ 9) : hz (uu a c x y) ≤ 93 := by
  unfold uu
  have h1 := hz_mul y y
  have h2 := hz_mul a x
  have h3 := hz_mul (a * x) y
  have h4 := hz_mul c y
  have h5 := hz_mul x x
  have h6 := hz_mul (x * x) x
  have h7 := hz_neg (x * x * x)
  have h8 := hz_add (y * y) (a * x * y)
  have h9 := hz_add (y * y + a * x * y) (c * y)
  have h10 := hz_add (y * y + a * x * y + c * y) (-(x * x * x))
  omega
theorem hz_tw (x u z v : Rat) : hz (tw x u z v) ≤ hz u + hz v + hz x + hz z + 2 := by
  unfold tw
  have h1 := hz_add v (-u)
  have h2 := hz_neg u
  have h3 := hz_add z (-x)
  have h4 := hz_neg x
  have h5 := hz_div (v + -u) (z + -x)
  omega
theorem Lbetween_ok (x u z v : Rat) (hne : x ≠ z) (h : hz x + hz z + hz u + hz v ≤ 7000) (s : S) : m_Lbetween [.p (.tup [pr x, pr u]), .p (.tup [pr z, pr v])] s = .ok (.p (pr (tw x u z v))) s := by
  have h1 := hz_add v (-u)
  have h2 := hz_neg u
  have h3 := hz_add z (-x)
  have h4 := hz_neg x
  have n0 : z + -x ≠ 0 := fun e => hne (by grind)
  have l1 := fun s => Lminus_ok u s
  have l2 := fun s => Lminus_ok x s
  have l3 := fun s => Lsum2 v (-u) (by omega) s
  have l4 := fun s => Lsum2 z (-x) (by omega) s
  have l5 := fun s => Lover_ok (v + -u) (z + -x) n0 (by omega) s
  unfold tw
  simp [m_Lbetween, defM_if, B_Lbetween, l1, l2, l3, l4, l5]
/-- a list of pairs, itself or by name -/
def rowd (d : D) (L : List P) (s : S) : Prop := d = .p (.lst L) ∨ ∃ m, d = .obj m ∧ s[m]? = some (some (.lst L))
theorem rowd_it {d : D} {L : List P} {s : S} (h : rowd d L s) : ∃ g, (∀ (r : S) (ρ : En) (i : Nat), ρ[i]? = some (some d) → rowI (vE i) ρ (s ++ r) = .ok (L, g) (s ++ r)) ∧ ∀ r : S, gok g (s ++ r) := by
  rcases h with rfl | ⟨m, rfl, hm⟩
  · exact ⟨[], fun r ρ i hi => rowI_lst (vE_of hi), fun r => gok_nil _⟩
  · have hm2 : ∀ r : S, (s ++ r)[m]? = some (some (.lst L)) := fun r => by
      rw [List.getElem?_append_left (List.getElem?_eq_some_iff.mp hm).1, hm]
    refine ⟨[(m, L)], fun r ρ i hi => (rowI_obj (vE_of hi) (by unfold lsAt; rw [hm2])).1, fun r p hp => ?_⟩
    have : p = (m, L) := by simpa using hp
    subst this
    exact hm2 r
noncomputable def TB : SF := (seqF (asgF ((lstE [(calE m_Lproduct [(lstE [vE 5, vE 5])]), (calE m_Lproduct [(lstE [vE 0, vE 4, vE 5])]), (calE m_Lproduct [(lstE [vE 1, vE 5])])])) (setG 6)) (expF ((metE appD (vE 3) [(tupE [vE 4, (calE m_Lsum [(op2 (addD true) (vE 6) ((lstE [(calE m_Lminus [(calE m_Lproduct [(lstE [vE 4, vE 4, vE 4])])])])))])])]))))
theorem TB_ok {a c x y : Rat} (ha : hz a ≤ 9) (hc : hz c ≤ 9) (hx : hz x ≤ 9) (hy : hz y ≤ 9) (d y6 : Option D) (s : S) (rows : List P) (hl : rows.length < 100) :
    ∃ z6, TB [some (.p (pr a)), some (.p (pr c)), d, some (.obj s.length), some (.p (pr x)), some (.p (pr y)), y6, none, none, none, none, none, none, none] (s ++ [some (O.lst rows)]) =
      .ok (.nx [some (.p (pr a)), some (.p (pr c)), d, some (.obj s.length), some (.p (pr x)), some (.p (pr y)), z6, none, none, none, none, none, none, none]) (s ++ [some (O.lst (rows ++ [.tup [pr x, pr (uu a c x y)]]))]) := by
  have h1 := hz_mul y y
  have h2 := hz_mul a x
  have h3 := hz_mul (a * x) y
  have h4 := hz_mul c y
  have h5 := hz_mul x x
  have h6 := hz_mul (x * x) x
  have h7 := hz_neg (x * x * x)
  have l1 := fun s => Lprod2 y y (by omega) s
  have l2 := fun s => Lprod3 a x y (by omega) s
  have l3 := fun s => Lprod2 c y (by omega) s
  have l4 := fun s => Lprod3 x x x (by omega) s
  have l5 := fun s => Lminus_ok (x * x * x) s
  have l6 := fun s => Lsum4 (y * y) (a * x * y) (c * y) (-(x * x * x)) (by omega) s
  have hl2 : rows.length < sizeLine := by rw [sizeLine_eq]; omega
  refine ⟨some (.p (.lst [pr (y * y), pr (a * x * y), pr (c * y)])), ?_⟩
  unfold uu
  simp [TB, l1, l2, l3, l4, l5, l6, lsAt_endL, set_end, hl2, sizeLine_eq]
  try omega
abbrev five (a1 a2 a3 a4 a6 : Rat) : P := .tup [pr a1, pr a2, pr a3, pr a4, pr a6]
abbrev pp (x y : Rat) : P := .tup [pr x, pr y]
theorem Lthrough_ok {a c x0 y0 x1 y1 x2 y2 : Rat} (ha : hz a ≤ 9) (hc : hz c ≤ 9) (k0 : hz x0 ≤ 9) (k1 : hz x1 ≤ 9) (k2 : hz x2 ≤ 9) (m0 : hz y0 ≤ 9) (m1 : hz y1 ≤ 9) (m2 : hz y2 ≤ 9) (h01 : x0 ≠ x1) (h12 : x1 ≠ x2) (h02 : x0 ≠ x2) {d : D} {s : S} (hd : rowd d [pp x0 y0, pp x1 y1, pp x2 y2] s) :
    m_Lthrough [.p (pr a), .p (pr c), d] s = .ok (.p (five a (t2 a c x0 y0 x1 y1 x2 y2) c (t4 a c x0 y0 x1 y1 x2 y2) (t6 a c x0 y0 x1 y1 x2 y2))) s := by
  obtain ⟨g, g1, g2⟩ := rowd_it hd
  have u0 := hz_uu ha hc k0 m0
  have u1 := hz_uu ha hc k1 m1
  have u2 := hz_uu ha hc k2 m2
  obtain ⟨w1, b1⟩ := TB_ok ha hc k0 m0 (some d) none s [] (by decide)
  obtain ⟨w2, b2⟩ := TB_ok ha hc k1 m1 (some d) w1 s [.tup [pr x0, pr (uu a c x0 y0)]] (by simp)
  obtain ⟨w3, b3⟩ := TB_ok ha hc k2 m2 (some d) w2 s [.tup [pr x0, pr (uu a c x0 y0)], .tup [pr x1, pr (uu a c x1 y1)]] (by simp)
  simp only [List.nil_append, List.cons_append] at b1 b2 b3
  have hf : forF (rowI (vE 2)) (tupG 2 (consG (setG 4) (consG (setG 5) nilG))) TB [some (.p (pr a)), some (.p (pr c)), some d, some (.obj s.length), none, none, none, none, none, none, none, none, none, none] (s ++ [some (O.lst [])]) =
      .ok (.nx [some (.p (pr a)), some (.p (pr c)), some d, some (.obj s.length), some (.p (pr x2)), some (.p (pr y2)), w3, none, none, none, none, none, none, none]) (s ++ [some (O.lst [.tup [pr x0, pr (uu a c x0 y0)], .tup [pr x1, pr (uu a c x1 y1)], .tup [pr x2, pr (uu a c x2 y2)]])]) := by
    rw [forF_ev, g1 [some (O.lst [])] _ 2 rfl, R.bind_ok]
    show forL g _ _ _ _ _ = _
    rw [forL_consg (g2 _) rfl b1, forL_consg (g2 _) rfl b2, forL_consg (g2 _) rfl b3, forL_nilg (g2 _)]
  have e01 := hz_tw x0 (uu a c x0 y0) x1 (uu a c x1 y1)
  have e12 := hz_tw x1 (uu a c x1 y1) x2 (uu a c x2 y2)
  have l01 := fun s => Lbetween_ok x0 (uu a c x0 y0) x1 (uu a c x1 y1) h01 (by omega) s
  have l12 := fun s => Lbetween_ok x1 (uu a c x1 y1) x2 (uu a c x2 y2) h12 (by omega) s
  have l02 := fun s => Lbetween_ok x0 (tw x0 (uu a c x0 y0) x1 (uu a c x1 y1)) x2 (tw x1 (uu a c x1 y1) x2 (uu a c x2 y2)) h02 (by omega) s
  have e02 := hz_tw x0 (tw x0 (uu a c x0 y0) x1 (uu a c x1 y1)) x2 (tw x1 (uu a c x1 y1) x2 (uu a c x2 y2))
  have f2 : t2 a c x0 y0 x1 y1 x2 y2 = tw x0 (tw x0 (uu a c x0 y0) x1 (uu a c x1 y1)) x2 (tw x1 (uu a c x1 y1) x2 (uu a c x2 y2)) := rfl
  have f4 : t4 a c x0 y0 x1 y1 x2 y2 = tw x0 (uu a c x0 y0) x1 (uu a c x1 y1) + -(t2 a c x0 y0 x1 y1 x2 y2 * (x0 + x1)) := rfl
  have f6 : t6 a c x0 y0 x1 y1 x2 y2 = uu a c x0 y0 + -(t2 a c x0 y0 x1 y1 x2 y2 * x0 * x0) + -(t4 a c x0 y0 x1 y1 x2 y2 * x0) := rfl
  rw [← f2] at l02 e02
  rw [f6, f4]
  generalize t2 a c x0 y0 x1 y1 x2 y2 = p2 at *
  generalize tw x0 (uu a c x0 y0) x1 (uu a c x1 y1) = l1 at *
  generalize tw x1 (uu a c x1 y1) x2 (uu a c x2 y2) = l2 at *
  generalize uu a c x0 y0 = v0 at *
  generalize uu a c x1 y1 = v1 at *
  generalize uu a c x2 y2 = v2 at *
  have q1 := hz_add x0 x1
  have q2 := hz_mul p2 (x0 + x1)
  have q3 := hz_neg (p2 * (x0 + x1))
  have q4 := hz_add l1 (-(p2 * (x0 + x1)))
  have q5 := hz_mul p2 x0
  have q6 := hz_mul (p2 * x0) x0
  have q7 := hz_neg (p2 * x0 * x0)
  have r1 := fun s => Lsum2 x0 x1 (by omega) s
  have r2 := fun s => Lprod2 p2 (x0 + x1) (by omega) s
  have r3 := fun s => Lminus_ok (p2 * (x0 + x1)) s
  have r4 := fun s => Lsum2 l1 (-(p2 * (x0 + x1))) (by omega) s
  generalize l1 + -(p2 * (x0 + x1)) = p4 at *
  have q8 := hz_mul p4 x0
  have q9 := hz_neg (p4 * x0)
  have r5 := fun s => Lprod3 p2 x0 x0 (by omega) s
  have r6 := fun s => Lminus_ok (p2 * x0 * x0) s
  have r7 := fun s => Lprod2 p4 x0 (by omega) s
  have r8 := fun s => Lminus_ok (p4 * x0) s
  have r9 := fun s => Lsum3 v0 (-(p2 * x0 * x0)) (-(p4 * x0)) (by omega) s
  have i0 : ∀ (L : List P) (z : Int) (x : P), L2.atI L z = some x → ixD (.obj s.length) (.p (.int z)) (s ++ [some (O.lst L)]) = .ok (.p x) (s ++ [some (O.lst L)]) := fun L z x h => ix_obj (lsAt_endL L) h
  have j0 := i0 [.tup [pr x0, pr v0], .tup [pr x1, pr v1], .tup [pr x2, pr v2]] 0 _ rfl
  have j1 := i0 [.tup [pr x0, pr v0], .tup [pr x1, pr v1], .tup [pr x2, pr v2]] 1 _ rfl
  have j2 := i0 [.tup [pr x0, pr v0], .tup [pr x1, pr v1], .tup [pr x2, pr v2]] 2 _ rfl
  unfold TB at hf
  simp [m_Lthrough, defM_if, B_Lthrough, hf, j0, j1, j2, l01, l12, l02, r1, r2, r3, r4, r5, r6, r7, r8, r9, fin_moreP4]
theorem eq_pr (neg : Bool) (a b : Rat) (s : S) : eqD neg (.p (pr a)) (.p (pr b)) s = .ok (.p (.bl (if neg = true then !decide (a = b) else decide (a = b)))) s := by
  rw [eq_dat neg (d := .tuple [.int a.num, .int a.den]) (e := .tuple [.int b.num, .int b.den]) rfl rfl ⟨rfl, rfl⟩]
  have e : PyData.eqv (.tuple [.int a.num, .int a.den]) (.tuple [.int b.num, .int b.den]) = decide (a = b) := by
    by_cases h : a = b
    · subst h
      simp [PyData.eqv, PyData.eqvAll]
    · rw [decide_eq_false h]
      have : ¬ (a.num = b.num ∧ (a.den : Int) = b.den) := fun z => h (Rat.ext z.1 (by omega))
      simp only [PyData.eqv, PyData.eqvAll]
      simp
      intro z1 z2
      exact this ⟨z1, by omega⟩
  rw [e]
theorem b8_eq (a1 a2 a3 a4 a6 : Rat) : (b2 a1 a2 a3 a4 a6 * b6 a1 a2 a3 a4 a6 + -(b4 a1 a2 a3 a4 a6 * b4 a1 a2 a3 a4 a6)) / 4 = b8 a1 a2 a3 a4 a6 := by
  have h : b2 a1 a2 a3 a4 a6 * b6 a1 a2 a3 a4 a6 + -(b4 a1 a2 a3 a4 a6 * b4 a1 a2 a3 a4 a6) = b8 a1 a2 a3 a4 a6 * 4 := by
    unfold b2 b4 b6 b8
    grind
  rw [h]
  exact Rat.mul_div_cancel (by decide)
theorem Lis_single_ok {a1 a2 a3 a4 a6 : Rat} (k1 : hz a1 ≤ 125) (k2 : hz a2 ≤ 125) (k3 : hz a3 ≤ 125) (k4 : hz a4 ≤ 125) (k6 : hz a6 ≤ 125) (s : S) : m_Lis_single [.p (five a1 a2 a3 a4 a6)] s = .ok (.p (.bl (!decide (dd a1 a2 a3 a4 a6 = 0)))) s := by
  have c4 : P.tup [.int 4, .int 1] = pr 4 := rfl
  have c2 : P.tup [.int 2, .int 1] = pr 2 := rfl
  have c9 : P.tup [.int 9, .int 1] = pr 9 := rfl
  have c8 : P.tup [.int (-8), .int 1] = pr (-8) := rfl
  have c27 : P.tup [.int (-27), .int 1] = pr (-27) := rfl
  have c0 : P.tup [.int 0, .int 1] = pr 0 := rfl
  have l1 := fun s => Lprod2 a1 a1 (by omega) s
  have l2 := fun s => Lprod2 4 a2 (by rw [z4]; omega) s
  have h1 := hz_mul a1 a1
  have h2 := hz_mul 4 a2
  have h3 := hz_add (a1 * a1) (4 * a2)
  rw [z4] at h2
  have l3 := fun s => Lsum2 (a1 * a1) (4 * a2) (by omega) s
  have l4 := fun s => Lprod2 2 a4 (by rw [z2]; omega) s
  have l5 := fun s => Lprod2 a1 a3 (by omega) s
  have h4 := hz_mul 2 a4
  have h5 := hz_mul a1 a3
  have h6 := hz_add (2 * a4) (a1 * a3)
  rw [z2] at h4
  have l6 := fun s => Lsum2 (2 * a4) (a1 * a3) (by omega) s
  have l7 := fun s => Lprod2 a3 a3 (by omega) s
  have l8 := fun s => Lprod2 4 a6 (by rw [z4]; omega) s
  have h7 := hz_mul a3 a3
  have h8 := hz_mul 4 a6
  have h9 := hz_add (a3 * a3) (4 * a6)
  rw [z4] at h8
  have l9 := fun s => Lsum2 (a3 * a3) (4 * a6) (by omega) s
  have e8 := b8_eq a1 a2 a3 a4 a6
  have ed : dd a1 a2 a3 a4 a6 = 9 * b2 a1 a2 a3 a4 a6 * b4 a1 a2 a3 a4 a6 * b6 a1 a2 a3 a4 a6 + -(b2 a1 a2 a3 a4 a6 * b2 a1 a2 a3 a4 a6 * b8 a1 a2 a3 a4 a6) + -8 * b4 a1 a2 a3 a4 a6 * b4 a1 a2 a3 a4 a6 * b4 a1 a2 a3 a4 a6 + -27 * b6 a1 a2 a3 a4 a6 * b6 a1 a2 a3 a4 a6 := by
    unfold dd dD
    grind
  have n2 : a1 * a1 + 4 * a2 = b2 a1 a2 a3 a4 a6 := rfl
  have n4 : 2 * a4 + a1 * a3 = b4 a1 a2 a3 a4 a6 := rfl
  have n6 : a3 * a3 + 4 * a6 = b6 a1 a2 a3 a4 a6 := rfl
  rw [n2] at l3 h3
  rw [n4] at l6 h6
  rw [n6] at l9 h9
  rw [ed]
  generalize b2 a1 a2 a3 a4 a6 = B2 at *
  generalize b4 a1 a2 a3 a4 a6 = B4 at *
  generalize b6 a1 a2 a3 a4 a6 = B6 at *
  generalize b8 a1 a2 a3 a4 a6 = B8 at *
  have r1 := fun s => Lprod2 B2 B6 (by omega) s
  have r2 := fun s => Lprod2 B4 B4 (by omega) s
  have r3 := fun s => Lminus_ok (B4 * B4) s
  have g1 := hz_mul B2 B6
  have g2 := hz_mul B4 B4
  have g3 := hz_neg (B4 * B4)
  have g4 := hz_add (B2 * B6) (-(B4 * B4))
  have r4 := fun s => Lsum2 (B2 * B6) (-(B4 * B4)) (by omega) s
  have r5 := fun s => Lover_ok (B2 * B6 + -(B4 * B4)) 4 (by decide) (by rw [z4]; omega) s
  have g5 := hz_div (B2 * B6 + -(B4 * B4)) 4
  rw [z4] at g5
  rw [e8] at r5 g5
  have r6 := fun s => Lprod4 9 B2 B4 B6 (by rw [z9]; omega) s
  have r7 := fun s => Lprod3 B2 B2 B8 (by omega) s
  have r8 := fun s => Lminus_ok (B2 * B2 * B8) s
  have r9 := fun s => Lprod4 (-8) B4 B4 B4 (by rw [z8]; omega) s
  have r10 := fun s => Lprod3 (-27) B6 B6 (by rw [z27]; omega) s
  have f1 := hz_mul 9 B2
  have f2 := hz_mul (9 * B2) B4
  have f3 := hz_mul (9 * B2 * B4) B6
  have f4 := hz_mul B2 B2
  have f5 := hz_mul (B2 * B2) B8
  have f6 := hz_neg (B2 * B2 * B8)
  have f7 := hz_mul (-8) B4
  have f8 := hz_mul (-8 * B4) B4
  have f9 := hz_mul (-8 * B4 * B4) B4
  have f10 := hz_mul (-27) B6
  have f11 := hz_mul (-27 * B6) B6
  rw [z9] at f1
  rw [z8] at f7
  rw [z27] at f10
  have r11 := fun s => Lsum4 (9 * B2 * B4 * B6) (-(B2 * B2 * B8)) (-8 * B4 * B4 * B4) (-27 * B6 * B6) (by omega) s
  generalize 9 * B2 * B4 * B6 + -(B2 * B2 * B8) + -8 * B4 * B4 * B4 + -27 * B6 * B6 = V at r11 ⊢
  have eq := fun s => eq_pr true V 0 s
  simp only [if_pos] at eq
  simp only [m_Lis_single, defM_if, B_Lis_single]
  simp [l1, l2, l3, l4, l5, l6, l7, l8, l9, r1, r2, r3, r4, r5, r6, r7, r8, r9, r10, r11, c4, c2, c9, c8, c27, sizeLine_eq]
  rw [c0, eq]
  simp
theorem Lcurve_ok (a1 a2 a3 a4 a6 : Rat) (s : S) : m_Lcurve [.p (five a1 a2 a3 a4 a6)] s = .ok (.p (.tup [fq a1, fq a2, fq a3, fq a4, fq a6])) s := by
  simp [m_Lcurve, defM_if, B_Lcurve, lcE_ev, rowI_k, lcL_cns, lcL_nil, Ltold_ok, sizeLine_eq, yesT]
theorem Lpoint_ok (x y : Rat) (s : S) : m_Lpoint [.p (pp x y)] s = .ok (.p (.tup [fq x, fq y])) s := by
  have h : ∀ s, isN false (.p (pp x y)) (.p .non) s = .ok (.p (.bl false)) s := fun _ => rfl
  simp [m_Lpoint, defM_if, B_Lpoint, h, Ltold_ok]
theorem Lpoint_non (s : S) : m_Lpoint [.p .non] s = .ok (.p .non) s := by
  have h : ∀ s, isN false (.p .non) (.p .non) s = .ok (.p (.bl true)) s := fun _ => rfl
  simp [m_Lpoint, defM_if, B_Lpoint, h]
theorem six_of {n b top : Int} (h : n.natAbs ≤ top.natAbs) (hb : b = 1 ∨ b = 2 ∨ b = 3) (m : Nat) (hm : 6 * top.natAbs ≤ m) : S6 m (Rat.divInt n b) := by
  rcases hb with rfl | rfl | rfl
  · refine ⟨6 * n, ?_, by omega⟩
    rw [Rat.divInt_eq_div, rc_mul, show ((1 : Int) : Rat) = 1 from rfl, show ((6 : Int) : Rat) = 6 from rfl]
    grind
  · refine ⟨3 * n, ?_, by omega⟩
    rw [Rat.divInt_eq_div, rc_mul, show ((2 : Int) : Rat) = 2 from rfl, show ((3 : Int) : Rat) = 3 from rfl]
    grind
  · refine ⟨2 * n, ?_, by omega⟩
    rw [Rat.divInt_eq_div, rc_mul, show ((2 : Int) : Rat) = 2 from rfl, show ((3 : Int) : Rat) = 3 from rfl]
    grind
theorem Lsmall_ok (pre post : S) (c t d top : Int) (b : Bool) (h0 : 0 ≤ top) (h1 : top ≤ 50) (t0 : 0 ≤ t) (tb : t ≤ 90000) (m : Nat) (hm : 6 * top.natAbs ≤ m) :
    ∃ q t' d', S6 m q ∧ (b = false → ∃ i : Int, q = i ∧ i.natAbs ≤ top.natAbs) ∧ t ≤ t' ∧ t' ≤ t + 2 ∧ m_Lsmall [.obj pre.length, .p (.int top), .p (.bl b)] (dS pre c t d post) = .ok (.p (pr q)) (dS pre c t' d' post) := by
  have s64 : ∀ n : Int, n.natAbs < 2 ^ 64 → szi n 8000 := fun n h => szi.mono (a := 64) h (by decide)
  have m2 : mulOk 2 top := Or.inr (Or.inl (by decide))
  have j2 : 0 < 2 * top + 1 := by omega
  cases b with
  | false =>
    obtain ⟨v, t1, d1, v0, v1, a1, a2, e1⟩ := Lnext_ok pre post c t d (2 * top + 1) j2 (s64 _ (by omega)) t0 (by omega)
    have hl := Llowest_ok (v - top) 1 (dS pre c t1 d1 post) (by decide) (s64 _ (by decide))
    refine ⟨Rat.divInt (v - top) 1, t1, d1, six_of (by omega) (.inl rfl) m hm, fun _ => ⟨v - top, ?_, by omega⟩, a1, by omega, ?_⟩
    · rw [Rat.divInt_eq_div, show ((1 : Int) : Rat) = 1 from rfl]
      grind
    · simp [m_Lsmall, defM_if, B_Lsmall, m2, e1, hl, fin_mid0]
  | true =>
    obtain ⟨w, t1, d1, w0, w1, a1, a2, e1⟩ := Lnext_ok pre post c t d 5 (by decide) (s64 _ (by decide)) t0 (by omega)
    obtain ⟨v, t3, d3, v0, v1, a3, a4, e3⟩ := Lnext_ok pre post c t1 d1 (2 * top + 1) j2 (s64 _ (by omega)) (by omega) (by omega)
    obtain ⟨bt, hb, eb⟩ : ∃ bt : Int, (bt = 1 ∨ bt = 2 ∨ bt = 3) ∧ L2.atI [P.int 1, .int 1, .int 1, .int 2, .int 3] w = some (.int bt) := by
      have : w = 0 ∨ w = 1 ∨ w = 2 ∨ w = 3 ∨ w = 4 := by omega
      rcases this with rfl | rfl | rfl | rfl | rfl <;> exact ⟨_, by decide, rfl⟩
    have hl := Llowest_ok (v - top) bt (dS pre c t3 d3 post) (by omega) (s64 _ (by omega))
    refine ⟨Rat.divInt (v - top) bt, t3, d3, six_of (by omega) hb m hm, (fun h => nomatch h), by omega, by omega, ?_⟩
    simp [m_Lsmall, defM_if, B_Lsmall, m2, e1, e3, eb, hl, fin_mid0]
theorem dS_end (pre post r : S) (c t d : Int) : dS pre c t d (post ++ r) = dS pre c t d post ++ r := by simp
theorem toPys_pr : ∀ xs : List Rat, toPys (xs.map pr) = some (xs.map fun q => PyData.tuple [.int q.num, .int q.den])
  | [] => rfl
  | x :: xs => toPys_cons (d := .tuple [.int x.num, .int x.den]) rfl (toPys_pr xs)
theorem eqv_pr (a b : Rat) : PyData.eqv (.tuple [.int a.num, .int a.den]) (.tuple [.int b.num, .int b.den]) = decide (a = b) := by
  by_cases h : a = b
  · subst h
    simp [PyData.eqv, PyData.eqvAll]
  · rw [decide_eq_false h]
    have : ¬ (a.num = b.num ∧ (a.den : Int) = b.den) := fun z => h (Rat.ext z.1 (by omega))
    simp only [PyData.eqv, PyData.eqvAll]
    simp
    intro z1 z2
    exact this ⟨z1, by omega⟩
theorem in_pr (x : Rat) (xs : List Rat) (hl : xs.length ≤ 3) (s : S) : inD true (.p (pr x)) (.p (.lst (xs.map pr))) s = .ok (.p (.bl (!xs.any fun z => decide (z = x)))) s := by
  have hs : SeqAt.shaped (.list (xs.map fun q : Rat => PyData.tuple [.int q.num, .int q.den])) = true := by
    match xs, hl with
    | [], _ => rfl
    | [a], _ => rfl
    | [a, b], _ => rfl
    | [a, b, c], _ => rfl
  rw [in_lst true (d := .tuple [.int x.num, .int x.den]) rfl (toPys_pr xs) ⟨rfl, hs⟩]
  rw [if_pos rfl, List.any_map]
  congr 5
  funext z
  exact eqv_pr z x
structure Pts (k : Nat) (ps : List (Rat × Rat)) : Prop where
  len : ps.length = k
  sx : ∀ p ∈ ps, S6 90 p.1
  sy : ∀ p ∈ ps, S6 42 p.2
  lt : ∀ p ∈ ps, p.1 < ((9 + 3 * k : Nat) : Rat)
  nd : (ps.map (·.1)).Nodup
abbrev ptL (ps : List (Rat × Rat)) : List P := ps.map fun p => pp p.1 p.2
theorem seqF_ok {f g : SF} {ρ ρ' : En} {s s' : S} (h : f ρ s = .ok (.nx ρ') s') : seqF f g ρ s = g ρ' s' := by
  rw [seqF_ev, h]
  rfl
noncomputable def WB : SF := (seqF (asgF ((calE m_Lsmall [vE 0, (op2 (addD true) (cE (.int 5)) ((calE lenD [vE 2]))), vE 1])) (setG 3)) (seqF (asgF ((ifE ((tB (op2 (inD true) (vE 3) ((lcE true (rowI (vE 2)) [4] (setG 4) yesT ((op2 ixD (vE 4) (cE (.int 0))))))))) (vE 3) ((tupE [(op2 (addD true) (cE (.int 9)) ((op2 (mulD true) (cE (.int 3)) ((calE lenD [vE 2]))))), cE (.int 1)])))) (setG 3)) (expF ((metE appD (vE 2) [(tupE [vE 3, (calE m_Lsmall [vE 0, cE (.int 7), vE 1])])])))))
theorem WB_ok (pre post : S) (c t d : Int) (w : Bool) (t0 : 0 ≤ t) (tb : t ≤ 80000) {k : Nat} {ps : List (Rat × Rat)} (hp : Pts k ps) (hk : k ≤ 2) (x3 x4 : Option D) :
    ∃ (p : Rat × Rat) (t' d' : Int) (y3 y4 : Option D), Pts (k + 1) (ps ++ [p]) ∧ t ≤ t' ∧ t' ≤ t + 4 ∧
      WB [some (.obj pre.length), some (.p (.bl w)), some (.obj (dS pre c t d post).length), x3, x4, none, none, none, none, none, none] (dS pre c t d post ++ [some (O.lst (ptL ps))]) =
        .ok (.nx [some (.obj pre.length), some (.p (.bl w)), some (.obj (dS pre c t d post).length), y3, y4, none, none, none, none, none, none]) (dS pre c t' d' post ++ [some (O.lst (ptL (ps ++ [p])))]) := by
  obtain ⟨q, t1, d1, sq, _, a1, a2, e1⟩ := Lsmall_ok pre (post ++ [some (O.lst (ptL ps))]) c t d (5 + k) w (by omega) (by omega) t0 (by omega) 42 (by omega)
  rw [dS_end, dS_end] at e1
  obtain ⟨y, t2, d2, sy, _, a3, a4, e2⟩ := Lsmall_ok pre (post ++ [some (O.lst (ptL ps))]) c t1 d1 7 w (by omega) (by omega) (by omega) (by omega) 42 (by decide)
  rw [dS_end, dS_end] at e2
  have lenk : (ptL ps).length = k := by rw [List.length_map, hp.len]
  have l1 : (dS pre c t d post).length = (dS pre c t1 d1 post).length := by simp
  have l2 : (dS pre c t1 d1 post).length = (dS pre c t2 d2 post).length := by simp
  have ln : ∀ S : S, lenD [.obj S.length] (S ++ [some (O.lst (ptL ps))]) = .ok (.p (.int k)) (S ++ [some (O.lst (ptL ps))]) := fun S => by
    rw [len_obj (lsAt_endL _), lenk]
  generalize dS pre c t d post = S1 at *
  generalize dS pre c t1 d1 post = S2 at *
  generalize hS3 : dS pre c t2 d2 post = S3 at *
  have A1 : asgF (calE m_Lsmall [vE 0, op2 (addD true) (cE (.int 5)) (calE lenD [vE 2]), vE 1]) (setG 3) [some (.obj pre.length), some (.p (.bl w)), some (.obj S1.length), x3, x4, none, none, none, none, none, none] (S1 ++ [some (O.lst (ptL ps))]) =
      .ok (.nx [some (.obj pre.length), some (.p (.bl w)), some (.obj S1.length), some (.p (pr q)), x4, none, none, none, none, none, none]) (S2 ++ [some (O.lst (ptL ps))]) := by
    simp [ln S1, e1]
  have hrow : ∀ S : S, lcE true (rowI (vE 2)) [4] (setG 4) yesT (op2 ixD (vE 4) (cE (.int 0))) [some (.obj pre.length), some (.p (.bl w)), some (.obj S.length), some (.p (pr q)), x4, none, none, none, none, none, none] (S ++ [some (O.lst (ptL ps))]) = .ok (.p (.lst ((ps.map (·.1)).map pr))) (S ++ [some (O.lst (ptL ps))]) := fun S => by
    obtain ⟨h1, h2⟩ := rowI_obj (m := vE 2) (ρ := [some (.obj pre.length), some (.p (.bl w)), some (.obj S.length), some (.p (pr q)), x4, none, none, none, none, none, none]) (s := S ++ [some (O.lst (ptL ps))]) (n := S.length) rfl (lsAt_endL _)
    rw [lcE_purg (fr := true) (own := [4]) (tg := setG 4) (c := yesT) (m := op2 ixD (vE 4) (cE (.int 0))) (fun x => [some (.obj pre.length), some (.p (.bl w)), some (.obj S.length), some (.p (pr q)), some (.p x), none, none, none, none, none, none]) (fun _ => true) (fun x => match x with
      | .tup [x, _] => x
      | x => x) h1 h2 (by rw [lenk, sizeLine_eq]; omega) (fun x hx => by
        obtain ⟨p, _, rfl⟩ := List.mem_map.mp hx
        exact ⟨rfl, rfl, fun _ => rfl⟩)]
    rw [List.filter_eq_self.mpr (fun _ _ => rfl), List.map_map, List.map_map]
    rfl
  have hin := fun S => in_pr q (ps.map (·.1)) (by rw [List.length_map, hp.len]; omega) S
  obtain ⟨X, sX, nX, lX, A2⟩ : ∃ X : Rat, S6 90 X ∧ X ∉ ps.map (·.1) ∧ X < ((9 + 3 * (k + 1) : Nat) : Rat) ∧ asgF (ifE (tB (op2 (inD true) (vE 3) (lcE true (rowI (vE 2)) [4] (setG 4) yesT (op2 ixD (vE 4) (cE (.int 0)))))) (vE 3) (tupE [op2 (addD true) (cE (.int 9)) (op2 (mulD true) (cE (.int 3)) (calE lenD [vE 2])), cE (.int 1)])) (setG 3) [some (.obj pre.length), some (.p (.bl w)), some (.obj S2.length), some (.p (pr q)), x4, none, none, none, none, none, none] (S2 ++ [some (O.lst (ptL ps))]) =
      .ok (.nx [some (.obj pre.length), some (.p (.bl w)), some (.obj S2.length), some (.p (pr X)), x4, none, none, none, none, none, none]) (S2 ++ [some (O.lst (ptL ps))]) := by
    by_cases hm : q ∈ ps.map (·.1)
    · have ht : ((ps.map (·.1)).any fun z => decide (z = q)) = true := List.any_eq_true.mpr ⟨q, hm, by simp⟩
      refine ⟨((9 + 3 * k : Nat) : Rat), ⟨((6 * (9 + 3 * k) : Nat) : Int), ?_, by omega⟩, fun z => ?_, ?_, ?_⟩
      · rw [Int.natCast_mul, rc_mul, Rat.mul_comm]
        rfl
      · obtain ⟨p, hp1, hp2⟩ := List.mem_map.mp z
        have := hp.lt p hp1
        rw [hp2] at this
        exact absurd this (Rat.lt_irrefl)
      · exact (Rat.natCast_lt_natCast).mpr (by omega)
      · have mk3 : mulOk 3 k := Or.inr (Or.inl (by decide))
        have pe : P.tup [.int (9 + 3 * k), .int 1] = pr ((9 + 3 * k : Nat) : Rat) := by
          have e : ((9 + 3 * k : Nat) : Int) = 9 + 3 * (k : Int) := by omega
          show _ = P.tup [.int ((9 + 3 * k : Nat) : Rat).num, .int (((9 + 3 * k : Nat) : Rat).den)]
          rw [Rat.num_natCast, Rat.den_natCast, e]
          rfl
        rw [← pe]
        rw [ht] at hin
        simp only [if_pos, Bool.not_true] at hin
        simp [hrow S2, hin, ln S2, mk3, -List.map_map]
    · have hf : ((ps.map (·.1)).any fun z => decide (z = q)) = false := by
        rw [List.any_eq_false]
        intro z hz
        simp
        intro e
        exact hm (e ▸ hz)
      refine ⟨q, ?_, hm, ?_, ?_⟩
      · obtain ⟨N, n1, n2⟩ := sq
        exact ⟨N, n1, by omega⟩
      · obtain ⟨N, n1, n2⟩ := sq
        have h1 : (N : Rat) ≤ ((42 : Int) : Rat) := Rat.intCast_le_intCast.mpr (by omega)
        have h2 : ((12 : Nat) : Rat) ≤ ((9 + 3 * (k + 1) : Nat) : Rat) := Rat.natCast_le_natCast.mpr (by omega)
        rw [← n1, show ((42 : Int) : Rat) = 42 from rfl] at h1
        rw [show ((12 : Nat) : Rat) = 12 from rfl] at h2
        generalize ((9 + 3 * (k + 1) : Nat) : Rat) = v at *
        grind
      · rw [hf] at hin
        simp only [Bool.not_false] at hin
        simp [hrow S2, hin, -List.map_map]
  have A3 : expF (metE appD (vE 2) [tupE [vE 3, calE m_Lsmall [vE 0, cE (.int 7), vE 1]]]) [some (.obj pre.length), some (.p (.bl w)), some (.obj S2.length), some (.p (pr X)), x4, none, none, none, none, none, none] (S2 ++ [some (O.lst (ptL ps))]) =
      .ok (.nx [some (.obj pre.length), some (.p (.bl w)), some (.obj S2.length), some (.p (pr X)), x4, none, none, none, none, none, none]) (S3 ++ [some (O.lst (ptL (ps ++ [(X, y)])))]) := by
    have : (ptL ps).length < sizeLine := by rw [lenk, sizeLine_eq]; omega
    have em : ptL (ps ++ [(X, y)]) = ptL ps ++ [pp X y] := by simp [ptL]
    rw [em, l2]
    generalize ptL ps = L at *
    have h3 : lsAt S3.length (S2 ++ [some (O.lst L)]) = some L := by
      rw [← l2]
      exact lsAt_endL _
    simp [e2, its_obj, h3, lsAt_endL, set_end, this]
  refine ⟨(X, y), t2, d2, some (.p (pr X)), x4, ?_, by omega, by omega, ?_⟩
  · refine ⟨by rw [List.length_append, hp.len]; rfl, fun p h => ?_, fun p h => ?_, fun p h => ?_, ?_⟩
    · rcases List.mem_append.mp h with h | h
      · exact hp.sx p h
      · rw [List.mem_singleton.mp h]
        exact sX
    · rcases List.mem_append.mp h with h | h
      · exact hp.sy p h
      · rw [List.mem_singleton.mp h]
        exact sy
    · rcases List.mem_append.mp h with h | h
      · have h1 := hp.lt p h
        have h2 : ((9 + 3 * k : Nat) : Rat) < ((9 + 3 * (k + 1) : Nat) : Rat) := (Rat.natCast_lt_natCast).mpr (by omega)
        generalize ((9 + 3 * k : Nat) : Rat) = u at *
        generalize ((9 + 3 * (k + 1) : Nat) : Rat) = v at *
        grind
      · rw [List.mem_singleton.mp h]
        exact lX
    · rw [List.map_append]
      exact List.nodup_append.mpr ⟨hp.nd, by simp, fun a ha b hb e => nX (by
        have : b = X := by simpa using hb
        rw [← this, ← e]
        exact ha)⟩
  · rw [hS3, WB, seqF_ok A1, l1, seqF_ok A2, A3]
/-- what is drawn: a curve, three points of it -/
structure Tri (a1 a2 a3 a4 a6 x0 y0 x1 y1 x2 y2 : Rat) : Prop where
  cv : ∃ W, Cv W 50 a1 a2 a3 a4 a6
  d0 : dd a1 a2 a3 a4 a6 ≠ 0
  o0 : ev a1 a2 a3 a4 a6 x0 y0 = 0
  o1 : ev a1 a2 a3 a4 a6 x1 y1 = 0
  o2 : ev a1 a2 a3 a4 a6 x2 y2 = 0
  n01 : x0 ≠ x1
  n12 : x1 ≠ x2
  n02 : x0 ≠ x2
  k0 : S6 90 x0
  k1 : S6 90 x1
  k2 : S6 90 x2
  m0 : S6 42 y0
  m1 : S6 42 y1
  m2 : S6 42 y2
  ha : ∃ A : Int, a1 = A ∧ A.natAbs ≤ 2
  hc : S6 264 a3
theorem hz_of_int {a : Rat} {A : Int} (h : a = A) (hA : A.natAbs ≤ 300) : hz a ≤ 9 := by
  have : S6 511 a ∨ True := .inr trivial
  rw [h, hz_int]
  by_cases z : A.natAbs = 0
  · rw [z]
    decide
  · have := (Nat.log2_lt z (k := 9)).mpr (by omega)
    omega
theorem s6_int {a : Rat} {A : Int} (h : a = A) {m : Nat} (hA : 6 * A.natAbs ≤ m) : S6 m a := ⟨6 * A, by rw [h, rc_mul, Rat.mul_comm]; rfl, by omega⟩
theorem cv_hz {W : Int} {n : Nat} {a1 a2 a3 a4 a6 : Rat} (cv : Cv W n a1 a2 a3 a4 a6) : hz a1 ≤ n + 1 ∧ hz a2 ≤ n + 1 ∧ hz a3 ≤ n + 1 ∧ hz a4 ≤ n + 1 ∧ hz a6 ≤ n + 1 := by
  have h1 := cv.h1.hz cv.W0 cv.hw
  have h2 := cv.h2.hz cv.W0 cv.hw
  have h3 := cv.h3.hz cv.W0 cv.hw
  have h4 := cv.h4.hz cv.W0 cv.hw
  have h6 := cv.h6.hz cv.W0 cv.hw
  omega
theorem tri_of {a c x0 y0 x1 y1 x2 y2 : Rat} {A : Int} (ha : a = A) (hA : A.natAbs ≤ 2) (hc : S6 264 c) (k0 : S6 90 x0) (k1 : S6 90 x1) (k2 : S6 90 x2) (m0 : S6 42 y0) (m1 : S6 42 y1) (m2 : S6 42 y2) (h01 : x0 ≠ x1) (h12 : x1 ≠ x2) (h02 : x0 ≠ x2)
    (hd : dd a (t2 a c x0 y0 x1 y1 x2 y2) c (t4 a c x0 y0 x1 y1 x2 y2) (t6 a c x0 y0 x1 y1 x2 y2) ≠ 0) : Tri a (t2 a c x0 y0 x1 y1 x2 y2) c (t4 a c x0 y0 x1 y1 x2 y2) (t6 a c x0 y0 x1 y1 x2 y2) x0 y0 x1 y1 x2 y2 := by
  obtain ⟨o0, o1, o2⟩ := th3_on (a := a) (c := c) (y0 := y0) (y1 := y1) (y2 := y2) h01 h12 h02
  exact ⟨th3_cv ha hA hc k0 k1 k2 m0 m1 m2 h01 h12 h02, hd, o0, o1, o2, h01, h12, h02, k0, k1, k2, m0, m1, m2, ⟨A, ha, hA⟩, hc⟩
/-- the law's own curve and its test -/
theorem through_single {a c x0 y0 x1 y1 x2 y2 : Rat} {A : Int} (ha : a = A) (hA : A.natAbs ≤ 2) (hc : S6 264 c) (k0 : S6 90 x0) (k1 : S6 90 x1) (k2 : S6 90 x2) (m0 : S6 42 y0) (m1 : S6 42 y1) (m2 : S6 42 y2) (h01 : x0 ≠ x1) (h12 : x1 ≠ x2) (h02 : x0 ≠ x2) :
    (∀ {d : D} {s : S}, rowd d [pp x0 y0, pp x1 y1, pp x2 y2] s → m_Lthrough [.p (pr a), .p (pr c), d] s = .ok (.p (five a (t2 a c x0 y0 x1 y1 x2 y2) c (t4 a c x0 y0 x1 y1 x2 y2) (t6 a c x0 y0 x1 y1 x2 y2))) s) ∧
    ∀ s, m_Lis_single [.p (five a (t2 a c x0 y0 x1 y1 x2 y2) c (t4 a c x0 y0 x1 y1 x2 y2) (t6 a c x0 y0 x1 y1 x2 y2))] s = .ok (.p (.bl (!decide (dd a (t2 a c x0 y0 x1 y1 x2 y2) c (t4 a c x0 y0 x1 y1 x2 y2) (t6 a c x0 y0 x1 y1 x2 y2) = 0)))) s := by
  refine ⟨fun hd => Lthrough_ok (hz_of_int ha (by omega)) (hc.hz (by decide)) (k0.hz (by decide)) (k1.hz (by decide)) (k2.hz (by decide)) (m0.hz (by decide)) (m1.hz (by decide)) (m2.hz (by decide)) h01 h12 h02 hd, fun s => ?_⟩
  obtain ⟨W, cv⟩ := th3_cv ha hA hc k0 k1 k2 m0 m1 m2 h01 h12 h02
  obtain ⟨q1, q2, q3, q4, q6⟩ := cv_hz cv
  exact Lis_single_ok (by omega) (by omega) (by omega) (by omega) (by omega) s
theorem tri_last : Tri 0 0 1 (-1) 0 0 0 1 0 (-1) 0 := by
  have i : ∀ {i : Int}, szi i 50 → Dg 1 50 1 0 (i : Rat) := fun {i} h => ⟨i, by
    have : ((1 : Int) : Rat) = 1 := rfl
    rw [Rat.pow_one, this, Rat.mul_one], h⟩
  exact ⟨⟨1, by decide, by decide, i (i := 0) (by decide), i (i := 0) (by decide), i (i := 1) (by decide), i (i := -1) (by decide), i (i := 0) (by decide)⟩, by decide +kernel, by decide +kernel, by decide +kernel, by decide +kernel, by decide, by decide, by decide,
    s6_int (A := 0) rfl (by decide), s6_int (A := 1) rfl (by decide), s6_int (A := -1) rfl (by decide), s6_int (A := 0) rfl (by decide), s6_int (A := 0) rfl (by decide), s6_int (A := 0) rfl (by decide), ⟨0, rfl, by decide⟩, s6_int (A := 1) rfl (by decide)⟩
theorem whF_go {t : TF} {f : SF} {ρ ρ' : En} {s s' : S} (h1 : t ρ s = .ok true s) (h2 : f ρ s = .ok (.nx ρ') s') : whF t f ρ s = whF t f ρ' s' := by
  rw [whF_ev, h1, R.bind_ok, if_pos rfl, h2, R.bind_ok]
  rfl
theorem whF_end {t : TF} {f : SF} {ρ : En} {s : S} (h1 : t ρ s = .ok false s) : whF t f ρ s = .ok (.nx ρ) s := by
  rw [whF_ev, h1, R.bind_ok, if_neg Bool.false_ne_true]
theorem Lsome_ok (pre post : S) (c t d : Int) (t0 : 0 ≤ t) (tb : t ≤ 50000) :
    ∃ a1 a2 a3 a4 a6 x0 y0 x1 y1 x2 y2 t' d', Tri a1 a2 a3 a4 a6 x0 y0 x1 y1 x2 y2 ∧ t ≤ t' ∧ t' ≤ t + 30 ∧
      m_Lsome [.obj pre.length] (dS pre c t d post) = .ok (.p (.lst [five a1 a2 a3 a4 a6, .lst [pp x0 y0, pp x1 y1, pp x2 y2]])) (dS pre c t' d' post) := by
  obtain ⟨v, t1, d1, v0, v1, b1, b2, e1⟩ := Lnext_ok pre post c t d 4 (by decide) (szi.mono (a := 64) (by decide) (by decide)) t0 (by omega)
  have p0 : Pts 0 [] := ⟨rfl, fun p h => absurd h List.not_mem_nil, fun p h => absurd h List.not_mem_nil, fun p h => absurd h List.not_mem_nil, List.nodup_nil⟩
  obtain ⟨⟨x0, y0⟩, t2', d2, u3, u4, p1, b3, b4, f1⟩ := WB_ok pre post c t1 d1 (decide (v = 0)) (by omega) (by omega) p0 (by decide) none none
  obtain ⟨⟨x1, y1⟩, t3, d3, u5, u6, p2, b5, b6, f2⟩ := WB_ok pre post c t2' d2 (decide (v = 0)) (by omega) (by omega) p1 (by decide) u3 u4
  obtain ⟨⟨x2, y2⟩, t4', d4, u7, u8, p3, b7, b8, f3⟩ := WB_ok pre post c t3 d3 (decide (v = 0)) (by omega) (by omega) p2 (by decide) u5 u6
  obtain ⟨a1, t5, d5, _, ia, b9, b10, e5⟩ := Lsmall_ok pre (post ++ [some (O.lst [pp x0 y0, pp x1 y1, pp x2 y2])]) c t4' d4 2 false (by decide) (by decide) (by omega) (by omega) 12 (by decide)
  obtain ⟨a3, t6', d6, _, ic, b11, b12, e6⟩ := Lsmall_ok pre (post ++ [some (O.lst [pp x0 y0, pp x1 y1, pp x2 y2])]) c t5 d5 2 false (by decide) (by decide) (by omega) (by omega) 12 (by decide)
  obtain ⟨A, hA, hA2⟩ := ia rfl
  obtain ⟨C, hC, hC2⟩ := ic rfl
  rw [dS_end, dS_end] at e5 e6
  have nd := p3.nd
  have n01 : x0 ≠ x1 := fun z => by simp [z] at nd
  have n12 : x1 ≠ x2 := fun z => by simp [z] at nd
  have n02 : x0 ≠ x2 := fun z => by simp [z] at nd
  have k0 : S6 90 x0 := p3.sx (x0, y0) (by simp)
  have k1 : S6 90 x1 := p3.sx (x1, y1) (by simp)
  have k2 : S6 90 x2 := p3.sx (x2, y2) (by simp)
  have m0 : S6 42 y0 := p3.sy (x0, y0) (by simp)
  have m1 : S6 42 y1 := p3.sy (x1, y1) (by simp)
  have m2 : S6 42 y2 := p3.sy (x2, y2) (by simp)
  have q1 : (dS pre c t1 d1 post).length = (dS pre c t2' d2 post).length := by simp
  have q2 : (dS pre c t2' d2 post).length = (dS pre c t3 d3 post).length := by simp
  have q3 : (dS pre c t3 d3 post).length = (dS pre c t4' d4 post).length := by simp
  have q4 : (dS pre c t4' d4 post).length = (dS pre c t5 d5 post).length := by simp
  have q5 : (dS pre c t5 d5 post).length = (dS pre c t6' d6 post).length := by simp
  have fin1 := fun (r : S) (x : P) => fin_mid pre post r [.int c, .int t, .int d] [.int c, .int t6', .int d6] x
  have goal : ∃ (x : P) (r : S), (∃ a1 a2 a3 a4 a6 x0 y0 x1 y1 x2 y2, Tri a1 a2 a3 a4 a6 x0 y0 x1 y1 x2 y2 ∧ x = .lst [five a1 a2 a3 a4 a6, .lst [pp x0 y0, pp x1 y1, pp x2 y2]]) ∧ B_Lsome [some (.obj pre.length), none, none, none, none, none, none, none, none, none, none] (dS pre c t d post) = .ok (.rt (.p x)) (dS pre c t6' d6 post ++ r) := by
    have P1 : parF 1 2 [op2 (eqD false) (calE m_Lnext [vE 0, cE (.int 4)]) (cE (.int 0)), lsoE []] [some (.obj pre.length), none, none, none, none, none, none, none, none, none, none] (dS pre c t d post) =
        .ok (.nx [some (.obj pre.length), some (.p (.bl (decide (v = 0)))), some (.obj (dS pre c t1 d1 post).length), none, none, none, none, none, none, none, none]) (dS pre c t1 d1 post ++ [some (O.lst [])]) := by
      generalize dS pre c t1 d1 post = S1 at *
      generalize dS pre c t d post = S0 at *
      simp [e1]
    have wc : ∀ (S : S) (L : List P) (b : Bool) (z1 z3 z4 : Option D), decide ((L.length : Int) < 3) = b → tB (op2 ltD (calE lenD [vE 2]) (cE (.int 3))) [some (.obj pre.length), z1, some (.obj S.length), z3, z4, none, none, none, none, none, none] (S ++ [some (O.lst L)]) = .ok b (S ++ [some (O.lst L)]) := fun S L b z1 z3 z4 h => by
      simp [len_obj (lsAt_endL _), ← h]
    have f1 : WB _ (_ ++ [some (O.lst ([] : List P))]) = R.ok _ (_ ++ [some (O.lst [pp x0 y0])]) := f1
    have f2 : WB _ (_ ++ [some (O.lst [pp x0 y0])]) = R.ok _ (_ ++ [some (O.lst [pp x0 y0, pp x1 y1])]) := f2
    have f3 : WB _ (_ ++ [some (O.lst [pp x0 y0, pp x1 y1])]) = R.ok _ (_ ++ [some (O.lst [pp x0 y0, pp x1 y1, pp x2 y2])]) := f3
    have P2 : whF (tB (op2 ltD (calE lenD [vE 2]) (cE (.int 3)))) WB [some (.obj pre.length), some (.p (.bl (decide (v = 0)))), some (.obj (dS pre c t1 d1 post).length), none, none, none, none, none, none, none, none] (dS pre c t1 d1 post ++ [some (O.lst [])]) =
        .ok (.nx [some (.obj pre.length), some (.p (.bl (decide (v = 0)))), some (.obj (dS pre c t4' d4 post).length), u7, u8, none, none, none, none, none, none]) (dS pre c t4' d4 post ++ [some (O.lst [pp x0 y0, pp x1 y1, pp x2 y2])]) := by
      rw [whF_go (wc _ _ true _ _ _ rfl) f1, q1, whF_go (wc _ _ true _ _ _ rfl) f2, q2, whF_go (wc _ _ true _ _ _ rfl) f3, q3]
      exact whF_end (wc _ _ false _ _ _ rfl)
    have P3 : parF 5 6 [calE m_Lsmall [vE 0, cE (.int 2), cE (.bl false)], calE m_Lsmall [vE 0, cE (.int 2), cE (.bl false)]] [some (.obj pre.length), some (.p (.bl (decide (v = 0)))), some (.obj (dS pre c t4' d4 post).length), u7, u8, none, none, none, none, none, none] (dS pre c t4' d4 post ++ [some (O.lst [pp x0 y0, pp x1 y1, pp x2 y2])]) =
        .ok (.nx [some (.obj pre.length), some (.p (.bl (decide (v = 0)))), some (.obj (dS pre c t4' d4 post).length), u7, u8, some (.p (pr a1)), some (.p (pr a3)), none, none, none, none]) (dS pre c t6' d6 post ++ [some (O.lst [pp x0 y0, pp x1 y1, pp x2 y2])]) := by
      generalize dS pre c t6' d6 post = T6 at *
      generalize dS pre c t5 d5 post = S5 at *
      generalize dS pre c t4' d4 post = S4 at *
      simp [e5, e6]
    rw [q4, q5] at P3 P2
    generalize hT6 : dS pre c t6' d6 post = T6 at *
    have hfz := frz_endL (s := T6) [pp x0 y0, pp x1 y1, pp x2 y2]
    have P4 := forL_or (f := seqF (asgF (calE m_Lthrough [vE 5, calE m_Lsum [lstE [vE 6, tupE [vE 7, cE (.int 1)]]], vE 2]) (setG 8)) (iffF (tT (calE m_Lis_single [vE 8])) (retF (lstE [vE 8, frzE (vE 2)])) nopF)) (tg := setG 7)
      (fun ρ s => ∃ y7 y8 : Option D, ρ = [some (.obj pre.length), some (.p (.bl (decide (v = 0)))), some (.obj T6.length), u7, u8, some (.p (pr a1)), some (.p (pr a3)), y7, y8, none, none] ∧ s = T6 ++ [some (O.lst [pp x0 y0, pp x1 y1, pp x2 y2])])
      (fun d s => ∃ a1 a2 a3 a4 a6, Tri a1 a2 a3 a4 a6 x0 y0 x1 y1 x2 y2 ∧ d = .p (.lst [five a1 a2 a3 a4 a6, .lst [pp x0 y0, pp x1 y1, pp x2 y2]]) ∧ s = T6 ++ [none])
      (xs := ranP 0 40) (ρ := [some (.obj pre.length), some (.p (.bl (decide (v = 0)))), some (.obj T6.length), u7, u8, some (.p (pr a1)), some (.p (pr a3)), none, none, none, none]) (s := T6 ++ [some (O.lst [pp x0 y0, pp x1 y1, pp x2 y2])]) ⟨_, _, rfl, rfl⟩ (fun i hi ρ s h => by
        obtain ⟨y7, y8, rfl, rfl⟩ := h
        obtain ⟨j, j0, j1, rfl⟩ : ∃ j : Int, 0 ≤ j ∧ j < 40 ∧ i = .int j := by
          unfold ranP at hi
          obtain ⟨k, hk, rfl⟩ := List.mem_map.mp hi
          have := List.mem_range.mp hk
          exact ⟨_, by omega, by omega, rfl⟩
        have hc : a3 + (j : Rat) = ((C + j : Int) : Rat) := by rw [hC, rc_add]
        have sC : S6 264 (a3 + (j : Rat)) := s6_int hc (by omega)
        obtain ⟨l1, l2⟩ := through_single (a := a1) (c := a3 + (j : Rat)) hA (by omega) sC k0 k1 k2 m0 m1 m2 n01 n12 n02
        have l3 := l1 (d := .obj T6.length) (s := T6 ++ [some (O.lst [pp x0 y0, pp x1 y1, pp x2 y2])]) (.inr ⟨_, rfl, get_end _⟩)
        have l4 := fun s => Lsum2 a3 (j : Rat) (by have := hz_of_int hC (by omega); have := hz_of_int (a := (j : Rat)) (A := j) rfl (by omega); omega) s
        have ej : P.tup [.int j, .int 1] = pr (j : Rat) := rfl
        have A1 : asgF (calE m_Lthrough [vE 5, calE m_Lsum [lstE [vE 6, tupE [vE 7, cE (.int 1)]]], vE 2]) (setG 8) [some (.obj pre.length), some (.p (.bl (decide (v = 0)))), some (.obj T6.length), u7, u8, some (.p (pr a1)), some (.p (pr a3)), some (.p (.int j)), y8, none, none] (T6 ++ [some (O.lst [pp x0 y0, pp x1 y1, pp x2 y2])]) =
            .ok (.nx [some (.obj pre.length), some (.p (.bl (decide (v = 0)))), some (.obj T6.length), u7, u8, some (.p (pr a1)), some (.p (pr a3)), some (.p (.int j)), some (.p (five a1 (t2 a1 (a3 + (j : Rat)) x0 y0 x1 y1 x2 y2) (a3 + (j : Rat)) (t4 a1 (a3 + (j : Rat)) x0 y0 x1 y1 x2 y2) (t6 a1 (a3 + (j : Rat)) x0 y0 x1 y1 x2 y2))), none, none]) (T6 ++ [some (O.lst [pp x0 y0, pp x1 y1, pp x2 y2])]) := by
          rw [← ej] at l4
          generalize t2 a1 (a3 + (j : Rat)) x0 y0 x1 y1 x2 y2 = p2 at *
          generalize t4 a1 (a3 + (j : Rat)) x0 y0 x1 y1 x2 y2 = p4 at *
          generalize t6 a1 (a3 + (j : Rat)) x0 y0 x1 y1 x2 y2 = p6 at *
          simp [l4, l3, sizeLine_eq]
        refine ⟨_, _, rfl, ?_⟩
        by_cases hd : dd a1 (t2 a1 (a3 + (j : Rat)) x0 y0 x1 y1 x2 y2) (a3 + (j : Rat)) (t4 a1 (a3 + (j : Rat)) x0 y0 x1 y1 x2 y2) (t6 a1 (a3 + (j : Rat)) x0 y0 x1 y1 x2 y2) = 0
        · left
          refine ⟨_, _, ?_, some (.p (.int j)), some (.p (five a1 (t2 a1 (a3 + (j : Rat)) x0 y0 x1 y1 x2 y2) (a3 + (j : Rat)) (t4 a1 (a3 + (j : Rat)) x0 y0 x1 y1 x2 y2) (t6 a1 (a3 + (j : Rat)) x0 y0 x1 y1 x2 y2))), rfl, rfl⟩
          show seqF _ _ [some (.obj pre.length), some (.p (.bl (decide (v = 0)))), some (.obj T6.length), u7, u8, some (.p (pr a1)), some (.p (pr a3)), some (.p (.int j)), y8, none, none] _ = _
          rw [seqF_ok A1]
          rw [hd] at l2
          generalize t2 a1 (a3 + (j : Rat)) x0 y0 x1 y1 x2 y2 = p2 at *
          generalize t4 a1 (a3 + (j : Rat)) x0 y0 x1 y1 x2 y2 = p4 at *
          generalize t6 a1 (a3 + (j : Rat)) x0 y0 x1 y1 x2 y2 = p6 at *
          simp [l2]
          try exact ⟨rfl, rfl⟩
        · right
          refine ⟨.p (.lst [five a1 (t2 a1 (a3 + (j : Rat)) x0 y0 x1 y1 x2 y2) (a3 + (j : Rat)) (t4 a1 (a3 + (j : Rat)) x0 y0 x1 y1 x2 y2) (t6 a1 (a3 + (j : Rat)) x0 y0 x1 y1 x2 y2), .lst [pp x0 y0, pp x1 y1, pp x2 y2]]), T6 ++ [none], ?_, _, _, _, _, _, tri_of hA (by omega) sC k0 k1 k2 m0 m1 m2 n01 n12 n02 hd, rfl, rfl⟩
          show seqF _ _ [some (.obj pre.length), some (.p (.bl (decide (v = 0)))), some (.obj T6.length), u7, u8, some (.p (pr a1)), some (.p (pr a3)), some (.p (.int j)), y8, none, none] _ = _
          rw [seqF_ok A1]
          generalize t2 a1 (a3 + (j : Rat)) x0 y0 x1 y1 x2 y2 = p2 at *
          generalize t4 a1 (a3 + (j : Rat)) x0 y0 x1 y1 x2 y2 = p4 at *
          generalize t6 a1 (a3 + (j : Rat)) x0 y0 x1 y1 x2 y2 = p6 at *
          simp [l2, hd, hfz])
    have hr : r1I [cE (.int 40)] [some (.obj pre.length), some (.p (.bl (decide (v = 0)))), some (.obj T6.length), u7, u8, some (.p (pr a1)), some (.p (pr a3)), none, none, none, none] (T6 ++ [some (O.lst [pp x0 y0, pp x1 y1, pp x2 y2])]) = .ok (ranP 0 40, []) (T6 ++ [some (O.lst [pp x0 y0, pp x1 y1, pp x2 y2])]) := r1_ev _ _ _ 40 _ rfl (by decide) (by decide)
    have head : B_Lsome [some (.obj pre.length), none, none, none, none, none, none, none, none, none, none] (dS pre c t d post) = seqF (forF (r1I [cE (.int 40)]) (setG 7) (seqF (asgF (calE m_Lthrough [vE 5, calE m_Lsum [lstE [vE 6, tupE [vE 7, cE (.int 1)]]], vE 2]) (setG 8)) (iffF (tT (calE m_Lis_single [vE 8])) (retF (lstE [vE 8, frzE (vE 2)])) nopF))) (seqF (tasF [(tupE [(op1 negD (cE (.int 1))), cE (.int 1)]), (tupE [cE (.int 0), cE (.int 1)])] (consT (setG 9) (consT (setG 10) nilT))) (retF ((lstE [(tupE [vE 10, vE 10, (tupE [cE (.int 1), cE (.int 1)]), vE 9, vE 10]), (lstE [(tupE [vE 10, vE 10]), (tupE [(tupE [cE (.int 1), cE (.int 1)]), vE 10]), (tupE [vE 9, vE 10])])]))))
        [some (.obj pre.length), some (.p (.bl (decide (v = 0)))), some (.obj T6.length), u7, u8, some (.p (pr a1)), some (.p (pr a3)), none, none, none, none] (T6 ++ [some (O.lst [pp x0 y0, pp x1 y1, pp x2 y2])]) := by
      unfold WB at P2
      rw [B_Lsome, seqF_ok P1, seqF_ok P2, seqF_ok P3]
    rw [head]
    rcases P4 with ⟨ρ', s', g1, y7, y8, rfl, rfl⟩ | ⟨dd', s', g1, b1, b2, b3, b4, b6, tr, rfl, rfl⟩
    · refine ⟨_, [some (O.lst [pp x0 y0, pp x1 y1, pp x2 y2])], ⟨_, _, _, _, _, _, _, _, _, _, _, tri_last, rfl⟩, ?_⟩
      rw [seqF_ok (forF_of hr g1)]
      have f0 : pr 0 = .tup [.int 0, .int 1] := rfl
      have f1 : pr 1 = .tup [.int 1, .int 1] := rfl
      have f2 : pr (-1) = .tup [.int (-1), .int 1] := rfl
      simp only [five, pp, f0, f1, f2]
      simp
    · refine ⟨_, [none], ⟨_, _, _, _, _, _, _, _, _, _, _, tr, rfl⟩, ?_⟩
      rw [seqF_ev, forF_of hr g1]
      rfl
  obtain ⟨x, r, ⟨a1, a2, a3, a4, a6, x0, y0, x1, y1, x2, y2, tr, rfl⟩, hg⟩ := goal
  refine ⟨a1, a2, a3, a4, a6, x0, y0, x1, y1, x2, y2, t6', d6, tr, by omega, by omega, ?_⟩
  have hg' : B_Lsome ([D.obj pre.length].map some ++ List.replicate (11 - 1) none) (dS pre c t d post) = .ok (.rt (.p (.lst [five a1 a2 a3 a4 a6, .lst [pp x0 y0, pp x1 y1, pp x2 y2]]))) (dS pre c t6' d6 post ++ r) := hg
  rw [m_Lsome, defM_if, if_pos (show [D.obj pre.length].length = 1 from rfl), hg', R.bind_ok]
  exact fin1 r _
def crv (a1 a2 a3 a4 a6 : Rat) : P := .tup [fq a1, fq a2, fq a3, fq a4, fq a6]
def pt (x y : Rat) : P := .tup [fq x, fq y]
theorem isN_tup (b : Bool) (xs : List P) (s : S) : isN b (.p (.tup xs)) (.p .non) s = .ok (.p (.bl b)) s := rfl
theorem isN_non (b : Bool) (s : S) : isN b (.p .non) (.p .non) s = .ok (.p (.bl (!b))) s := rfl
theorem eq_pt (neg : Bool) (a b c d : Rat) (s : S) : eqD neg (.p (pt a b)) (.p (pt c d)) s = .ok (.p (.bl (if neg = true then !decide (a = c ∧ b = d) else decide (a = c ∧ b = d)))) s := by
  have t : ∀ a b : Rat, toPy (pt a b) = some (.tuple [fqPy a, fqPy b]) := fun a b => toPy_tup (toPys_cons (toPy_fq a) (toPys_cons (toPy_fq b) toPys_nil))
  have sh : ∀ a b : Rat, SeqAt.shaped (.tuple [fqPy a, fqPy b]) = true := fun a b => (Cp.tup (n := 1) (ds := [fqPy a, fqPy b]) fun d hd => by
    simp only [List.mem_cons, List.not_mem_nil, or_false] at hd
    rcases hd with rfl | rfl <;> exact Cp.fq1 _).shaped (by decide)
  rw [eq_dat neg (d := .tuple [fqPy a, fqPy b]) (e := .tuple [fqPy c, fqPy d]) (by exact t a b) (by exact t c d) ⟨sh a b, sh c d⟩]
  have e : PyData.eqv (.tuple [fqPy a, fqPy b]) (.tuple [fqPy c, fqPy d]) = decide (a = c ∧ b = d) := by
    show PyData.eqvAll _ _ = _
    unfold PyData.eqvAll
    rw [eqv_fq]
    unfold PyData.eqvAll
    rw [eqv_fq]
    unfold PyData.eqvAll
    simp
  rw [e]
section
variable {W : Int} {n : Nat} {a1 a2 a3 a4 a6 x y : Rat}
theorem nc_ok (cv : Cv W n a1 a2 a3 a4 a6) (hn : n ≤ 370) (hd : dd a1 a2 a3 a4 a6 ≠ 0) (s : S) : m_need_curve [.p (crv a1 a2 a3 a4 a6)] s = .ok (.p .non) s := by
  have h := is_curve_ok cv hn s
  unfold crv
  simp [m_need_curve, defM_if, B_need_curve, h, hd]
theorem tog_loop (x0 : Option D) (s : S) : ∀ (qs : List Rat) (f : Rat) (y2 : Option D), hz f + totS qs ≤ 8700 →
    ∃ z2, forL [] (setG 2) (asgF (calE m_sum_of_two [vE 1, vE 2]) (setG 1)) (qs.map fq) [x0, some (.p (fq f)), y2] s = .ok (.nx [x0, some (.p (fq (qs.foldl (· + ·) f))), z2]) s
  | [], f, y2, _ => ⟨y2, forL_nil⟩
  | q :: qs, f, y2, h => by
    have h' : hz f + (hz q + 1 + totS qs) ≤ 8700 := h
    have ha := hz_add f q
    obtain ⟨z2, e⟩ := tog_loop x0 s qs (f + q) (some (.p (fq q))) (by omega)
    have hl := sum_of_two_ok f q s (by omega)
    refine ⟨z2, ?_⟩
    rw [List.map_cons, forL_cons]
    simp [hl]
    exact e
theorem tog_ok (qs : List Rat) {v : Rat} (hv : qs.foldl (· + ·) 0 = v) (h : totS qs ≤ 8600) (s : S) : m_together_of [.p (.lst (qs.map fq))] s = .ok (.p (fq v)) s := by
  obtain ⟨z2, e⟩ := tog_loop (some (.p (.lst (qs.map fq)))) s qs 0 none (by rw [show hz 0 = 1 by decide]; omega)
  rw [hv] at e
  have e' := forF_of (i := rowI (vE 0)) (rowI_lst (xs := qs.map fq) rfl) e
  have f0 : fq 0 = P.int 0 := rfl
  rw [f0] at e'
  simp [m_together_of, defM_if, B_together_of, e']
theorem tog3 (a b c : Rat) (h : hz a + hz b + hz c ≤ 8500) (s : S) : m_together_of [.p (.lst [fq a, fq b, fq c])] s = .ok (.p (fq (a + b + c))) s := tog_ok [a, b, c] (by simp [List.foldl, Rat.zero_add]) (by simp [totS]; omega) s
theorem tog4 (a b c d : Rat) (h : hz a + hz b + hz c + hz d ≤ 8500) (s : S) : m_together_of [.p (.lst [fq a, fq b, fq c, fq d])] s = .ok (.p (fq (a + b + c + d))) s := tog_ok [a, b, c, d] (by simp [List.foldl, Rat.zero_add]) (by simp [totS]; omega) s
theorem is_on_non (k : P) (s : S) : m_is_on [.p k, .p .non] s = .ok (.p (.bl true)) s := by
  simp [m_is_on, defM_if, B_is_on, isN_non]
theorem opposite_of_non (k : P) (s : S) : m_opposite_of [.p k, .p .non] s = .ok (.p .non) s := by
  simp [m_opposite_of, defM_if, B_opposite_of, isN_non]
theorem sum_on_n1 (k z : P) (s : S) : m_sum_on [.p k, .p .non, .p z] s = .ok (.p z) s := by
  simp [m_sum_on, defM_if, B_sum_on, isN_non]
theorem sum_on_n2 (k : P) (xs : List P) (s : S) : m_sum_on [.p k, .p (.tup xs), .p .non] s = .ok (.p (.tup xs)) s := by
  simp [m_sum_on, defM_if, B_sum_on, isN_non, isN_tup]
theorem need_point_non (k : P) (s : S) : m_need_point [.p k, .p .non] s = .ok (.p .non) s := by
  simp [m_need_point, defM_if, B_need_point, is_on_non]
end
theorem eq_pp (neg : Bool) (a b c d : Rat) (s : S) : eqD neg (.p (pp a b)) (.p (pp c d)) s = .ok (.p (.bl (if neg = true then !decide (a = c ∧ b = d) else decide (a = c ∧ b = d)))) s := by
  rw [eq_dat neg (d := .tuple [.tuple [.int a.num, .int a.den], .tuple [.int b.num, .int b.den]]) (e := .tuple [.tuple [.int c.num, .int c.den], .tuple [.int d.num, .int d.den]]) rfl rfl ⟨rfl, rfl⟩]
  have e : PyData.eqv (.tuple [.tuple [.int a.num, .int a.den], .tuple [.int b.num, .int b.den]]) (.tuple [.tuple [.int c.num, .int c.den], .tuple [.int d.num, .int d.den]]) = decide (a = c ∧ b = d) := by
    show PyData.eqvAll _ _ = _
    unfold PyData.eqvAll
    rw [eqv_pr]
    unfold PyData.eqvAll
    rw [eqv_pr]
    unfold PyData.eqvAll
    simp
  rw [e]
section
variable {a1 a2 a3 a4 a6 x y v w l : Rat}
theorem law_y (a1 a3 l x y X : Rat) : -(y + l * (X + -x) + a1 * X + a3) = fy a1 a3 l x y X := by
  unfold fy
  grind
theorem own_x (a1 a2 l x v : Rat) : l * (l + a1) + -a2 + -x + -v = fx a1 a2 l x v := by
  unfold fx
  grind
end
def pO : Pq → P
  | none => .non
  | some (x, y) => pt x y
section
variable {a1 a2 a3 a4 a6 x y v w l : Rat}
/-- a good curve of few bits -/
structure Cq (a1 a2 a3 a4 a6 : Rat) : Prop where
  cv : ∃ W, Cv W 50 a1 a2 a3 a4 a6
  d0 : dd a1 a2 a3 a4 a6 ≠ 0
  k1 : hz a1 ≤ 9
  k3 : hz a3 ≤ 9
theorem Cq.hzs (o : Cq a1 a2 a3 a4 a6) : hz a1 ≤ 51 ∧ hz a2 ≤ 51 ∧ hz a3 ≤ 51 ∧ hz a4 ≤ 51 ∧ hz a6 ≤ 51 := by
  obtain ⟨W, cv⟩ := o.cv
  exact cv_hz cv
theorem Cq.nc (o : Cq a1 a2 a3 a4 a6) (s : S) : m_need_curve [.p (crv a1 a2 a3 a4 a6)] s = .ok (.p .non) s := by
  obtain ⟨W, cv⟩ := o.cv
  exact nc_ok cv (by decide) o.d0 s
theorem is_on_ok2 (k1 : hz a1 ≤ 60) (k2 : hz a2 ≤ 60) (k3 : hz a3 ≤ 60) (k4 : hz a4 ≤ 60) (k6 : hz a6 ≤ 60) (kx : hz x ≤ 1400) (ky : hz y ≤ 2100) (s : S) : m_is_on [.p (crv a1 a2 a3 a4 a6), .p (pt x y)] s = .ok (.p (.bl (decide (ev a1 a2 a3 a4 a6 x y = 0)))) s := by
  have h1 := hz_mul a1 x
  have r1 := fun s => product_ok a1 x s (by omega)
  have r2 := fun s => tog3 y (a1 * x) a3 (by omega) s
  have h2 := hz_add y (a1 * x)
  have h3 := hz_add (y + a1 * x) a3
  have r3 := fun s => product_ok y (y + a1 * x + a3) s (by omega)
  have r4 := fun s => sum_of_two_ok x a2 s (by omega)
  have h4 := hz_add x a2
  have r5 := fun s => product_ok (x + a2) x s (by omega)
  have h5 := hz_mul (x + a2) x
  have r6 := fun s => sum_of_two_ok ((x + a2) * x) a4 s (by omega)
  have h6 := hz_add ((x + a2) * x) a4
  have r7 := fun s => product_ok ((x + a2) * x + a4) x s (by omega)
  have h7 := hz_mul ((x + a2) * x + a4) x
  have r8 := fun s => sum_of_two_ok (((x + a2) * x + a4) * x) a6 s (by omega)
  have ha : ∀ s, allD [.p (.lst [.bl true, .bl true])] s = .ok (.p (.bl true)) s := fun _ => rfl
  have ed : decide (y * (y + a1 * x + a3) = ((x + a2) * x + a4) * x + a6) = decide (ev a1 a2 a3 a4 a6 x y = 0) := by
    apply decide_eq_decide.mpr
    unfold ev
    constructor <;> intro h <;> grind
  unfold crv pt
  rw [← ed]
  simp [m_is_on, defM_if, B_is_on, isN_tup, lcE_ev, rowI_k, lcL_cns, lcL_nil, is_fraction_ok, ha, sizeLine_eq, yesT, r1, r2, r3, r4, r5, r6, r7, r8, eq_fq]
theorem oppo_ok2 (k : hz y + hz a1 + hz x + hz a3 ≤ 8400) (k2 : hz (y + a1 * x + a3) ≤ 8000) (s : S) : m_opposite_of [.p (crv a1 a2 a3 a4 a6), .p (pt x y)] s = .ok (.p (pt x (-(y + a1 * x + a3)))) s := by
  have h1 := hz_mul a1 x
  have r1 := fun s => product_ok a1 x s (by omega)
  have r2 := fun s => tog3 y (a1 * x) a3 (by omega) s
  have r3 := fun s => turned_ok (y + a1 * x + a3) s (by omega)
  have i0 : L2.atI [fq a1, fq a2, fq a3, fq a4, fq a6] 0 = some (fq a1) := rfl
  have i2 : L2.atI [fq a1, fq a2, fq a3, fq a4, fq a6] 2 = some (fq a3) := rfl
  unfold crv pt
  simp [m_opposite_of, defM_if, B_opposite_of, isN_tup, i0, i2, r1, r2, r3, sizeLine_eq]
theorem slope_ch2 (kx : hz x ≤ 1500) (ky : hz y ≤ 2200) (kv : hz v ≤ 1500) (kw : hz w ≤ 2200) (k5 : hz x + hz y + hz v + hz w ≤ 8000) (hne : x ≠ v) (s : S) : m_slope_of [.p (crv a1 a2 a3 a4 a6), .p (pt x y), .p (pt v w)] s = .ok (.p (fq (slQ a1 a2 a3 a4 x y v w))) s := by
  have n0 : v + -x ≠ 0 := fun e => hne (by grind)
  have h1 := hz_neg x
  have h2 := hz_neg y
  have h3 := hz_add v (-x)
  have h4 := hz_add w (-y)
  have r1 := fun s => turned_ok x s (by omega)
  have r2 := fun s => turned_ok y s (by omega)
  have r3 := fun s => sum_of_two_ok v (-x) s (by omega)
  have r4 := fun s => sum_of_two_ok w (-y) s (by omega)
  have r5 := fun s => quotient_ok (w + -y) (v + -x) s n0 (by omega)
  have e : slQ a1 a2 a3 a4 x y v w = (w + -y) / (v + -x) := by
    unfold slQ
    rw [if_neg hne, Rat.sub_eq_add_neg, Rat.sub_eq_add_neg]
  rw [e]
  unfold crv pt
  simp [m_slope_of, defM_if, B_slope_of, eq_fq, hne, r1, r2, r3, r4, r5]
theorem slope_tn2 (o : Cq a1 a2 a3 a4 a6) (kx : hz x ≤ 760) (ky : hz y ≤ 1140) (hd : 2 * y + a1 * x + a3 ≠ 0) (s : S) : m_slope_of [.p (crv a1 a2 a3 a4 a6), .p (pt x y), .p (pt x y)] s = .ok (.p (fq (slQ a1 a2 a3 a4 x y x y))) s := by
  obtain ⟨q1, q2, q3, q4, q6⟩ := o.hzs
  have z2 : hz 2 = 2 := by decide
  have z3 : hz 3 = 2 := by decide
  have f2 : fq 2 = .int 2 := rfl
  have f3 : fq 3 = .int 3 := rfl
  have h1 := hz_mul x x
  have h2 := hz_mul 3 (x * x)
  have h3 := hz_mul a2 x
  have h4 := hz_mul 2 (a2 * x)
  have h5 := hz_mul a1 y
  have h6 := hz_neg (a1 * y)
  have h7 := hz_mul a1 x
  have r1 := fun s => product_ok x x s (by omega)
  have r2 := fun s => product_ok 3 (x * x) s (by omega)
  have r3 := fun s => product_ok a2 x s (by omega)
  have r4 := fun s => product_ok 2 (a2 * x) s (by omega)
  have r5 := fun s => product_ok a1 y s (by omega)
  have r6 := fun s => turned_ok (a1 * y) s (by omega)
  have r7 := fun s => tog4 (3 * (x * x)) (2 * (a2 * x)) a4 (-(a1 * y)) (by omega) s
  have r8 := fun s => product_ok a1 x s (by omega)
  have r9 := fun s => tog4 y y (a1 * x) a3 (by omega) s
  have t1 := hz_add (3 * (x * x)) (2 * (a2 * x))
  have t2 := hz_add (3 * (x * x) + 2 * (a2 * x)) a4
  have t3 := hz_add (3 * (x * x) + 2 * (a2 * x) + a4) (-(a1 * y))
  have t4 := hz_add y y
  have t5 := hz_add (y + y) (a1 * x)
  have t6 := hz_add (y + y + a1 * x) a3
  have hd' : y + y + a1 * x + a3 ≠ 0 := fun z => hd (by grind)
  have r10 := fun s => quotient_ok (3 * (x * x) + 2 * (a2 * x) + a4 + -(a1 * y)) (y + y + a1 * x + a3) s hd' (by omega)
  have e : slQ a1 a2 a3 a4 x y x y = (3 * (x * x) + 2 * (a2 * x) + a4 + -(a1 * y)) / (y + y + a1 * x + a3) := by
    unfold slQ
    rw [if_pos rfl]
    congr 1 <;> grind
  rw [e]
  rw [f3] at r2
  rw [f2] at r4
  generalize 3 * (x * x) + 2 * (a2 * x) + a4 + -(a1 * y) = T at *
  generalize y + y + a1 * x + a3 = D at *
  unfold crv pt
  simp [m_slope_of, defM_if, B_slope_of, eq_fq, r1, r2, r3, r4, r5, r6, r7, r8, r9, r10, sizeLine_eq]
theorem sum_on_gen2 {X Y : Rat} (k1 : hz a1 ≤ 9) (k2 : hz a2 ≤ 51) (k3 : hz a3 ≤ 9) (kx : hz x ≤ 1381) (ky : hz y ≤ 2071) (kn : hz (y + a1 * x + a3) ≤ 2074) (kv : hz v ≤ 1381) (kxv : hz x + hz v ≤ 1506) (kl : hz l ≤ 2262) (kX : hz X ≤ 3025) (kY : hz (Y + a1 * X + a3) ≤ 4540) (kY2 : hz Y ≤ 4537)
    (ho : ¬ (v = x ∧ w = -(y + a1 * x + a3))) (hs : ∀ s, m_slope_of [.p (crv a1 a2 a3 a4 a6), .p (pt x y), .p (pt v w)] s = .ok (.p (fq l)) s) (eX : fx a1 a2 l x v = X) (eY : fy a1 a3 l x y X = Y) (s : S) :
    m_sum_on [.p (crv a1 a2 a3 a4 a6), .p (pt x y), .p (pt v w)] s = .ok (.p (pt X Y)) s := by
  have n1 : ∀ s, isN false (.p (pt x y)) (.p .non) s = .ok (.p (.bl false)) s := fun _ => rfl
  have n2 : ∀ s, isN false (.p (pt v w)) (.p .non) s = .ok (.p (.bl false)) s := fun _ => rfl
  have eo := fun s => eq_pt false v w x (-(y + a1 * x + a3)) s
  simp only [if_neg Bool.false_ne_true, decide_eq_false ho] at eo
  have h1 := hz_add l a1
  have r1 := fun s => sum_of_two_ok l a1 s (by omega)
  have r2 := fun s => product_ok l (l + a1) s (by omega)
  have h2 := hz_mul l (l + a1)
  have r3 := fun s => turned_ok a2 s (by omega)
  have r4 := fun s => turned_ok x s (by omega)
  have r5 := fun s => turned_ok v s (by omega)
  have g3 := hz_neg a2
  have g4 := hz_neg x
  have g5 := hz_neg v
  have r6 := fun s => tog4 (l * (l + a1)) (-a2) (-x) (-v) (by omega) s
  rw [own_x, eX] at r6
  have r7 := fun s => sum_of_two_ok X (-x) s (by omega)
  have h3 := hz_add X (-x)
  have r8 := fun s => product_ok l (X + -x) s (by omega)
  have h4 := hz_mul l (X + -x)
  have r9 := fun s => sum_of_two_ok y (l * (X + -x)) s (by omega)
  have eYm : y + l * (X + -x) = -(Y + a1 * X + a3) := by
    rw [← eY, ← law_y]
    grind
  have kz : hz (y + l * (X + -x)) ≤ 4540 := by
    rw [eYm, hz_neg]
    exact kY
  have eZ : y + l * (X + -x) + a1 * X + a3 = -Y := by
    rw [eYm]
    grind
  have r10 := fun s => oppo_ok2 (a1 := a1) (a2 := a2) (a3 := a3) (a4 := a4) (a6 := a6) (x := X) (y := y + l * (X + -x)) (by omega) (by rw [eZ, hz_neg]; omega) s
  rw [eZ, Rat.neg_neg] at r10
  have oo := fun s => oppo_ok2 (a1 := a1) (a2 := a2) (a3 := a3) (a4 := a4) (a6 := a6) (x := x) (y := y) (by omega) (by omega) s
  generalize y + l * (X + -x) = Z at *
  have i0 : L2.atI [fq x, fq y] 0 = some (fq x) := rfl
  have i1 : L2.atI [fq x, fq y] 1 = some (fq y) := rfl
  have j0 : L2.atI [fq v, fq w] 0 = some (fq v) := rfl
  have e3 : P.tup [fq X, fq Z] = pt X Z := rfl
  simp only [m_sum_on, defM_if, B_sum_on]
  have u1 : pt x y = .tup [fq x, fq y] := rfl
  have u2 : pt v w = .tup [fq v, fq w] := rfl
  have u3 : crv a1 a2 a3 a4 a6 = .tup [fq a1, fq a2, fq a3, fq a4, fq a6] := rfl
  rw [u1] at n1 hs oo ⊢
  rw [u2] at n2 eo hs ⊢
  rw [u3] at hs oo r10 ⊢
  rw [← e3] at r10
  simp [n1, n2, eo, oo, hs, r1, r2, r3, r4, r5, r6, r7, r8, r9, r10, i0, i1, j0, sizeLine_eq]
end
noncomputable abbrev MWB : SF := (seqF (iffF (tB (op2 (eqD false) ((op2 (modD) (vE 5) (cE (.int 2)))) (cE (.int 1)))) (asgF ((calE m_sum_on [vE 0, vE 3, vE 4])) (setG 3)) nopF) (seqF (augF 5 (divD) (cE (.int 2))) (asgF ((ifE ((tB (op2 (gtD) (vE 5) (cE (.int 0))))) ((calE m_sum_on [vE 0, vE 4, vE 4])) (vE 4))) (setG 4))))
section
variable {C : P} {N : Nat → P} {m : Nat} (hs : ∀ j a : Nat, a ≤ 2 ^ j → a + 2 ^ j ≤ m → ∀ s, m_sum_on [.p C, .p (N a), .p (N (2 ^ j))] s = .ok (.p (N (a + 2 ^ j))) s)
include hs
theorem mult_wh (s : S) (x1 x2 : Option D) : ∀ (k c a j b : Nat), b = 2 ^ j → c < k → c ≤ 1000000 → a ≤ b → a + b * c ≤ m →
    ∃ b' : Nat, whF (tB (op2 (gtD) (vE 5) (cE (.int 0)))) MWB [some (.p C), x1, x2, some (.p (N a)), some (.p (N b)), some (.p (.int (c : Int)))] s = .ok (.nx [some (.p C), x1, x2, some (.p (N (a + b * c))), some (.p (N b')), some (.p (.int 0))]) s := by
  intro k
  induction k with
  | zero => intro c a j b _ h; omega
  | succ k ih =>
    intro c a j b hj hk hc ha hm
    have hj2 : b + b = 2 ^ (j + 1) := by rw [Nat.pow_succ, hj, Nat.mul_two]
    have S : ∀ a' : Nat, a' ≤ b → a' + b ≤ m → ∀ s, m_sum_on [.p C, .p (N a'), .p (N b)] s = .ok (.p (N (a' + b))) s := fun a' h1 h2 => by
      have := hs j a'
      rw [← hj] at this
      exact this h1 h2
    rw [whF_eq]
    by_cases h0 : c = 0
    · subst h0
      exact ⟨b, by simp [bnd_ev]⟩
    · have c0 : (0 : Int) < (c : Int) := by omega
      have d2 : divOk (c : Int) 2 := ⟨by decide, PyProof.noPylong_of_log2 (by decide)⟩
      have e1 : (c : Int).fdiv 2 = ((c / 2 : Nat) : Int) := by rw [Int.fdiv_eq_ediv_of_nonneg _ (by decide)]; omega
      have e2 : (c : Int).fmod 2 = ((c % 2 : Nat) : Int) := by rw [Int.fmod_eq_emod_of_nonneg _ (by decide)]; omega
      rcases Nat.mod_two_eq_zero_or_one c with hz | hz
      · have h2 : 2 ≤ c := by omega
        have hb2 : b * c = (b + b) * (c / 2) := by
          have : c = 2 * (c / 2) := by omega
          calc b * c = b * (2 * (c / 2)) := by rw [← this]
            _ = (b + b) * (c / 2) := by rw [← Nat.mul_assoc, Nat.mul_two]
        have le2 : b * 2 ≤ b * c := Nat.mul_le_mul_left b h2
        obtain ⟨b', hw⟩ := ih (c / 2) a (j + 1) (b + b) hj2 (by omega) (by omega) (by omega) (by omega)
        have s2 := S b (Nat.le_refl b) (by omega)
        have c1 : (0 : Int) < ((c / 2 : Nat) : Int) := by omega
        refine ⟨b', ?_⟩
        rw [hb2]
        generalize ((c / 2 : Nat) : Int) = c2 at *
        generalize (c : Int) = ci at *
        have hw := hw
        simp [bnd_ev, augF_ev, c0, d2, e1, e2, hz, s2, c1]
        exact hw
      · have eb : b * c = b + (b + b) * (c / 2) := by
          have : c = 2 * (c / 2) + 1 := by omega
          calc b * c = b * (2 * (c / 2) + 1) := by rw [← this]
            _ = b + (b + b) * (c / 2) := by rw [Nat.mul_add, Nat.mul_one, ← Nat.mul_assoc, Nat.mul_two, Nat.add_comm]
        have hb1 : b * 1 ≤ b * c := Nat.mul_le_mul_left b (by omega)
        have s1 := S a ha (by omega)
        by_cases h1 : c = 1
        · subst h1
          refine ⟨b, ?_⟩
          have d2 : divOk (1 : Int) 2 := d2
          have e1 : (1 : Int).fdiv 2 = 0 := by decide
          have e2 : (1 : Int).fmod 2 = 1 := by decide
          have hw : whF (tB (op2 (gtD) (vE 5) (cE (.int 0)))) MWB [some (.p C), x1, x2, some (.p (N (a + b))), some (.p (N b)), some (.p (.int 0))] s = .ok (.nx [some (.p C), x1, x2, some (.p (N (a + b))), some (.p (N b)), some (.p (.int 0))]) s := by
            rw [whF_eq]
            simp [bnd_ev]
          rw [Nat.mul_one]
          show _ = _
          simp [bnd_ev, augF_ev, s1, d2, e1, e2]
          exact hw
        · have h2 : 2 ≤ c := by omega
          have le2 : b * 2 ≤ b * c := Nat.mul_le_mul_left b h2
          obtain ⟨b', hw⟩ := ih (c / 2) (a + b) (j + 1) (b + b) hj2 (by omega) (by omega) (by omega) (by omega)
          have s2 := S b (Nat.le_refl b) (by omega)
          have c1 : (0 : Int) < ((c / 2 : Nat) : Int) := by omega
          refine ⟨b', ?_⟩
          rw [eb, ← Nat.add_assoc]
          generalize ((c / 2 : Nat) : Int) = c2 at *
          generalize (c : Int) = ci at *
          simp [bnd_ev, augF_ev, c0, d2, e1, e2, hz, s1, s2, c1]
          exact hw
theorem mult_ok (h0 : N 0 = .non) {pt : P} (n : Int) (hn : n.natAbs ≤ m) (hm : m ≤ 1000000) (h1 : if 0 ≤ n then pt = N 1 else ∀ s, m_opposite_of [.p C, .p pt] s = .ok (.p (N 1)) s) (s : S) : m_multiple_on [.p C, .p (.int n), .p pt] s = .ok (.p (N n.natAbs)) s := by
  obtain ⟨b', hw⟩ := mult_wh hs s (some (.p (.int n))) (some (.p pt)) (n.natAbs + 1) n.natAbs 0 0 1 rfl (by omega) (by omega) (by omega) (by omega)
  rw [h0, Nat.zero_add, Nat.one_mul] at hw
  have ab : absD [.p (.int n)] s = .ok (.p (.int (n.natAbs : Int))) s := by
    unfold absD
    simp
    try omega
  by_cases h : 0 ≤ n
  · rw [if_pos h] at h1
    subst h1
    simp [m_multiple_on, defM_if, B_multiple_on, h, ab, hw]
  · rw [if_neg h] at h1
    simp [m_multiple_on, defM_if, B_multiple_on, h, ab, hw, h1]
end
section
variable {i a1 a2 a3 a4 a6 : Rat} {e0 k : Nat}
theorem need_b (o : Cq a1 a2 a3 a4 a6) (i0 : i ≠ 0) (hi : hz i ≤ 30) {e : Nat} {P : Pq} (h : OkB i e0 a1 a2 a3 a4 a6 e P) (e1 : 1 ≤ e) (he : e ≤ 660) (s : S) : m_need_point [.p (crv a1 a2 a3 a4 a6), .p (pO P)] s = .ok (.p .non) s := by
  rcases P with _ | ⟨x, y⟩
  · exact need_point_non _ s
  · obtain ⟨q1, q2, q3, q4, q6⟩ := o.hzs
    obtain ⟨kx, ky, kn⟩ := h.hz i0 hi e1
    have h1 : ev a1 a2 a3 a4 a6 x y = 0 := h.1
    have h := is_on_ok2 (a1 := a1) (a2 := a2) (a3 := a3) (a4 := a4) (a6 := a6) (x := x) (y := y) (by omega) (by omega) (by omega) (by omega) (by omega) (by omega) (by omega) s
    show m_need_point [.p (crv a1 a2 a3 a4 a6), .p (pt x y)] s = _
    simp [m_need_point, defM_if, B_need_point, h, h1]
theorem sum_b (o : Cq a1 a2 a3 a4 a6) (i0 : i ≠ 0) (hi : hz i ≤ 30) {e f : Nat} {P Q : Pq} (hP : OkB i e0 a1 a2 a3 a4 a6 e P) (hQ : OkB i e0 a1 a2 a3 a4 a6 f Q) (e1 : 1 ≤ e) (f1 : 1 ≤ f) (e2 : e ≤ 650) (f2 : f ≤ 650) (h3 : e + f ≤ 690) (s : S) : m_sum_on [.p (crv a1 a2 a3 a4 a6), .p (pO P), .p (pO Q)] s = .ok (.p (pO (adQ a1 a2 a3 a4 a6 P Q))) s := by
  rcases P with _ | ⟨x, y⟩
  · exact sum_on_n1 _ _ s
  rcases Q with _ | ⟨v, w⟩
  · exact sum_on_n2 _ [fq x, fq y] s
  obtain ⟨q1, q2, q3, q4, q6⟩ := o.hzs
  obtain ⟨kx, ky, kn⟩ := hP.hz i0 hi e1
  obtain ⟨kv, kw, _⟩ := hQ.hz i0 hi f1
  have p1 : ev a1 a2 a3 a4 a6 x y = 0 := hP.1
  have p2 : ev a1 a2 a3 a4 a6 v w = 0 := hQ.1
  have hS := OkB.add (g := 2 * (e + f) + 10) i0 e1 f1 hP hQ (Nat.le_refl _)
  rw [adQ_ss] at hS ⊢
  show m_sum_on [.p (crv a1 a2 a3 a4 a6), .p (pt x y), .p (pt v w)] s = _
  by_cases ho : x = v ∧ y + w + a1 * x + a3 = 0
  · rw [if_pos ho]
    obtain ⟨z1, z2⟩ := ho
    subst z1
    have hw : w = -(y + a1 * x + a3) := by grind
    subst hw
    have r1 := fun s => oppo_ok2 (a1 := a1) (a2 := a2) (a3 := a3) (a4 := a4) (a6 := a6) (x := x) (y := y) (by have := o.k1; have := o.k3; omega) (by omega) s
    have eq := fun s => eq_pt false x (-(y + a1 * x + a3)) x (-(y + a1 * x + a3)) s
    have n1 : ∀ s, isN false (.p (pt x y)) (.p .non) s = .ok (.p (.bl false)) s := fun _ => rfl
    have n2 : ∀ s, isN false (.p (pt x (-(y + a1 * x + a3)))) (.p .non) s = .ok (.p (.bl false)) s := fun _ => rfl
    show m_sum_on _ s = .ok (.p .non) s
    simp [m_sum_on, defM_if, B_sum_on, n1, n2, r1, eq]
  · rw [if_neg ho] at hS ⊢
    have kl := OkB.slope i0 hi e1 f1 hP hQ ho
    obtain ⟨kX, kY, kN⟩ := hS.hz i0 hi (by omega)
    have hs : ∀ s, m_slope_of [.p (crv a1 a2 a3 a4 a6), .p (pt x y), .p (pt v w)] s = .ok (.p (fq (slQ a1 a2 a3 a4 x y v w))) s := fun s => by
      by_cases hx : x = v
      · subst hx
        have hn : ¬ y + w + a1 * x + a3 = 0 := fun z => ho ⟨rfl, z⟩
        have e0 := same_y p1 p2 hn
        subst e0
        refine slope_tn2 o ?_ ?_ (by grind) s
        · omega
        · omega
      · exact slope_ch2 (by omega) (by omega) (by omega) (by omega) (by omega) hx s
    refine sum_on_gen2 o.k1 q2 o.k3 (by omega) (by omega) (by omega) (by omega) (by omega) (by omega) (by omega) (by omega) (by omega) (fun z => ho ⟨z.1.symm, by rw [z.2]; grind⟩) hs rfl rfl s
theorem added_b (o : Cq a1 a2 a3 a4 a6) (i0 : i ≠ 0) (hi : hz i ≤ 30) {e f : Nat} {P Q : Pq} (hP : OkB i e0 a1 a2 a3 a4 a6 e P) (hQ : OkB i e0 a1 a2 a3 a4 a6 f Q) (e1 : 1 ≤ e) (f1 : 1 ≤ f) (e2 : e ≤ 650) (f2 : f ≤ 650) (h3 : e + f ≤ 690) (s : S) : m_added [.p (crv a1 a2 a3 a4 a6), .p (pO P), .p (pO Q)] s = .ok (.p (pO (adQ a1 a2 a3 a4 a6 P Q))) s := by
  simp [m_added, defM_if, B_added, o.nc, need_b o i0 hi hP e1 (by omega), need_b o i0 hi hQ f1 (by omega), sum_b o i0 hi hP hQ e1 f1 e2 f2 h3]
end
section
variable {a1 a2 a3 a4 a6 i : Rat} {e0 : Nat} {P : Pq}
def nP (a1 a2 a3 a4 a6 : Rat) (P : Pq) : Nat → Pq
  | 0 => none
  | k + 1 => adQ a1 a2 a3 a4 a6 (nP a1 a2 a3 a4 a6 P k) P
theorem nP_on (hP : OnQ a1 a2 a3 a4 a6 P) : ∀ k, OnQ a1 a2 a3 a4 a6 (nP a1 a2 a3 a4 a6 P k)
  | 0 => trivial
  | k + 1 => adQ_on (nP_on hP k) hP
theorem nP_add (hd : dd a1 a2 a3 a4 a6 ≠ 0) (hP : OnQ a1 a2 a3 a4 a6 P) (a : Nat) : ∀ b, adQ a1 a2 a3 a4 a6 (nP a1 a2 a3 a4 a6 P a) (nP a1 a2 a3 a4 a6 P b) = nP a1 a2 a3 a4 a6 P (a + b)
  | 0 => adQ_none _
  | b + 1 => by
    show adQ a1 a2 a3 a4 a6 _ (adQ a1 a2 a3 a4 a6 (nP a1 a2 a3 a4 a6 P b) P) = adQ a1 a2 a3 a4 a6 (nP a1 a2 a3 a4 a6 P (a + b)) P
    rw [← adQ_assoc hd (nP_on hP a) (nP_on hP b) hP, nP_add hd hP a b]
def eK : Nat → Nat
  | 0 => 31
  | 1 => 31
  | 2 => 134
  | 3 => 340
  | 4 => 546
  | 5 => 1164
  | _ => 1370
theorem nP_ok (hd : dd a1 a2 a3 a4 a6 ≠ 0) (i0 : i ≠ 0) (h : OkB i e0 a1 a2 a3 a4 a6 31 P) : ∀ k, k ≤ 6 → OkB i e0 a1 a2 a3 a4 a6 (eK k) (nP a1 a2 a3 a4 a6 P k) := by
  have k1 : OkB i e0 a1 a2 a3 a4 a6 31 (nP a1 a2 a3 a4 a6 P 1) := h
  have add : ∀ {a b e f g : Nat}, 1 ≤ e → 1 ≤ f → OkB i e0 a1 a2 a3 a4 a6 e (nP a1 a2 a3 a4 a6 P a) → OkB i e0 a1 a2 a3 a4 a6 f (nP a1 a2 a3 a4 a6 P b) → 2 * (e + f) + 10 ≤ g → OkB i e0 a1 a2 a3 a4 a6 g (nP a1 a2 a3 a4 a6 P (a + b)) := fun {a b e f g} he hf h1 h2 hg => by
    rw [← nP_add hd h.1 a b]
    exact OkB.add i0 he hf h1 h2 hg
  have k2 : OkB i e0 a1 a2 a3 a4 a6 134 (nP a1 a2 a3 a4 a6 P 2) := add (a := 1) (b := 1) (by decide) (by decide) k1 k1 (by decide)
  have k4 : OkB i e0 a1 a2 a3 a4 a6 546 (nP a1 a2 a3 a4 a6 P 4) := add (a := 2) (b := 2) (by decide) (by decide) k2 k2 (by decide)
  intro k hk
  match k, hk with
  | 0, _ => exact ⟨trivial, trivial⟩
  | 1, _ => exact k1
  | 2, _ => exact k2
  | 3, _ => exact add (a := 1) (b := 2) (by decide) (by decide) k1 k2 (by decide)
  | 4, _ => exact k4
  | 5, _ => exact add (a := 1) (b := 4) (by decide) (by decide) k1 k4 (by decide)
  | 6, _ => exact add (a := 2) (b := 4) (by decide) (by decide) k2 k4 (by decide)
theorem nP_sums (o : Cq a1 a2 a3 a4 a6) (i0 : i ≠ 0) (hi : hz i ≤ 30) (h : OkB i e0 a1 a2 a3 a4 a6 31 P) (j a : Nat) (ha : a ≤ 2 ^ j) (hm : a + 2 ^ j ≤ 6) (s : S) : m_sum_on [.p (crv a1 a2 a3 a4 a6), .p (pO (nP a1 a2 a3 a4 a6 P a)), .p (pO (nP a1 a2 a3 a4 a6 P (2 ^ j)))] s = .ok (.p (pO (nP a1 a2 a3 a4 a6 P (a + 2 ^ j)))) s := by
  have key : ∀ b : Nat, (b = 1 ∨ b = 2 ∨ b = 4) → a ≤ b → a + b ≤ 6 → m_sum_on [.p (crv a1 a2 a3 a4 a6), .p (pO (nP a1 a2 a3 a4 a6 P a)), .p (pO (nP a1 a2 a3 a4 a6 P b))] s = .ok (.p (pO (nP a1 a2 a3 a4 a6 P (a + b)))) s := fun b hb h1 h2 => by
    rw [← nP_add o.d0 h.1 a b]
    have ea : a = 0 ∨ a = 1 ∨ a = 2 := by omega
    have ka := nP_ok o.d0 i0 h a (by omega)
    have kb := nP_ok o.d0 i0 h b (by omega)
    rcases ea with rfl | rfl | rfl <;> rcases hb with rfl | rfl | rfl <;> exact sum_b o i0 hi ka kb (by decide) (by decide) (by decide) (by decide) (by decide) s
  refine key (2 ^ j) ?_ ha hm
  match j with
  | 0 => exact Or.inl rfl
  | 1 => exact Or.inr (Or.inl rfl)
  | 2 => exact Or.inr (Or.inr rfl)
  | j + 3 =>
    have : 2 ^ 3 ≤ 2 ^ (j + 3) := Nat.pow_le_pow_right (by decide) (by omega)
    omega
theorem mult_b (o : Cq a1 a2 a3 a4 a6) (i0 : i ≠ 0) (hi : hz i ≤ 30) (h : OkB i e0 a1 a2 a3 a4 a6 31 P) (hn : OkB i e0 a1 a2 a3 a4 a6 31 (ngQ a1 a3 P)) (hop : ∀ s, m_opposite_of [.p (crv a1 a2 a3 a4 a6), .p (pO P)] s = .ok (.p (pO (ngQ a1 a3 P))) s) (n : Int) (h6 : n.natAbs ≤ 6) (s : S) :
    m_multiple_on [.p (crv a1 a2 a3 a4 a6), .p (.int n), .p (pO P)] s = .ok (.p (pO (nP a1 a2 a3 a4 a6 (if 0 ≤ n then P else ngQ a1 a3 P) n.natAbs))) s := by
  by_cases h0 : 0 ≤ n
  · rw [if_pos h0]
    exact mult_ok (N := fun k => pO (nP a1 a2 a3 a4 a6 P k)) (m := 6) (fun j a ha hm s => nP_sums o i0 hi h j a ha hm s) rfl n h6 (by decide) (by rw [if_pos h0]; rfl) s
  · rw [if_neg h0]
    exact mult_ok (N := fun k => pO (nP a1 a2 a3 a4 a6 (ngQ a1 a3 P) k)) (m := 6) (fun j a ha hm s => nP_sums o i0 hi hn j a ha hm s) rfl n h6 (by decide) (by rw [if_neg h0]; exact hop) s
end
section
variable {a1 a2 a3 a4 a6 x0 y0 x1 y1 x2 y2 x y : Rat}
theorem szi_b (n : Nat) {m : Nat} {z : Int} (h : z.natAbs ≤ m) (hm : m < 2 ^ n := by decide) : szi z n := Nat.lt_of_le_of_lt h hm
theorem uu_w {X Y A C : Int} (e : x * 6 = X) (f : y * 6 = Y) (hA : a1 = A) (hC : a3 * 6 = C) (o : ev a1 a2 a3 a4 a6 x y = 0) :
    ((6 * Y * Y + 6 * A * X * Y + 6 * C * Y - X * X * X : Int) : Rat) = 216 * (a2 * x * x + a4 * x + a6) := by
  have h : ((6 * Y * Y + 6 * A * X * Y + 6 * C * Y - X * X * X : Int) : Rat) = 6 * (y * 6) * (y * 6) + 6 * a1 * (x * 6) * (y * 6) + 6 * (a3 * 6) * (y * 6) - (x * 6) * (x * 6) * (x * 6) := by
    rw [e, f, hA, hC]
    simp only [Rat.intCast_mul, Rat.intCast_add, Rat.intCast_sub, Rat.intCast_ofNat]
  rw [h]
  unfold ev at o
  grind
theorem uu_s {X Y A C : Int} (hX : X.natAbs ≤ 90) (hY : Y.natAbs ≤ 42) (hA : A.natAbs ≤ 2) (hC : C.natAbs ≤ 264) : szi (6 * Y * Y + 6 * A * X * Y + 6 * C * Y - X * X * X) 22 := by
  have x7 := szi_b 7 hX
  have y6 := szi_b 6 hY
  have a2 := szi_b 2 hA
  have c9 := szi_b 9 hC
  have s6 : szi 6 3 := by decide
  exact ((((s6.mul y6).mul y6).sum (((s6.mul a2).mul x7).mul y6) (c := 19)).sum ((s6.mul c9).mul y6) (c := 20)).dif ((x7.mul x7).mul x7) (c := 22)
structure Scl (B W : Int) (a1 a2 a3 a4 a6 : Rat) : Prop where
  b0 : W ≠ 0
  bw : B = 6 * W
  w : szi W 24
  A1 : ∃ A : Int, a1 * (B : Rat) = A ∧ szi A 30
  A2 : ∃ A : Int, a2 * (B : Rat) * B = A ∧ szi A 60
  A3 : ∃ A : Int, a3 * (B : Rat) * B * B = A ∧ szi A 90
  A4 : ∃ A : Int, a4 * (B : Rat) * B * B * B = A ∧ szi A 120
  A6 : ∃ A : Int, a6 * (B : Rat) * B * B * B * B * B = A ∧ szi A 180
theorem tri_scale (t : Tri a1 a2 a3 a4 a6 x0 y0 x1 y1 x2 y2) : ∃ B W : Int, Scl B W a1 a2 a3 a4 a6 := by
  obtain ⟨cv, d0, o0, o1, o2, n01, n12, n02, ⟨X0, e0, b0⟩, ⟨X1, e1, b1⟩, ⟨X2, e2, b2⟩, ⟨Y0, f0, c0⟩, ⟨Y1, f1, c1⟩, ⟨Y2, f2, c2⟩, ⟨A1, h1, g1⟩, ⟨C, hC, gC⟩⟩ := t
  have u0 := uu_w e0 f0 h1 hC o0
  have u1 := uu_w e1 f1 h1 hC o1
  have u2 := uu_w e2 f2 h1 hC o2
  have s0 := uu_s b0 c0 g1 gC
  have s1 := uu_s b1 c1 g1 gC
  have s2 := uu_s b2 c2 g1 gC
  generalize 6 * Y0 * Y0 + 6 * A1 * X0 * Y0 + 6 * C * Y0 - X0 * X0 * X0 = U0 at *
  generalize 6 * Y1 * Y1 + 6 * A1 * X1 * Y1 + 6 * C * Y1 - X1 * X1 * X1 = U1 at *
  generalize 6 * Y2 * Y2 + 6 * A1 * X2 * Y2 + 6 * C * Y2 - X2 * X2 * X2 = U2 at *
  have x70 := szi_b 7 b0
  have x71 := szi_b 7 b1
  have x72 := szi_b 7 b2
  have d01 : szi (X0 - X1) 8 := x70.dif x71
  have d12 : szi (X1 - X2) 8 := x71.dif x72
  have d02 : szi (X0 - X2) 8 := x70.dif x72
  have hW : szi ((X0 - X1) * (X1 - X2) * (X0 - X2)) 24 := (d01.mul d12).mul d02
  have ne : ∀ {X X' : Int} {x x' : Rat}, x * 6 = X → x' * 6 = X' → x ≠ x' → X - X' ≠ 0 := fun {X X' x x'} h h' n z => n (by
    have : X = X' := by omega
    rw [this, ← h'] at h
    grind)
  have W0 : (X0 - X1) * (X1 - X2) * (X0 - X2) ≠ 0 := Int.mul_ne_zero (Int.mul_ne_zero (ne e0 e1 n01) (ne e1 e2 n12)) (ne e0 e2 n02)
  have cW : (((X0 - X1) * (X1 - X2) * (X0 - X2) : Int) : Rat) = 216 * ((x0 - x1) * (x1 - x2) * (x0 - x2)) := by
    rw [rc_mul, rc_mul, rc_sub, rc_sub, rc_sub, ← e0, ← e1, ← e2]
    grind
  generalize (X0 - X1) * (X1 - X2) * (X0 - X2) = W at *
  have six : szi 6 3 := by decide
  have hB : szi (6 * W) 27 := six.mul hW
  have cB : ((6 * W : Int) : Rat) = 1296 * ((x0 - x1) * (x1 - x2) * (x0 - x2)) := by
    rw [rc_mul, cW, Rat.intCast_ofNat]
    grind
  have wB : ((6 * W : Int) : Rat) = 6 * (W : Rat) := by rw [rc_mul, Rat.intCast_ofNat]
  refine ⟨6 * W, W, W0, rfl, hW, ⟨A1 * (6 * W), ?_, ((szi_b 2 g1).mul hB).mono (by decide)⟩,
    ⟨(U0 * (X1 - X2) - U1 * (X0 - X2) + U2 * (X0 - X1)) * (6 * W), ?_, ((((s0.mul d12).dif (s1.mul d02) (c := 31)).sum (s2.mul d01) (c := 32)).mul hB).mono (by decide)⟩,
    ⟨C * W * (6 * W) * (6 * W), ?_, ((((szi_b 9 gC).mul hW).mul hB).mul hB).mono (by decide)⟩,
    ⟨(U0 * (X2 * X2 - X1 * X1) - U1 * (X2 * X2 - X0 * X0) + U2 * (X1 * X1 - X0 * X0)) * W * (6 * W) * (6 * W), ?_, (((((s0.mul ((x72.mul x72).dif (x71.mul x71) (c := 15))).dif (s1.mul ((x72.mul x72).dif (x70.mul x70) (c := 15))) (c := 38)).sum (s2.mul ((x71.mul x71).dif (x70.mul x70) (c := 15))) (c := 39)).mul hW).mul hB).mul hB |>.mono (by decide)⟩,
    ⟨(U0 * (X1 * X2 * (X1 - X2)) - U1 * (X0 * X2 * (X0 - X2)) + U2 * (X0 * X1 * (X0 - X1))) * W * W * (6 * W) * (6 * W) * (6 * W), ?_, (((((((s0.mul ((x71.mul x72).mul d12)).dif (s1.mul ((x70.mul x72).mul d02)) (c := 45)).sum (s2.mul ((x70.mul x71).mul d01)) (c := 46)).mul hW).mul hW).mul hB).mul hB).mul hB |>.mono (by decide)⟩⟩
  · rw [rc_mul A1, h1]
  · have m2 : a2 * ((6 * W : Int) : Rat) = ((U0 * (X1 - X2) - U1 * (X0 - X2) + U2 * (X0 - X1) : Int) : Rat) := by
      rw [cB, rc_add, rc_sub, rc_mul, rc_mul, rc_mul, rc_sub, rc_sub, rc_sub, u0, u1, u2, ← e0, ← e1, ← e2]
      grind
    rw [m2, ← rc_mul]
  · have c : ((C * W * (6 * W) * (6 * W) : Int) : Rat) = (C : Rat) * W * (6 * W) * (6 * W) := by simp only [Rat.intCast_mul, Rat.intCast_ofNat]
    rw [c, ← hC, wB]
    grind
  · have m4 : a4 * ((6 * W : Int) : Rat) * 6 = ((U0 * (X2 * X2 - X1 * X1) - U1 * (X2 * X2 - X0 * X0) + U2 * (X1 * X1 - X0 * X0) : Int) : Rat) := by
      rw [cB, rc_add, rc_sub, rc_mul, rc_mul U1, rc_mul U2, rc_sub, rc_sub, rc_sub, rc_mul, rc_mul, rc_mul, u0, u1, u2, ← e0, ← e1, ← e2]
      grind
    generalize U0 * (X2 * X2 - X1 * X1) - U1 * (X2 * X2 - X0 * X0) + U2 * (X1 * X1 - X0 * X0) = M at *
    have c : ((M * W * (6 * W) * (6 * W) : Int) : Rat) = (M : Rat) * W * (6 * W) * (6 * W) := by simp only [Rat.intCast_mul, Rat.intCast_ofNat]
    rw [c, ← m4, wB]
    grind
  · have m6 : a6 * ((6 * W : Int) : Rat) * 36 = ((U0 * (X1 * X2 * (X1 - X2)) - U1 * (X0 * X2 * (X0 - X2)) + U2 * (X0 * X1 * (X0 - X1)) : Int) : Rat) := by
      rw [cB, rc_add, rc_sub, rc_mul, rc_mul U1, rc_mul U2, rc_mul (X1 * X2), rc_mul (X0 * X2), rc_mul (X0 * X1), rc_sub, rc_sub, rc_sub, rc_mul, rc_mul, rc_mul, u0, u1, u2, ← e0, ← e1, ← e2]
      grind
    generalize U0 * (X1 * X2 * (X1 - X2)) - U1 * (X0 * X2 * (X0 - X2)) + U2 * (X0 * X1 * (X0 - X1)) = M at *
    have c : ((M * W * W * (6 * W) * (6 * W) * (6 * W) : Int) : Rat) = (M : Rat) * W * W * (6 * W) * (6 * W) * (6 * W) := by simp only [Rat.intCast_mul, Rat.intCast_ofNat]
    rw [c, ← m6, wB]
    grind
/-- a point with few bits on such a curve -/
theorem scl_ok {B W : Int} (h : Scl B W a1 a2 a3 a4 a6) (hx : S6 90 x) (hy : S6 511 y) (o : ev a1 a2 a3 a4 a6 x y = 0) : OkB (B : Rat) 30 a1 a2 a3 a4 a6 31 (some (x, y)) := by
  obtain ⟨b0, bw, w, A1, A2, A3, A4, A6⟩ := h
  obtain ⟨X, ex, bx⟩ := hx
  obtain ⟨Y, ey, by_⟩ := hy
  have B0 : (B : Rat) ≠ 0 := fun z => by
    have : B = 0 := by exact_mod_cast z
    omega
  have wB : (B : Rat) = 6 * (W : Rat) := by rw [bw, rc_mul, Rat.intCast_ofNat]
  refine ⟨o, ?_, 1, ⟨by decide, by decide, by decide, A1, A2, A3, A4, A6, ⟨X * 6 * W * W, ?_, ?_⟩, ⟨Y * 36 * W * W * W, ?_, ?_⟩⟩⟩
  · unfold ev at o ⊢
    grind
  · have c : ((X * 6 * W * W : Int) : Rat) = (X : Rat) * 6 * W * W := by simp only [Rat.intCast_mul, Rat.intCast_ofNat]
    rw [c, ← ex, wB, show (((1 : Int) : Rat) ^ 2) = 1 by decide +kernel]
    grind
  · exact ((((szi_b 7 bx).mul (show szi 6 3 by decide)).mul w).mul w).mono (by decide)
  · have c : ((Y * 36 * W * W * W : Int) : Rat) = (Y : Rat) * 36 * W * W * W := by simp only [Rat.intCast_mul, Rat.intCast_ofNat]
    rw [c, ← ey, wB, show (((1 : Int) : Rat) ^ 3) = 1 by decide +kernel]
    grind
  · exact (((((szi_b 9 by_).mul (show szi 36 6 by decide)).mul w).mul w).mul w).mono (by decide)
end
section
variable {a1 a2 a3 a4 a6 x0 y0 x1 y1 x2 y2 x y : Rat}
theorem tri_cq (t : Tri a1 a2 a3 a4 a6 x0 y0 x1 y1 x2 y2) : Cq a1 a2 a3 a4 a6 := by
  obtain ⟨A, h, hA⟩ := t.ha
  exact ⟨t.cv, t.d0, hz_of_int h (by omega), t.hc.hz (by decide)⟩
theorem scl_b {B W : Int} (h : Scl B W a1 a2 a3 a4 a6) : (B : Rat) ≠ 0 ∧ hz (B : Rat) ≤ 30 := by
  have hB : B ≠ 0 := by
    have := h.b0
    have := h.bw
    omega
  refine ⟨fun z => hB (by exact_mod_cast z), ?_⟩
  have s : szi B 27 := by
    rw [h.bw]
    exact (show szi 6 3 by decide).mul h.w
  rw [hz_int]
  have := (Nat.log2_lt (show B.natAbs ≠ 0 by omega) (k := 27)).mpr s
  omega
theorem tri_opp (t : Tri a1 a2 a3 a4 a6 x0 y0 x1 y1 x2 y2) : S6 511 (-(y0 + a1 * x0 + a3)) := by
  obtain ⟨X, e, b⟩ := t.k0
  obtain ⟨Y, f, c⟩ := t.m0
  obtain ⟨A, h, hA⟩ := t.ha
  obtain ⟨C, g, d⟩ := t.hc
  refine ⟨-(Y + A * X + C), ?_, ?_⟩
  · rw [rc_neg, rc_add, rc_add, rc_mul, ← e, ← f, ← g, ← h]
    grind
  · have : (A * X).natAbs ≤ 2 * 90 := by
      rw [Int.natAbs_mul]
      exact Nat.mul_le_mul hA b
    omega
theorem tri_okb (t : Tri a1 a2 a3 a4 a6 x0 y0 x1 y1 x2 y2) : ∃ B : Int, (B : Rat) ≠ 0 ∧ hz (B : Rat) ≤ 30 ∧ OkB (B : Rat) 30 a1 a2 a3 a4 a6 31 (some (x0, y0)) ∧ OkB (B : Rat) 30 a1 a2 a3 a4 a6 31 (ngQ a1 a3 (some (x0, y0))) := by
  obtain ⟨B, W, h⟩ := tri_scale t
  obtain ⟨b0, b1⟩ := scl_b h
  refine ⟨B, b0, b1, scl_ok h t.k0 ⟨_, t.m0.choose_spec.1, by have := t.m0.choose_spec.2; omega⟩ t.o0, scl_ok h t.k0 (tri_opp t) ?_⟩
  have o := t.o0
  unfold ev at o ⊢
  grind
theorem times_t (t : Tri a1 a2 a3 a4 a6 x0 y0 x1 y1 x2 y2) (n : Int) (h6 : n.natAbs ≤ 6) (s : S) :
    m_times_point [.p (crv a1 a2 a3 a4 a6), .p (.int n), .p (pt x0 y0)] s = .ok (.p (pO (nP a1 a2 a3 a4 a6 (if 0 ≤ n then some (x0, y0) else ngQ a1 a3 (some (x0, y0))) n.natAbs))) s := by
  obtain ⟨B, b0, b1, k1, k2⟩ := tri_okb t
  have o := tri_cq t
  have hop : ∀ s, m_opposite_of [.p (crv a1 a2 a3 a4 a6), .p (pO (some (x0, y0)))] s = .ok (.p (pO (ngQ a1 a3 (some (x0, y0))))) s := fun s => by
    obtain ⟨q1, q2, q3, q4, q6⟩ := o.hzs
    obtain ⟨kx, ky, kn⟩ := k1.hz b0 b1 (by decide)
    exact oppo_ok2 (by omega) (by omega) s
  have m := mult_b o b0 b1 k1 k2 hop n h6
  have nd := fun s => need_b o b0 b1 k1 (by decide) (by decide) s
  have r1 : -60 ≤ n := by omega
  have r2 : n ≤ 60 := by omega
  have m : ∀ s, m_multiple_on [.p (crv a1 a2 a3 a4 a6), .p (.int n), .p (pt x0 y0)] s = _ := m
  have nd : ∀ s, m_need_point [.p (crv a1 a2 a3 a4 a6), .p (pt x0 y0)] s = _ := nd
  generalize pO (nP a1 a2 a3 a4 a6 (if 0 ≤ n then some (x0, y0) else ngQ a1 a3 (some (x0, y0))) n.natAbs) = R at *
  have nc := fun s => o.nc s
  simp [m_times_point, defM_if, B_times_point, nc, is_number_int, c_MOST_TIMES, nd, m, r1, r2]
end
theorem Lopposite_ok {a1 a2 a3 a4 a6 x y : Rat} (k : hz a1 + hz a3 + hz x + hz y ≤ 7000) (s : S) : m_Lopposite [.p (five a1 a2 a3 a4 a6), .p (pp x y)] s = .ok (.p (pp x (-(y + a1 * x + a3)))) s := by
  have h : ∀ s, isN false (.p (pp x y)) (.p .non) s = .ok (.p (.bl false)) s := fun _ => rfl
  have h1 := hz_mul a1 x
  have l1 := fun s => Lprod2 a1 x (by omega) s
  have l2 := fun s => Lsum3 y (a1 * x) a3 (by omega) s
  have l3 := fun s => Lminus_ok (y + a1 * x + a3) s
  have i0 : L2.atI [pr a1, pr a2, pr a3, pr a4, pr a6] 0 = some (pr a1) := rfl
  have i2 : L2.atI [pr a1, pr a2, pr a3, pr a4, pr a6] 2 = some (pr a3) := rfl
  simp [m_Lopposite, defM_if, B_Lopposite, h, l1, l2, l3, i0, i2, sizeLine_eq]
def ppO : Pq → P
  | none => .non
  | some (x, y) => pp x y
section
variable {i a1 a2 a3 a4 a6 : Rat} {e0 k : Nat}
theorem Ladded_b (o : Cq a1 a2 a3 a4 a6) (i0 : i ≠ 0) (hi : hz i ≤ 30) {e f : Nat} {P Q : Pq} (hP : OkB i e0 a1 a2 a3 a4 a6 e P) (hQ : OkB i e0 a1 a2 a3 a4 a6 f Q) (e1 : 1 ≤ e) (f1 : 1 ≤ f) (h3 : e + f ≤ 600) (s : S) : m_Ladded [.p (five a1 a2 a3 a4 a6), .p (ppO P), .p (ppO Q)] s = .ok (.p (ppO (adQ a1 a2 a3 a4 a6 P Q))) s := by
  rcases P with _ | ⟨x, y⟩
  · have n1 : ∀ s, isN false (.p .non) (.p .non) s = .ok (.p (.bl true)) s := fun _ => rfl
    show m_Ladded [.p (five a1 a2 a3 a4 a6), .p .non, .p (ppO Q)] s = .ok (.p (ppO Q)) s
    generalize five a1 a2 a3 a4 a6 = FF
    simp [m_Ladded, defM_if, B_Ladded, n1]
  rcases Q with _ | ⟨v, w⟩
  · have n1 : ∀ s, isN false (.p (pp x y)) (.p .non) s = .ok (.p (.bl false)) s := fun _ => rfl
    have n2 : ∀ s, isN false (.p .non) (.p .non) s = .ok (.p (.bl true)) s := fun _ => rfl
    show m_Ladded [.p (five a1 a2 a3 a4 a6), .p (pp x y), .p .non] s = .ok (.p (pp x y)) s
    generalize five a1 a2 a3 a4 a6 = FF
    generalize pp x y = PP at *
    simp [m_Ladded, defM_if, B_Ladded, n1, n2]
  obtain ⟨q1, q2, q3, q4, q6⟩ := o.hzs
  have r1 := o.k1
  have r3 := o.k3
  obtain ⟨kx, ky, kn⟩ := hP.hz i0 hi e1
  obtain ⟨kv, kw, _⟩ := hQ.hz i0 hi f1
  have p1 : ev a1 a2 a3 a4 a6 x y = 0 := hP.1
  have p2 : ev a1 a2 a3 a4 a6 v w = 0 := hQ.1
  have hS := OkB.add (g := 2 * (e + f) + 10) i0 e1 f1 hP hQ (Nat.le_refl _)
  rw [adQ_ss] at hS ⊢
  show m_Ladded [.p (five a1 a2 a3 a4 a6), .p (pp x y), .p (pp v w)] s = _
  have n1 : ∀ s, isN false (.p (pp x y)) (.p .non) s = .ok (.p (.bl false)) s := fun _ => rfl
  have n2 : ∀ s, isN false (.p (pp v w)) (.p .non) s = .ok (.p (.bl false)) s := fun _ => rfl
  have op := fun s => Lopposite_ok (a1 := a1) (a2 := a2) (a3 := a3) (a4 := a4) (a6 := a6) (x := x) (y := y) (by omega) s
  have eo := fun s => eq_pp false x (-(y + a1 * x + a3)) v w s
  by_cases ho : x = v ∧ y + w + a1 * x + a3 = 0
  · rw [if_pos ho]
    have h2 : x = v ∧ -(y + a1 * x + a3) = w := ⟨ho.1, by grind⟩
    simp only [if_neg Bool.false_ne_true, decide_eq_true h2] at eo
    show m_Ladded [.p (five a1 a2 a3 a4 a6), .p (pp x y), .p (pp v w)] s = .ok (.p .non) s
    generalize pp x (-(y + a1 * x + a3)) = OP at *
    generalize pp x y = PP at *
    generalize pp v w = QQ at *
    generalize five a1 a2 a3 a4 a6 = FF at *
    simp [m_Ladded, defM_if, B_Ladded, n1, n2, op, eo]
  · rw [if_neg ho] at hS ⊢
    have kl := OkB.slope i0 hi e1 f1 hP hQ ho
    obtain ⟨kX, kY, kN⟩ := hS.hz i0 hi (by omega)
    have h2 : ¬ (x = v ∧ -(y + a1 * x + a3) = w) := fun z => ho ⟨z.1, by rw [← z.2]; grind⟩
    simp only [if_neg Bool.false_ne_true, decide_eq_false h2] at eo
    obtain ⟨l, hl⟩ : ∃ l, l = slQ a1 a2 a3 a4 x y v w := ⟨_, rfl⟩
    rw [← hl] at kl kX kY kN ⊢
    have m12 : hz (a1 * l) ≤ hz a1 + hz l := hz_mul a1 l
    have mll : hz (l * l) ≤ hz l + hz l := hz_mul l l
    have ng2 := hz_neg a2
    have ngx := hz_neg x
    have ngv := hz_neg v
    have A0 : (iffF (orT (tB (op2 (isN false) (vE 1) (cE .non))) (tB (op2 (isN false) (vE 2) (cE .non)))) (retF ((ifE ((tB (op2 (isN false) (vE 1) (cE .non)))) (vE 2) (vE 1)))) nopF) [some (.p (five a1 a2 a3 a4 a6)), some (.p (pp x y)), some (.p (pp v w)), none, none, none, none, none, none, none, none, none, none, none, none] s = .ok (.nx [some (.p (five a1 a2 a3 a4 a6)), some (.p (pp x y)), some (.p (pp v w)), none, none, none, none, none, none, none, none, none, none, none, none]) s := by
      generalize pp x y = PP at *
      generalize pp v w = QQ at *
      generalize five a1 a2 a3 a4 a6 = FF at *
      simp [n1, n2]
    have A1 : (iffF (tB (op2 (eqD false) ((calE m_Lopposite [vE 0, vE 1])) (vE 2))) (retF (cE .non)) nopF) [some (.p (five a1 a2 a3 a4 a6)), some (.p (pp x y)), some (.p (pp v w)), none, none, none, none, none, none, none, none, none, none, none, none] s = .ok (.nx [some (.p (five a1 a2 a3 a4 a6)), some (.p (pp x y)), some (.p (pp v w)), none, none, none, none, none, none, none, none, none, none, none, none]) s := by
      generalize pp x (-(y + a1 * x + a3)) = OP at *
      generalize pp x y = PP at *
      generalize pp v w = QQ at *
      generalize five a1 a2 a3 a4 a6 = FF at *
      simp [op, eo]
    have A2 : (tasF [vE 1, vE 0] (consT (tupG 2 (consG (setG 3) (consG (setG 4) nilG))) (consT (tupG 5 (consG (setG 5) (consG (setG 6) (consG (setG 7) (consG (setG 8) (consG (setG 9) nilG)))))) nilT))) [some (.p (five a1 a2 a3 a4 a6)), some (.p (pp x y)), some (.p (pp v w)), none, none, none, none, none, none, none, none, none, none, none, none] s = .ok (.nx [some (.p (five a1 a2 a3 a4 a6)), some (.p (pp x y)), some (.p (pp v w)), some (.p (pr x)), some (.p (pr y)), some (.p (pr a1)), some (.p (pr a2)), some (.p (pr a3)), some (.p (pr a4)), some (.p (pr a6)), none, none, none, none, none]) s := by
      simp
    have A3 : ∃ z11, (iffF (tB (op2 (eqD true) (vE 3) ((op2 ixD (vE 2) (cE (.int 0)))))) (asgF ((calE m_Lbetween [vE 1, vE 2])) (setG 10)) (seqF (asgF ((lstE [(calE m_Lproduct [(lstE [(tupE [cE (.int 3), cE (.int 1)]), vE 3, vE 3])]), (calE m_Lproduct [(lstE [(tupE [cE (.int 2), cE (.int 1)]), vE 6, vE 3])]), vE 8, (calE m_Lminus [(calE m_Lproduct [(lstE [vE 5, vE 4])])])])) (setG 11)) (asgF ((calE m_Lover [(calE m_Lsum [vE 11]), (calE m_Lsum [(lstE [vE 4, vE 4, (calE m_Lproduct [(lstE [vE 5, vE 3])]), vE 7])])])) (setG 10)))) [some (.p (five a1 a2 a3 a4 a6)), some (.p (pp x y)), some (.p (pp v w)), some (.p (pr x)), some (.p (pr y)), some (.p (pr a1)), some (.p (pr a2)), some (.p (pr a3)), some (.p (pr a4)), some (.p (pr a6)), none, none, none, none, none] s = .ok (.nx [some (.p (five a1 a2 a3 a4 a6)), some (.p (pp x y)), some (.p (pp v w)), some (.p (pr x)), some (.p (pr y)), some (.p (pr a1)), some (.p (pr a2)), some (.p (pr a3)), some (.p (pr a4)), some (.p (pr a6)), some (.p (pr l)), z11, none, none, none]) s := by
      have ix : ∀ s, ixD (.p (pp v w)) (.p (.int 0)) s = .ok (.p (pr v)) s := fun s => rfl
      have ne := fun s => eq_pr true x v s
      by_cases hx : x = v
      · subst hx
        have hn : ¬ y + w + a1 * x + a3 = 0 := fun z => ho ⟨rfl, z⟩
        have ey := same_y p1 p2 hn
        subst ey
        have hd : y + y + a1 * x + a3 ≠ 0 := fun z => hn (by grind)
        have z2 : hz 2 = 2 := by decide
        have z3 : hz 3 = 2 := by decide
        have t1 := fun s => Lprod3 3 x x (by omega) s
        have t2 := fun s => Lprod3 2 a2 x (by omega) s
        have t3 := fun s => Lprod2 a1 y (by omega) s
        have t4 := fun s => Lminus_ok (a1 * y) s
        have t5 := fun s => Lprod2 a1 x (by omega) s
        have b1 := hz_mul (3 * x) x
        have b1' := hz_mul 3 x
        have b2 := hz_mul (2 * a2) x
        have b2' := hz_mul 2 a2
        have b3 := hz_mul a1 y
        have b4 := hz_neg (a1 * y)
        have b5 := hz_mul a1 x
        have s4 := fun s => Lsum4 (3 * x * x) (2 * a2 * x) a4 (-(a1 * y)) (by omega) s
        have s5 := fun s => Lsum4 y y (a1 * x) a3 (by omega) s
        have c1 := hz_add (3 * x * x + 2 * a2 * x + a4) (-(a1 * y))
        have c2 := hz_add (3 * x * x + 2 * a2 * x) a4
        have c3 := hz_add (3 * x * x) (2 * a2 * x)
        have c4 := hz_add (y + y + a1 * x) a3
        have c5 := hz_add (y + y) (a1 * x)
        have c6 := hz_add y y
        have ov := fun s => Lover_ok (3 * x * x + 2 * a2 * x + a4 + -(a1 * y)) (y + y + a1 * x + a3) hd (by omega) s
        have el : (3 * x * x + 2 * a2 * x + a4 + -(a1 * y)) / (y + y + a1 * x + a3) = l := by
          rw [hl]
          unfold slQ
          rw [if_pos rfl]
          congr 1
          · grind
          · grind
        rw [el] at ov
        refine ⟨some (.p (.lst [pr (3 * x * x), pr (2 * a2 * x), pr a4, pr (-(a1 * y))])), ?_⟩
        have p3 : (.tup [.int 3, .int 1] : P) = pr 3 := rfl
        have p2' : (.tup [.int 2, .int 1] : P) = pr 2 := rfl
        simp only [if_pos, decide_true, Bool.not_true] at ne
        have t1 : ∀ s, m_Lproduct [.p (.lst [.tup [.int 3, .int 1], pr x, pr x])] s = .ok (.p (pr (3 * x * x))) s := t1
        have t2 : ∀ s, m_Lproduct [.p (.lst [.tup [.int 2, .int 1], pr a2, pr x])] s = .ok (.p (pr (2 * a2 * x))) s := t2
        clear A0 A1 A2 op eo n1 n2
        generalize pp x y = PP at *
        generalize five a1 a2 a3 a4 a6 = FF at *
        generalize pr (3 * x * x) = T1 at *
        generalize pr (2 * a2 * x) = T2 at *
        generalize pr (-(a1 * y)) = T4 at *
        generalize pr (a1 * y) = T3 at *
        generalize pr (a1 * x) = T5 at *
        generalize pr (3 * x * x + 2 * a2 * x + a4 + -(a1 * y)) = S4 at *
        generalize pr (y + y + a1 * x + a3) = S5 at *
        generalize pr l = LL at *
        generalize pr x = XX at *
        generalize pr y = YY at *
        generalize pr a1 = B1 at *
        generalize pr a2 = B2 at *
        generalize pr a3 = B3 at *
        generalize pr a4 = B4 at *
        generalize pr a6 = B6 at *
        simp [ix, ne, t1, t2, t3, t4, t5, s4, s5, ov, sizeLine_eq]
      · have bt := fun s => Lbetween_ok x y v w hx (by omega) s
        have el : tw x y v w = l := by
          rw [hl]
          unfold slQ tw
          rw [if_neg hx]
          congr 1 <;> grind
        rw [el] at bt
        simp only [if_pos, decide_eq_false hx, Bool.not_false] at ne
        refine ⟨none, ?_⟩
        have bt2 : ∀ s, m_Lbetween [.p (pp x y), .p (pp v w)] s = .ok (.p (pr l)) s := bt
        clear bt
        generalize pp x y = PP at *
        generalize pp v w = QQ at *
        generalize five a1 a2 a3 a4 a6 = FF at *
        generalize hxx : pr x = XX at *
        generalize hvv : pr v = VV at *
        generalize pr l = LL at *
        simp [ix, ne, bt2]
    obtain ⟨z11, A3⟩ := A3
    obtain ⟨X, hX⟩ : ∃ X, X = fx a1 a2 l x v := ⟨_, rfl⟩
    rw [← hX] at kX kY kN ⊢
    have pl := fun s => Lprod2 l l (by omega) s
    have pa := fun s => Lprod2 a1 l (by omega) s
    have na := fun s => Lminus_ok a2 s
    have nx := fun s => Lminus_ok x s
    have nv := fun s => Lminus_ok v s
    have sX := fun s => Lsum_ok [l * l, a1 * l, -a2, -x, -v] (v := X) (by rw [hX]; simp [List.foldl]; unfold fx; grind) (by simp [totS]; omega) s
    have sX : ∀ s, m_Lsum [.p (.lst [pr (l * l), pr (a1 * l), pr (-a2), pr (-x), pr (-v)])] s = .ok (.p (pr X)) s := sX
    have s2 := fun s => Lsum2 X (-x) (by omega) s
    have d2 := hz_add X (-x)
    have p3 := fun s => Lprod2 l (X + -x) (by omega) s
    have d3 := hz_mul l (X + -x)
    have s4 := fun s => Lsum2 y (l * (X + -x)) (by omega) s
    have eN : y + l * (X + -x) = -(fy a1 a3 l x y X + a1 * X + a3) := by
      unfold fy
      grind
    have hN : hz (y + l * (X + -x)) ≤ 3 * (2 * (e + f) + 10) + 4 + 3 * 30 := by
      rw [eN, hz_neg]
      exact kN
    have opz := fun s => Lopposite_ok (a1 := a1) (a2 := a2) (a3 := a3) (a4 := a4) (a6 := a6) (x := X) (y := y + l * (X + -x)) (by omega) s
    have eY : -(y + l * (X + -x) + a1 * X + a3) = fy a1 a3 l x y X := by
      unfold fy
      grind
    rw [eY] at opz
    have A4 : (asgF ((lstE [(calE m_Lproduct [(lstE [vE 10, vE 10])]), (calE m_Lproduct [(lstE [vE 5, vE 10])]), (calE m_Lminus [vE 6]), (calE m_Lminus [vE 3])])) (setG 12)) [some (.p (five a1 a2 a3 a4 a6)), some (.p (pp x y)), some (.p (pp v w)), some (.p (pr x)), some (.p (pr y)), some (.p (pr a1)), some (.p (pr a2)), some (.p (pr a3)), some (.p (pr a4)), some (.p (pr a6)), some (.p (pr l)), z11, none, none, none] s = .ok (.nx [some (.p (five a1 a2 a3 a4 a6)), some (.p (pp x y)), some (.p (pp v w)), some (.p (pr x)), some (.p (pr y)), some (.p (pr a1)), some (.p (pr a2)), some (.p (pr a3)), some (.p (pr a4)), some (.p (pr a6)), some (.p (pr l)), z11, some (.p (.lst [pr (l * l), pr (a1 * l), pr (-a2), pr (-x)])), none, none]) s := by
      clear A0 A1 A2 A3 op eo n1 n2 opz
      generalize pp x y = PP at *
      generalize pp v w = QQ at *
      generalize five a1 a2 a3 a4 a6 = FF at *
      generalize pr (l * l) = T1 at *
      generalize pr (a1 * l) = T2 at *
      generalize pr (-a2) = T3 at *
      generalize pr (-x) = T4 at *
      generalize pr l = LL at *
      generalize pr x = XX at *
      generalize pr a1 = B1 at *
      generalize pr a2 = B2 at *
      simp [pl, pa, na, nx, sizeLine_eq]
    have A5 : (asgF ((calE m_Lsum [(op2 (addD true) (vE 12) ((lstE [(calE m_Lminus [(op2 ixD (vE 2) (cE (.int 0)))])])))])) (setG 13)) [some (.p (five a1 a2 a3 a4 a6)), some (.p (pp x y)), some (.p (pp v w)), some (.p (pr x)), some (.p (pr y)), some (.p (pr a1)), some (.p (pr a2)), some (.p (pr a3)), some (.p (pr a4)), some (.p (pr a6)), some (.p (pr l)), z11, some (.p (.lst [pr (l * l), pr (a1 * l), pr (-a2), pr (-x)])), none, none] s = .ok (.nx [some (.p (five a1 a2 a3 a4 a6)), some (.p (pp x y)), some (.p (pp v w)), some (.p (pr x)), some (.p (pr y)), some (.p (pr a1)), some (.p (pr a2)), some (.p (pr a3)), some (.p (pr a4)), some (.p (pr a6)), some (.p (pr l)), z11, some (.p (.lst [pr (l * l), pr (a1 * l), pr (-a2), pr (-x)])), some (.p (pr X)), none]) s := by
      have ix : ∀ s, ixD (.p (pp v w)) (.p (.int 0)) s = .ok (.p (pr v)) s := fun s => rfl
      have ca : ∀ (t1 t2 t3 t4 t5 : P) (s : S), addD true (.p (.lst [t1, t2, t3, t4])) (.p (.lst [t5])) s = .ok (.p (.lst [t1, t2, t3, t4, t5])) s := fun _ _ _ _ _ _ => rfl
      clear A0 A1 A2 A3 A4 op eo n1 n2 opz
      generalize pp x y = PP at *
      generalize pp v w = QQ at *
      generalize five a1 a2 a3 a4 a6 = FF at *
      generalize pr (l * l) = T1 at *
      generalize pr (a1 * l) = T2 at *
      generalize pr (-a2) = T3 at *
      generalize pr (-x) = T4 at *
      generalize pr (-v) = T5 at *
      generalize pr v = VV at *
      generalize pr X = X1 at *
      simp [ix, nv, ca, sX, sizeLine_eq]
    have A6 : (asgF ((calE m_Lsum [(lstE [vE 4, (calE m_Lproduct [(lstE [vE 10, (calE m_Lsum [(lstE [vE 13, (calE m_Lminus [vE 3])])])])])])])) (setG 14)) [some (.p (five a1 a2 a3 a4 a6)), some (.p (pp x y)), some (.p (pp v w)), some (.p (pr x)), some (.p (pr y)), some (.p (pr a1)), some (.p (pr a2)), some (.p (pr a3)), some (.p (pr a4)), some (.p (pr a6)), some (.p (pr l)), z11, some (.p (.lst [pr (l * l), pr (a1 * l), pr (-a2), pr (-x)])), some (.p (pr X)), none] s = .ok (.nx [some (.p (five a1 a2 a3 a4 a6)), some (.p (pp x y)), some (.p (pp v w)), some (.p (pr x)), some (.p (pr y)), some (.p (pr a1)), some (.p (pr a2)), some (.p (pr a3)), some (.p (pr a4)), some (.p (pr a6)), some (.p (pr l)), z11, some (.p (.lst [pr (l * l), pr (a1 * l), pr (-a2), pr (-x)])), some (.p (pr X)), some (.p (pr (y + l * (X + -x))))]) s := by
      clear A0 A1 A2 A3 A4 A5 op eo n1 n2 opz
      generalize pp x y = PP at *
      generalize pp v w = QQ at *
      generalize five a1 a2 a3 a4 a6 = FF at *
      generalize pr (y + l * (X + -x)) = T1 at *
      generalize pr (l * (X + -x)) = T2 at *
      generalize pr (X + -x) = T3 at *
      generalize pr (-x) = T4 at *
      generalize pr X = X1 at *
      generalize pr l = LL at *
      generalize pr x = XX at *
      generalize pr y = YY at *
      simp [nx, s2, p3, s4, sizeLine_eq]
    unfold m_Ladded
    rw [defM_ev (n := 3) rfl]
    show R.bind (B_Ladded [some (.p (five a1 a2 a3 a4 a6)), some (.p (pp x y)), some (.p (pp v w)), none, none, none, none, none, none, none, none, none, none, none, none] s) (defk s) = _
    unfold B_Ladded
    rw [seqF_ok A0, seqF_ok A1, seqF_ok A2, seqF_ok A3, seqF_ok A4, seqF_ok A5, seqF_ok A6]
    clear A0 A1 A2 A3 A4 A5 A6
    have opy : ∀ s, m_Lopposite [.p (five a1 a2 a3 a4 a6), .p (.tup [pr X, pr (y + l * (X + -x))])] s = .ok (.p (pp X (fy a1 a3 l x y X))) s := opz
    clear opz
    show _ = R.ok (D.p (pp X (fy a1 a3 l x y X))) s
    generalize pp X (fy a1 a3 l x y X) = RR at *
    generalize pr (y + l * (X + -x)) = T1 at *
    generalize pr X = X1 at *
    generalize five a1 a2 a3 a4 a6 = FF at *
    simp [opy, sizeLine_eq]
end
section
variable {a1 a2 a3 a4 a6 i : Rat} {e0 n : Nat} {P : Pq}
theorem nP_per (hd : dd a1 a2 a3 a4 a6 ≠ 0) (hP : OnQ a1 a2 a3 a4 a6 P) (hn : nP a1 a2 a3 a4 a6 P n = none) (k : Nat) : nP a1 a2 a3 a4 a6 P (k + n) = nP a1 a2 a3 a4 a6 P k := by
  rw [← nP_add hd hP k n, hn, adQ_none]
theorem nP_mod (hd : dd a1 a2 a3 a4 a6 ≠ 0) (hP : OnQ a1 a2 a3 a4 a6 P) (hn : nP a1 a2 a3 a4 a6 P n = none) (n0 : 0 < n) : ∀ k, nP a1 a2 a3 a4 a6 P k = nP a1 a2 a3 a4 a6 P (k % n) := by
  intro k
  induction k using Nat.strongRecOn with
  | _ k ih =>
    by_cases h : k < n
    · rw [Nat.mod_eq_of_lt h]
    · have e : k = (k - n) + n := by omega
      have h2 := nP_per hd hP hn (k - n)
      rw [← e] at h2
      rw [h2, ih (k - n) (by omega), Nat.mod_eq_sub_mod (a := k) (by omega)]
theorem nP_back (hd : dd a1 a2 a3 a4 a6 ≠ 0) (hP : OnQ a1 a2 a3 a4 a6 P) (hn : nP a1 a2 a3 a4 a6 P n = none) : ∀ k, k ≤ n → nP a1 a2 a3 a4 a6 P (n - k) = nP a1 a2 a3 a4 a6 (ngQ a1 a3 P) k
  | 0, _ => hn
  | k + 1, hk => by
    show _ = adQ a1 a2 a3 a4 a6 (nP a1 a2 a3 a4 a6 (ngQ a1 a3 P) k) (ngQ a1 a3 P)
    rw [← nP_back hd hP hn k (by omega)]
    have e : n - k = (n - (k + 1)) + 1 := by omega
    rw [e]
    show _ = adQ a1 a2 a3 a4 a6 (adQ a1 a2 a3 a4 a6 (nP a1 a2 a3 a4 a6 P (n - (k + 1))) P) (ngQ a1 a3 P)
    rw [adQ_assoc hd (nP_on hP _) hP (ngQ_on hP), adQ_ng hP, adQ_none]
/-- every multiple of a point of order n <= 6 is small -/
theorem fin_ok (hd : dd a1 a2 a3 a4 a6 ≠ 0) (i0 : i ≠ 0) (h : OkB i e0 a1 a2 a3 a4 a6 31 P) (hg : OkB i e0 a1 a2 a3 a4 a6 31 (ngQ a1 a3 P)) (hn : nP a1 a2 a3 a4 a6 P n = none) (n0 : 0 < n) (n6 : n ≤ 6) (k : Nat) : OkB i e0 a1 a2 a3 a4 a6 340 (nP a1 a2 a3 a4 a6 P k) := by
  have small : ∀ {Q : Pq}, OkB i e0 a1 a2 a3 a4 a6 31 Q → ∀ j, j ≤ 3 → OkB i e0 a1 a2 a3 a4 a6 340 (nP a1 a2 a3 a4 a6 Q j) := fun hQ j hj => (nP_ok hd i0 hQ j (by omega)).mono (by
    have ej : j = 0 ∨ j = 1 ∨ j = 2 ∨ j = 3 := by omega
    rcases ej with rfl | rfl | rfl | rfl <;> decide)
  rw [nP_mod hd h.1 hn n0 k]
  have lt := Nat.mod_lt k n0
  generalize k % n = r at *
  by_cases hr : r ≤ 3
  · exact small h r hr
  · have e : r = n - (n - r) := by omega
    rw [e, nP_back hd h.1 hn (n - r) (by omega)]
    exact small hg (n - r) (by omega)
theorem fin_sums (o : Cq a1 a2 a3 a4 a6) (i0 : i ≠ 0) (hi : hz i ≤ 30) (h : OkB i e0 a1 a2 a3 a4 a6 31 P) (hg : OkB i e0 a1 a2 a3 a4 a6 31 (ngQ a1 a3 P)) (hn : nP a1 a2 a3 a4 a6 P n = none) (n0 : 0 < n) (n6 : n ≤ 6) (a b : Nat) (s : S) :
    m_sum_on [.p (crv a1 a2 a3 a4 a6), .p (pO (nP a1 a2 a3 a4 a6 P a)), .p (pO (nP a1 a2 a3 a4 a6 P b))] s = .ok (.p (pO (nP a1 a2 a3 a4 a6 P (a + b)))) s := by
  rw [← nP_add o.d0 h.1 a b]
  exact sum_b o i0 hi (fin_ok o.d0 i0 h hg hn n0 n6 a) (fin_ok o.d0 i0 h hg hn n0 n6 b) (by decide) (by decide) (by decide) (by decide) (by decide) s
theorem ngQ_ng (P : Pq) : ngQ a1 a3 (ngQ a1 a3 P) = P := by
  rcases P with _ | ⟨x, y⟩
  · rfl
  · show some (x, -(-(y + a1 * x + a3) + a1 * x + a3)) = some (x, y)
    congr 2
    grind
/-- multiples by any number within 60 -/
theorem times_fin (o : Cq a1 a2 a3 a4 a6) (i0 : i ≠ 0) (hi : hz i ≤ 30) (h : OkB i e0 a1 a2 a3 a4 a6 31 P) (hg : OkB i e0 a1 a2 a3 a4 a6 31 (ngQ a1 a3 P)) (hop : ∀ s, m_opposite_of [.p (crv a1 a2 a3 a4 a6), .p (pO P)] s = .ok (.p (pO (ngQ a1 a3 P))) s)
    (hn : nP a1 a2 a3 a4 a6 P n = none) (n0 : 0 < n) (n6 : n ≤ 6) (m : Int) (hm : m.natAbs ≤ 60) (s : S) : m_times_point [.p (crv a1 a2 a3 a4 a6), .p (.int m), .p (pO P)] s = .ok (.p (pO (nP a1 a2 a3 a4 a6 P (m.fmod n).toNat))) s := by
  have hb : nP a1 a2 a3 a4 a6 (ngQ a1 a3 P) n = none := by
    rw [← nP_back o.d0 h.1 hn n (Nat.le_refl n), Nat.sub_self]
    rfl
  have mo : ∀ s, m_multiple_on [.p (crv a1 a2 a3 a4 a6), .p (.int m), .p (pO P)] s = .ok (.p (pO (nP a1 a2 a3 a4 a6 P (m.fmod n).toNat))) s := fun s => by
    have fm : m.fmod n = m % (n : Int) := Int.fmod_eq_emod_of_nonneg _ (by omega)
    by_cases hs : 0 ≤ m
    · have e := mult_ok (N := fun k => pO (nP a1 a2 a3 a4 a6 P k)) (m := 60) (fun j a _ _ s => fin_sums o i0 hi h hg hn n0 n6 a (2 ^ j) s) rfl m hm (by decide) (pt := pO P) (by rw [if_pos hs]; rfl) s
      have e2 : nP a1 a2 a3 a4 a6 P m.natAbs = nP a1 a2 a3 a4 a6 P (m.fmod n).toNat := by
        rw [nP_mod o.d0 h.1 hn n0 m.natAbs]
        congr 1
        rw [fm]
        clear e fm hb
        rcases (show n = 1 ∨ n = 2 ∨ n = 3 ∨ n = 4 ∨ n = 5 ∨ n = 6 by omega) with z0 | z0 | z0 | z0 | z0 | z0 <;> subst z0 <;> omega
      rw [← e2]
      exact e
    · have e := mult_ok (N := fun k => pO (nP a1 a2 a3 a4 a6 (ngQ a1 a3 P) k)) (m := 60) (fun j a _ _ s => fin_sums o i0 hi hg (by rw [ngQ_ng]; exact h) hb n0 n6 a (2 ^ j) s) rfl m hm (by decide) (pt := pO P) (by rw [if_neg hs]; exact hop) s
      have e2 : nP a1 a2 a3 a4 a6 (ngQ a1 a3 P) m.natAbs = nP a1 a2 a3 a4 a6 P (m.fmod n).toNat := by
        rw [nP_mod o.d0 hg.1 hb n0 m.natAbs]
        have lt := Nat.mod_lt m.natAbs n0
        rw [← nP_back o.d0 h.1 hn (m.natAbs % n) (by omega)]
        by_cases z : m.natAbs % n = 0
        · rw [z, Nat.sub_zero, hn]
          have : (m.fmod n).toNat = 0 := by
            rw [fm]
            clear e fm hb
            rcases (show n = 1 ∨ n = 2 ∨ n = 3 ∨ n = 4 ∨ n = 5 ∨ n = 6 by omega) with z0 | z0 | z0 | z0 | z0 | z0 <;> subst z0 <;> omega
          rw [this]
          rfl
        · congr 1
          rw [fm]
          clear e fm hb
          rcases (show n = 1 ∨ n = 2 ∨ n = 3 ∨ n = 4 ∨ n = 5 ∨ n = 6 by omega) with z0 | z0 | z0 | z0 | z0 | z0 <;> subst z0 <;> omega
      rw [← e2]
      exact e
  have nd := fun s => need_b o i0 hi h (by decide) (by decide) s
  have nc := fun s => o.nc s
  have r1 : -60 ≤ m := by omega
  have r2 : m ≤ 60 := by omega
  generalize pO (nP a1 a2 a3 a4 a6 P (m.fmod n).toNat) = R at *
  generalize pO P = PP at *
  simp [m_times_point, defM_if, B_times_point, nc, is_number_int, c_MOST_TIMES, nd, mo, r1, r2]
end
def T60 : List (Int × Int × Nat × Nat) := [(0, 0, 1, 2),
  (1, 0, 1, 2),
  (-1, -1, 1, 2),
  (2, -3, 1, 2),
  (1, -5, 2, 3),
  (6, 14, 1, 2),
  (-5, 8, 3, 3),
  (21, -69, 5, 4),
  (-20, -435, 7, 4),
  (161, -2065, 4, 4),
  (116, -3612, 23, 6),
  (1357, 28888, 29, 6),
  (-3741, -43355, 59, 7),
  (18526, -2616119, 129, 9),
  (8385, -28076979, 314, 10),
  (480106, 332513754, 65, 10),
  (-239785, 331948240, 1529, 12),
  (12551561, -8280062505, 3689, 13),
  (-59997896, -641260644409, 8209, 15),
  (683916417, -18784454671297, 16264, 15),
  (1849037896, -318128427505160, 83313, 18),
  (51678803961, 10663732503571536, 113689, 18),
  (-270896443865, 66316334575107447, 620297, 21),
  (4881674119706, -8938035295591025771, 2382785, 23),
  (-16683000076735, -588310630753491921045, 7869898, 24),
  (997454379905326, -31636113722016288336230, 7001471, 25),
  (2786836257692691, -435912379274109872312968, 126742987, 28),
  (213822353304561757, 41974401721854929811774227, 398035821, 30),
  (-3148929681285740316, -2181616293371330311419201915, 1687054711, 32),
  (79799551268268089761, -754388827236735824355996347601, 7911171596, 34),
  (342115756927607927420, -86493818646310922606526774743956, 47301104551, 37),
  (53139223644814624290821, 12201668323950325956888219182513256, 43244638645, 38),
  (-280251129922563291422645, 253863219659861232674408424330433645, 1123424582771, 42),
  (36631192030206080565822006, -80758747641526362425597637684850206815, 6480598259201, 44),
  (-804287518035141565236193151, -43588991327163432486545613110592404899171, 32606721084786, 46),
  (54202648602164057575419038802, -13092420486726785928582676734341299347115698, 124106986093951, 48),
  (743043134297049053529252783151, -2189483446304543061371288657290348890980594400, 1662315215971057, 52),
  (102993803538933982914320107718801, 878446167724531925433595104275654803292506071599, 5987117709349201, 54),
  (-3239336802390544740129153150480400, 48072547288390781193922630252285326406309975292943, 61958046554226593, 57),
  (263817293110494867593838666854208001, -124196438988982893632369913491756562921318307752469249, 541051130050800400, 60),
  (-2613390252458014344369424012613679600, -86882155212892274588612983069418029552410839095153302800, 4257998884448335457, 63),
  (1425604881483182848970780090473397497201, -53875991960104970765283107373605344809310387645985049959200, 4830209396684261199, 66),
  (12518737094671239826683031943583152550351, -4736963419597991005921784696415662858882109120520022240208657, 334806306946199122193, 70),
  (7829698846539503638114853800715638513953202, 5524905488265614668992892434873748844920757678725926478259255853, 2591758672670554328449, 73),
  (-596929565407758846078157850477988229836340351, -8988854703297735806987625854273224398026564032032776384182186736165, 23385756731869683322514, 76),
  (79894464813428119450058959276433565868597634006, -24066410114833357599838577779951121277275124199036386947622283276346814, 230318343950087449971199, 79),
  (2385858586329829631608077553938139264431352010155, -29214087094205221480230038284783574921809176572474206696449157526076526744, 3416372868727801226636179, 83),
  (1356533706384096591887827693333962338847777347485221, 49253432232175037853939274934357858897623864482230655849646172771417862103019, 10358960321661880987253845, 85),
  (-56186054018434753527022752382280291882048809582857380, 15592711215337616623740514518966145859285850662560621449737978910137952277603645, 397068399296019032727466599, 90),
  (24854671723753819921380822649312751965653209957505606561, -65343698144990446428357439135977881124804221113554492507243553294512904673973173265, 5423908604123397486016003604, 94),
  (-2389750519110914018630990937660635435269956452770356625916, -317767562472741381531365836329461473624490112194379035242923692024816823796382914486284, 62595441409640805744780870839, 97),
  (994408714318671843767191206554332855529967794383236600272957, -1016251209900810072929921980730206887511262692325473689806331113323667505387134709144597112, 440595646706539825662189315379, 100),
  (65008789078766455275600750711306493793995920750429546912218291, -1613815096856213104404184363351718278710666144555210494295360802135794440255401609275350567115, 15886280085653574502219650145963, 105),
  (47551938020942325784141569050513811957803129798534598981096547726, 7751612906895506667933616691623515139316401338968261143476865610756109876000973273978478817077881, 147547506573676549005535542233729, 108),
  (-8633815035886806713921361263456572740784038065917674315913775417535, 1733557288842473435884738302783668417259993301789952961301504075493340013522802106880907388308572397, 2993270782370572835241882188306602, 113),
  (3314939958504756496602195602023236322615416195642377873425206920696506, -187348968061258134195229402207305291539541088615744324181846776767606430034723302844871747019809736222346, 58515492646265676827183206086980415, 117),
  (-43276783438948886312588030404441444313405755534366254416432880924019065, -1404569219647591190810439776170807388557568499615419240028639846311260572548884853673125638873264957062404880, 1107464108502549897934954766675333353, 121),
  (469789260298676633482756861843312995940090152633319561559421073276451195161, -10182700235222836480352121621260786601534246016265837514441414255976153628270164077819643311221783341620786668295, 739578212227710098047348234126634311, 125),
  (5930760454696426589489567617397943244827292346871145123187277732858766713896, -2601791558579080764014973640153146254916278820831320323297421185771980306417079937603054853971351063737389239689513, 424202695773047673359251734568172738737, 130),
  (66655479518893093532610447590226207125008330695731551720689810858664307580428417, 37099833646931979795412752491422144674264172085897667624782588245824685511999607108486631714856683592319113463437251647, 8019111916280186237802186397062274051736, 134)]
def p60 (r : Int × Int × Nat × Nat) : Rat × Rat := (Rat.divInt r.1 ((r.2.2.1 : Int) * r.2.2.1), Rat.divInt r.2.1 ((r.2.2.1 : Int) * r.2.2.1 * r.2.2.1))
/-- one step: the next is this and (0, 0) -/
def st60 (r q : Int × Int × Nat × Nat) : Bool := decide (adQ 0 0 1 (-1) 0 (some (p60 r)) (some (0, 0)) = some (p60 q))
def all60 : List (Int × Int × Nat × Nat) → Bool
  | r :: q :: l => st60 r q && all60 (q :: l)
  | _ => true
theorem all60_ok : all60 T60 = true := by decide +kernel
def sz60 (r : Int × Int × Nat × Nat) : Bool := decide (0 < r.2.2.1) && decide (2 ≤ r.2.2.2) && decide (r.2.2.2 ≤ 140) && decide (r.2.2.1 < 2 ^ (r.2.2.2 - 1)) && decide (r.1.natAbs < 2 ^ (2 * r.2.2.2)) && decide (r.2.1.natAbs < 2 ^ (3 * r.2.2.2)) && decide (ev 0 0 1 (-1) 0 (p60 r).1 (p60 r).2 = 0)
theorem sz60_ok : T60.all sz60 = true := by decide +kernel
theorem all60_get : ∀ (l : List (Int × Int × Nat × Nat)) (k : Nat) (r q : Int × Int × Nat × Nat), all60 l = true → l[k]? = some r → l[k + 1]? = some q → st60 r q = true
  | [], k, r, q, _, h, _ => by simp at h
  | [a], k, r, q, _, _, h2 => by simp at h2
  | a :: b :: l, 0, r, q, h, h1, h2 => by
    simp at h1 h2
    subst h1 h2
    exact (Bool.and_eq_true_iff.mp h).1
  | a :: b :: l, k + 1, r, q, h, h1, h2 => all60_get (b :: l) k r q (Bool.and_eq_true_iff.mp h).2 (by simpa using h1) (by simpa using h2)
theorem n60 : ∀ (k : Nat) (r : Int × Int × Nat × Nat), T60[k]? = some r → nP 0 0 1 (-1) 0 (some (0, 0)) (k + 1) = some (p60 r)
  | 0, r, h => by
    have e : T60[0]? = some (0, 0, 1, 2) := by decide +kernel
    rw [e] at h
    cases h
    decide +kernel
  | k + 1, r, h => by
    cases hq : T60[k]? with
    | none =>
      rw [List.getElem?_eq_none_iff] at hq
      rw [List.getElem?_eq_none (by omega)] at h
      cases h
    | some q =>
      show adQ 0 0 1 (-1) 0 (nP 0 0 1 (-1) 0 (some (0, 0)) (k + 1)) (some (0, 0)) = _
      rw [n60 k q hq]
      exact of_decide_eq_true (all60_get T60 k q r all60_ok hq h)
theorem ok60 {r : Int × Int × Nat × Nat} (h : sz60 r = true) : OkB 1 1 0 0 1 (-1) 0 r.2.2.2 (some (p60 r)) := by
  unfold sz60 at h
  simp only [Bool.and_eq_true, decide_eq_true_eq] at h
  obtain ⟨⟨⟨⟨⟨⟨z0, e2⟩, e3⟩, z1⟩, x1⟩, y1⟩, o⟩ := h
  have zz : ((r.2.2.1 : Int) : Rat) ≠ 0 := fun z => by
    have : (r.2.2.1 : Int) = 0 := by exact_mod_cast z
    omega
  have i1 : ∀ n : Nat, ∀ c : Int, c.natAbs ≤ 1 → szi c (n + 1) := fun n c hc => Nat.lt_of_le_of_lt hc (Nat.one_lt_pow (by omega) (by decide))
  refine ⟨o, ?_, (r.2.2.1 : Int), ⟨by omega, by omega, by exact z1, ⟨0, by decide +kernel, i1 0 0 (by decide)⟩, ⟨0, by decide +kernel, i1 1 0 (by decide)⟩, ⟨1, by decide +kernel, i1 2 1 (by decide)⟩, ⟨-1, by decide +kernel, i1 3 (-1) (by decide)⟩, ⟨0, by decide +kernel, i1 5 0 (by decide)⟩, ⟨r.1, ?_, x1⟩, ⟨r.2.1, ?_, y1⟩⟩⟩
  · show ev (0 * 1) (0 * 1 * 1) (1 * 1 * 1 * 1) (-1 * 1 * 1 * 1 * 1) (0 * 1 * 1 * 1 * 1 * 1 * 1) ((p60 r).1 * 1 * 1) ((p60 r).2 * 1 * 1 * 1) = 0
    simp only [Rat.mul_one]
    exact o
  · show Rat.divInt r.1 ((r.2.2.1 : Int) * r.2.2.1) * 1 * 1 * _ = _
    rw [Rat.divInt_eq_div, rc_mul]
    generalize ((r.2.2.1 : Int) : Rat) = Z at *
    grind
  · show Rat.divInt r.2.1 ((r.2.2.1 : Int) * r.2.2.1 * r.2.2.1) * 1 * 1 * 1 * _ = _
    rw [Rat.divInt_eq_div, rc_mul, rc_mul]
    generalize ((r.2.2.1 : Int) : Rat) = Z at *
    grind
theorem t60_len : T60.length = 60 := by decide +kernel
theorem k60 (k : Nat) (h : k ≤ 60) : OkB 1 1 0 0 1 (-1) 0 140 (nP 0 0 1 (-1) 0 (some (0, 0)) k) := by
  cases k with
  | zero => exact ⟨trivial, trivial⟩
  | succ k =>
    have hk : k < T60.length := by rw [t60_len]; omega
    have e := List.getElem?_eq_getElem hk
    have s := List.all_eq_true.mp sz60_ok _ (List.getElem_mem hk)
    generalize T60[k] = r at *
    rw [n60 k r e]
    refine (ok60 s).mono ?_
    unfold sz60 at s
    simp only [Bool.and_eq_true, decide_eq_true_eq] at s
    exact s.1.1.1.1.2
theorem cq60 : Cq 0 0 1 (-1) 0 := by
  have one : ∀ c : Int, c.natAbs ≤ 1 → Wn 1 50 1 (c : Rat) := fun c hc => ⟨c, by rw [Rat.pow_one]; exact Rat.mul_one _, Nat.lt_of_le_of_lt hc (by decide)⟩
  exact ⟨⟨1, ⟨by decide, by decide, one 0 (by decide), one 0 (by decide), one 1 (by decide), one (-1) (by decide), one 0 (by decide)⟩⟩, by decide +kernel, by decide, by decide⟩
theorem s60 (a b : Nat) (h : a + b ≤ 60) (s : S) : m_sum_on [.p (crv 0 0 1 (-1) 0), .p (pO (nP 0 0 1 (-1) 0 (some (0, 0)) a)), .p (pO (nP 0 0 1 (-1) 0 (some (0, 0)) b))] s = .ok (.p (pO (nP 0 0 1 (-1) 0 (some (0, 0)) (a + b)))) s := by
  rw [← nP_add cq60.d0 (show OnQ 0 0 1 (-1) 0 (some (0, 0)) from (k60 1 (by decide)).1) a b]
  exact sum_b cq60 (by decide) (by decide) (k60 a (by omega)) (k60 b (by omega)) (by decide) (by decide) (by decide) (by decide) (by decide) s
theorem times_60 (n : Nat) (h : n ≤ 60) (s : S) : m_times_point [.p (crv 0 0 1 (-1) 0), .p (.int (n : Int)), .p (pO (some (0, 0)))] s = .ok (.p (pO (nP 0 0 1 (-1) 0 (some (0, 0)) n))) s := by
  have mo : ∀ s, m_multiple_on [.p (crv 0 0 1 (-1) 0), .p (.int (n : Int)), .p (pO (some (0, 0)))] s = .ok (.p (pO (nP 0 0 1 (-1) 0 (some (0, 0)) n))) s := fun s =>
    mult_ok (N := fun k => pO (nP 0 0 1 (-1) 0 (some (0, 0)) k)) (m := 60) (fun j a _ hm s => s60 a (2 ^ j) hm s) rfl (n : Int) (by omega) (by decide) (pt := pO (some (0, 0))) (by rw [if_pos (by omega)]; rfl) s
  have nd := fun s => need_b cq60 (by decide) (by decide) (k60 1 (by decide)) (by decide) (by decide) s
  have nd : ∀ s, m_need_point [.p (crv 0 0 1 (-1) 0), .p (pO (some (0, 0)))] s = .ok (.p .non) s := nd
  have nc := fun s => cq60.nc s
  have r1 : -60 ≤ (n : Int) := by omega
  have r2 : (n : Int) ≤ 60 := by omega
  generalize crv 0 0 1 (-1) 0 = CC at *
  generalize pO (nP 0 0 1 (-1) 0 (some (0, 0)) n) = R at *
  generalize pO (some (0, 0)) = PP at *
  simp [m_times_point, defM_if, B_times_point, nc, is_number_int, c_MOST_TIMES, nd, mo, r1, r2]
section
variable {a1 a2 a3 a4 a6 x y i : Rat} {e0 e n : Nat} {E : Int} {P Q : Pq}
theorem si_opp (h : Si e0 E e a1 a2 a3 a4 a6 x y) : Si e0 E (e + 1) a1 a2 a3 a4 a6 x (-(y + a1 * x + a3)) := by
  have hn := h.hn
  have t1 : Wn E (3 * e + 1) 3 (a1 * x) := Wn.to h.hE ((kw h.A1).mul h.X) (by decide) (by omega)
  have t2 : Wn E (3 * e + 1) 3 a3 := Wn.to h.hE (kw h.A3) (by decide) (by omega)
  have m := h.mono (show e ≤ e + 1 by omega)
  exact ⟨m.E0, m.hn, m.hE, m.A1, m.A2, m.A3, m.A4, m.A6, m.X, (((h.Y.mono (show 3 * e ≤ 3 * e + 1 by omega)).add t1).add (t2.mono (by omega))).neg.mono (by omega)⟩
theorem okb_opp (h : OkB i e0 a1 a2 a3 a4 a6 e P) : OkB i e0 a1 a2 a3 a4 a6 (e + 1) (ngQ a1 a3 P) := by
  rcases P with _ | ⟨x, y⟩
  · exact ⟨trivial, trivial⟩
  · obtain ⟨h1, h2, E, h3⟩ := h
    have e2 : -(y + a1 * x + a3) * i * i * i = -(y * i * i * i + a1 * i * (x * i * i) + a3 * i * i * i) := by grind
    refine ⟨ngQ_on (P := some (x, y)) h1, ?_⟩
    show ev (a1 * i) (a2 * i * i) (a3 * i * i * i) (a4 * i * i * i * i) (a6 * i * i * i * i * i * i) (x * i * i) (-(y + a1 * x + a3) * i * i * i) = 0 ∧ ∃ E, Si e0 E (e + 1) (a1 * i) (a2 * i * i) (a3 * i * i * i) (a4 * i * i * i * i) (a6 * i * i * i * i * i * i) (x * i * i) (-(y + a1 * x + a3) * i * i * i)
    rw [e2]
    exact ⟨by
      clear e2 h3 h1
      generalize x * i * i = X at *
      generalize y * i * i * i = Y at *
      generalize a1 * i = b1 at *
      generalize a2 * i * i = b2 at *
      generalize a3 * i * i * i = b3 at *
      generalize a4 * i * i * i * i = b4 at *
      generalize a6 * i * i * i * i * i * i = b6 at *
      unfold ev at h2 ⊢
      grind, E, si_opp h3⟩
theorem ng_ad (hd : dd a1 a2 a3 a4 a6 ≠ 0) (hP : OnQ a1 a2 a3 a4 a6 P) (hQ : OnQ a1 a2 a3 a4 a6 Q) : adQ a1 a2 a3 a4 a6 (ngQ a1 a3 P) (ngQ a1 a3 Q) = ngQ a1 a3 (adQ a1 a2 a3 a4 a6 P Q) := by
  haveI : Std.Associative (α := Ptn a1 a2 a3 a4 a6) Ptn.add := ⟨Ptn.assoc hd⟩
  haveI : Std.Commutative (α := Ptn a1 a2 a3 a4 a6) Ptn.add := ⟨Ptn.comm⟩
  have h : ∀ p q : Ptn a1 a2 a3 a4 a6, p.neg.add q.neg = (p.add q).neg := fun p q => by
    have e : (p.add q).add (p.neg.add q.neg) = (p.add p.neg).add (q.add q.neg) := by ac_rfl
    rw [Ptn.add_neg, Ptn.add_neg, Ptn.add_zero] at e
    have e2 : (p.neg.add q.neg).add ((p.add q).add (p.add q).neg) = ((p.add q).add (p.neg.add q.neg)).add (p.add q).neg := by ac_rfl
    rw [e, Ptn.add_neg, Ptn.add_zero, Ptn.zero_add] at e2
    exact e2
  exact congrArg Subtype.val (h ⟨P, hP⟩ ⟨Q, hQ⟩)
theorem nP_ng (hd : dd a1 a2 a3 a4 a6 ≠ 0) (hP : OnQ a1 a2 a3 a4 a6 P) : ∀ k, nP a1 a2 a3 a4 a6 (ngQ a1 a3 P) k = ngQ a1 a3 (nP a1 a2 a3 a4 a6 P k)
  | 0 => rfl
  | k + 1 => by
    show adQ a1 a2 a3 a4 a6 (nP a1 a2 a3 a4 a6 (ngQ a1 a3 P) k) (ngQ a1 a3 P) = _
    rw [nP_ng hd hP k]
    exact ng_ad hd (nP_on hP k) hP
theorem nP_canc (hd : dd a1 a2 a3 a4 a6 ≠ 0) (hP : OnQ a1 a2 a3 a4 a6 P) (k : Nat) : adQ a1 a2 a3 a4 a6 (nP a1 a2 a3 a4 a6 P k) (nP a1 a2 a3 a4 a6 (ngQ a1 a3 P) k) = none := by
  rw [nP_ng hd hP k, adQ_ng (nP_on hP k)]
/-- a P and - b P -/
theorem nP_sub (hd : dd a1 a2 a3 a4 a6 ≠ 0) (hP : OnQ a1 a2 a3 a4 a6 P) (a b : Nat) : adQ a1 a2 a3 a4 a6 (nP a1 a2 a3 a4 a6 P a) (nP a1 a2 a3 a4 a6 (ngQ a1 a3 P) b) = if b ≤ a then nP a1 a2 a3 a4 a6 P (a - b) else nP a1 a2 a3 a4 a6 (ngQ a1 a3 P) (b - a) := by
  have hN : OnQ a1 a2 a3 a4 a6 (ngQ a1 a3 P) := ngQ_on hP
  by_cases h : b ≤ a
  · rw [if_pos h]
    have e : a = (a - b) + b := by omega
    conv => lhs; rw [e]
    rw [← nP_add hd hP (a - b) b, adQ_assoc hd (nP_on hP _) (nP_on hP _) (nP_on hN _), nP_canc hd hP, adQ_none]
  · rw [if_neg h]
    have e : b = a + (b - a) := by omega
    conv => lhs; rw [e]
    rw [← nP_add hd hN a (b - a), ← adQ_assoc hd (nP_on hP _) (nP_on hN _) (nP_on hN _), nP_canc hd hP, none_adQ]
/-- by whatever number -/
def nZ (a1 a2 a3 a4 a6 : Rat) (P : Pq) (n : Int) : Pq := nP a1 a2 a3 a4 a6 (if 0 ≤ n then P else ngQ a1 a3 P) n.natAbs
theorem nZ_add (hd : dd a1 a2 a3 a4 a6 ≠ 0) (hP : OnQ a1 a2 a3 a4 a6 P) (a b : Int) (ha : 0 ≤ a) : adQ a1 a2 a3 a4 a6 (nZ a1 a2 a3 a4 a6 P a) (nZ a1 a2 a3 a4 a6 P b) = nZ a1 a2 a3 a4 a6 P (a + b) := by
  unfold nZ
  rw [if_pos ha]
  by_cases hb : 0 ≤ b
  · rw [if_pos hb, if_pos (show 0 ≤ a + b by omega), nP_add hd hP]
    congr 1
    omega
  · rw [if_neg hb, nP_sub hd hP]
    by_cases h : 0 ≤ a + b
    · rw [if_pos h, if_pos (by omega)]
      congr 1
      omega
    · rw [if_neg h]
      by_cases h2 : b.natAbs ≤ a.natAbs
      · omega
      · rw [if_neg h2]
        congr 1
        omega
theorem nZ_twice (hd : dd a1 a2 a3 a4 a6 ≠ 0) (hP : OnQ a1 a2 a3 a4 a6 P) (b : Int) : adQ a1 a2 a3 a4 a6 (nZ a1 a2 a3 a4 a6 P b) (nZ a1 a2 a3 a4 a6 P b) = nZ a1 a2 a3 a4 a6 P (2 * b) := by
  unfold nZ
  by_cases hb : 0 ≤ b
  · rw [if_pos hb, if_pos (show 0 ≤ 2 * b by omega), nP_add hd hP]
    congr 1
    omega
  · rw [if_neg hb, if_neg (show ¬ 0 ≤ 2 * b by omega), nP_add hd (ngQ_on hP)]
    congr 1
    omega
theorem six_none {s d : Rat} (hs : d = s + s * s) (d0 : d ≠ 0) (hd : dd (1 - s) (-d) (-d) 0 0 ≠ 0) : nP (1 - s) (-d) (-d) 0 0 (some (0, 0)) 6 = none := by
  have on : OnQ (1 - s) (-d) (-d) 0 0 (some (0, 0)) := by
    show ev (1 - s) (-d) (-d) 0 0 0 0 = 0
    unfold ev
    grind
  have h2 : nP (1 - s) (-d) (-d) 0 0 (some (0, 0)) 2 = some (d, s * d) := by
    show adQ (1 - s) (-d) (-d) 0 0 (some (0, 0)) (some (0, 0)) = _
    rw [adQ_ss, if_neg (fun z => d0 (by have := z.2; grind))]
    have sl : slQ (1 - s) (-d) (-d) 0 0 0 0 0 = 0 := by
      unfold slQ
      rw [if_pos rfl]
      grind
    rw [sl]
    unfold fy fx
    congr 2
    · grind
    · grind
  have h3 : nP (1 - s) (-d) (-d) 0 0 (some (0, 0)) 3 = some (s, s * s) := by
    show adQ (1 - s) (-d) (-d) 0 0 (nP (1 - s) (-d) (-d) 0 0 (some (0, 0)) 2) (some (0, 0)) = _
    rw [h2, adQ_ss, if_neg (fun z => d0 z.1)]
    have sl : slQ (1 - s) (-d) (-d) 0 d (s * d) 0 0 = s := by
      unfold slQ
      rw [if_neg d0]
      grind
    rw [sl]
    unfold fy fx
    congr 2
    · grind
    · grind
  have h6 := nP_add hd on 3 3
  rw [← h6, h3, adQ_ss, if_pos ⟨rfl, by grind⟩]
structure Fin22 (a1 a2 a3 a4 : Rat) (n : Nat) : Prop where
  n2 : 2 ≤ n
  n6 : n ≤ 6
  sc : ∃ B : Int, 1 ≤ B ∧ B ≤ 81 ∧ (∃ A : Int, a1 * B = A ∧ A.natAbs ≤ 200) ∧ (∃ A : Int, a2 * B = A ∧ A.natAbs ≤ 200) ∧ (∃ A : Int, a3 * B = A ∧ A.natAbs ≤ 200) ∧ (∃ A : Int, a4 * B = A ∧ A.natAbs ≤ 200)
  s6 : n = 6 → dd a1 a2 a3 a4 0 ≠ 0 → nP a1 a2 a3 a4 0 (some (0, 0)) 6 = none
theorem wn_q {B A : Int} {a : Rat} (h : a * B = A) (hA : A.natAbs ≤ 200) : Wn B 8 1 a := ⟨A, by rw [Rat.pow_one]; exact h, Nat.lt_of_le_of_lt hA (by decide)⟩
theorem Fin22.cq (h : Fin22 a1 a2 a3 a4 n) (d0 : dd a1 a2 a3 a4 0 ≠ 0) : Cq a1 a2 a3 a4 0 := by
  obtain ⟨B, b0, b1, ⟨A1, e1, k1⟩, ⟨A2, e2, k2⟩, ⟨A3, e3, k3⟩, ⟨A4, e4, k4⟩⟩ := h.sc
  have hB : B ≠ 0 := by omega
  have w7 : szi B 7 := Nat.lt_of_le_of_lt (show B.natAbs ≤ 81 by omega) (by decide)
  have z0 : Wn B 8 1 (0 : Rat) := wn_q (A := 0) (by grind) (by decide)
  exact ⟨⟨B, ⟨hB, w7.mono (by decide), (wn_q e1 k1).mono (by decide), (wn_q e2 k2).mono (by decide), (wn_q e3 k3).mono (by decide), (wn_q e4 k4).mono (by decide), z0.mono (by decide)⟩⟩, d0, Wn.hz hB w7 (wn_q e1 k1) (by decide) (by decide), Wn.hz hB w7 (wn_q e3 k3) (by decide) (by decide)⟩
theorem Fin22.hzs (h : Fin22 a1 a2 a3 a4 n) : hz a1 ≤ 9 ∧ hz a2 ≤ 9 ∧ hz a3 ≤ 9 ∧ hz a4 ≤ 9 := by
  obtain ⟨B, b0, b1, ⟨A1, e1, k1⟩, ⟨A2, e2, k2⟩, ⟨A3, e3, k3⟩, ⟨A4, e4, k4⟩⟩ := h.sc
  have hB : B ≠ 0 := by omega
  have w7 : szi B 7 := Nat.lt_of_le_of_lt (show B.natAbs ≤ 81 by omega) (by decide)
  exact ⟨Wn.hz hB w7 (wn_q e1 k1) (by decide) (by decide), Wn.hz hB w7 (wn_q e2 k2) (by decide) (by decide), Wn.hz hB w7 (wn_q e3 k3) (by decide) (by decide), Wn.hz hB w7 (wn_q e4 k4) (by decide) (by decide)⟩
theorem on00 : ev a1 a2 a3 a4 0 0 0 = 0 := by
  unfold ev
  grind
theorem Fin22.okb (h : Fin22 a1 a2 a3 a4 n) : ∃ i : Rat, i ≠ 0 ∧ hz i ≤ 30 ∧ OkB i 30 a1 a2 a3 a4 0 31 (some (0, 0)) ∧ OkB i 30 a1 a2 a3 a4 0 31 (ngQ a1 a3 (some (0, 0))) := by
  obtain ⟨B, b0, b1, ⟨A1, e1, k1⟩, ⟨A2, e2, k2⟩, ⟨A3, e3, k3⟩, ⟨A4, e4, k4⟩⟩ := h.sc
  have hB : B ≠ 0 := by omega
  have w7 : szi B 7 := Nat.lt_of_le_of_lt (show B.natAbs ≤ 81 by omega) (by decide)
  have s1 : szi A1 8 := Nat.lt_of_le_of_lt k1 (by decide)
  have s2 : szi A2 8 := Nat.lt_of_le_of_lt k2 (by decide)
  have s3 : szi A3 8 := Nat.lt_of_le_of_lt k3 (by decide)
  have s4 : szi A4 8 := Nat.lt_of_le_of_lt k4 (by decide)
  have c1 : ∃ A : Int, a1 * (B : Rat) = A ∧ szi A 30 := ⟨A1, e1, s1.mono (by decide)⟩
  have c2 : ∃ A : Int, a2 * (B : Rat) * B = A ∧ szi A (2 * 30) := ⟨A2 * B, by rw [e2, rc_mul], (s2.mul w7).mono (by decide)⟩
  have c3 : ∃ A : Int, a3 * (B : Rat) * B * B = A ∧ szi A (3 * 30) := ⟨A3 * B * B, by rw [e3, rc_mul, rc_mul], ((s3.mul w7).mul w7).mono (by decide)⟩
  have c4 : ∃ A : Int, a4 * (B : Rat) * B * B * B = A ∧ szi A (4 * 30) := ⟨A4 * B * B * B, by rw [e4, rc_mul, rc_mul, rc_mul], (((s4.mul w7).mul w7).mul w7).mono (by decide)⟩
  have c6 : ∃ A : Int, (0 : Rat) * (B : Rat) * B * B * B * B * B = A ∧ szi A (6 * 30) := ⟨0, by grind, by decide⟩
  have cx : Wn 1 (2 * 31) 2 ((0 : Rat) * B * B) := ⟨0, by grind, by decide⟩
  have cy : Wn 1 (3 * 31) 3 ((0 : Rat) * B * B * B) := ⟨0, by grind, by decide⟩
  have o1 : ev (a1 * B) (a2 * B * B) (a3 * B * B * B) (a4 * B * B * B * B) ((0 : Rat) * B * B * B * B * B * B) ((0 : Rat) * B * B) ((0 : Rat) * B * B * B) = 0 := by
    unfold ev
    grind
  have one : OkB (B : Rat) 30 a1 a2 a3 a4 0 31 (some (0, 0)) := ⟨on00, o1, 1, ⟨by decide, by decide, by decide, c1, c2, c3, c4, c6, cx, cy⟩⟩
  have hzB : hz (B : Rat) ≤ 30 := Nat.le_trans (hz_of_int (A := B) rfl (by omega)) (by decide)
  have i0 : (B : Rat) ≠ 0 := fun z => hB (by exact_mod_cast z)
  refine ⟨B, i0, hzB, one, ?_⟩
  obtain ⟨A, e, s⟩ := c3
  have o2 : ev (a1 * B) (a2 * B * B) (a3 * B * B * B) (a4 * B * B * B * B) ((0 : Rat) * B * B * B * B * B * B) ((0 : Rat) * B * B) (-(0 + a1 * 0 + a3) * B * B * B) = 0 := by
    unfold ev
    grind
  refine ⟨ngQ_on (P := some (0, 0)) on00, o2, 1, ⟨by decide, by decide, by decide, c1, c2, ⟨A, e, s⟩, c4, c6, cx, ⟨-A, ?_, ?_⟩⟩⟩
  · have : ((-A : Int) : Rat) = -(a3 * B * B * B) := by rw [e, rc_neg]
    rw [this, show (((1 : Int) : Rat) ^ 3) = 1 by decide +kernel]
    grind
  · exact s.neg.mono (by decide)
/-- the row of its multiples below the order -/
theorem Fin22.row (h : Fin22 a1 a2 a3 a4 n) (d0 : dd a1 a2 a3 a4 0 ≠ 0) (i0 : i ≠ 0) (k1 : OkB i 30 a1 a2 a3 a4 0 31 (some (0, 0))) (k2 : OkB i 30 a1 a2 a3 a4 0 31 (ngQ a1 a3 (some (0, 0)))) (k : Nat) (hk : k < n) : OkB i 30 a1 a2 a3 a4 0 569 (nP a1 a2 a3 a4 0 (some (0, 0)) k) := by
  have n6 := h.n6
  by_cases h6 : n = 6
  · exact (fin_ok d0 i0 k1 k2 (h.s6 h6 d0) (by decide) (by decide) k).mono (by decide)
  · refine (nP_ok d0 i0 k1 k (by omega)).mono ?_
    have ej : k = 0 ∨ k = 1 ∨ k = 2 ∨ k = 3 ∨ k = 4 := by omega
    rcases ej with rfl | rfl | rfl | rfl | rfl <;> decide
end
section
variable {a1 a2 a3 a4 : Rat}
theorem fin22_w {s c d : Rat} {p b : Int} {n : Nat} (hs : s * b = p) (hp : p.natAbs ≤ 9) (b1 : 1 ≤ b) (b9 : b ≤ 9) (hc : c = 0 ∨ c = s) (hd : d = s ∨ d = s + s * s) (h2 : 2 ≤ n) (h6 : n ≤ 6) (hn : n = 6 → c = s ∧ d = s + s * s) : Fin22 (1 + -c) (-d) (-d) 0 n := by
  have pb : (p * b).natAbs ≤ 81 := by
    rw [Int.natAbs_mul]
    exact Nat.mul_le_mul hp (show b.natAbs ≤ 9 by omega)
  have pp : (p * p).natAbs ≤ 81 := by
    rw [Int.natAbs_mul]
    exact Nat.mul_le_mul hp hp
  have bb : (b * b).natAbs ≤ 81 := by
    rw [Int.natAbs_mul]
    exact Nat.mul_le_mul (show b.natAbs ≤ 9 by omega) (show b.natAbs ≤ 9 by omega)
  have b0 : 1 ≤ b * b := Int.mul_le_mul (a := 1) (c := b) (b := 1) (d := b) b1 b1 (by decide) (by omega)
  have eb : s * ((b * b : Int) : Rat) = ((p * b : Int) : Rat) := by
    rw [rc_mul, rc_mul, ← hs]
    grind
  have ep : s * s * ((b * b : Int) : Rat) = ((p * p : Int) : Rat) := by
    rw [rc_mul, rc_mul, ← hs]
    grind
  have hdd : ∃ A : Int, -d * ((b * b : Int) : Rat) = A ∧ A.natAbs ≤ 200 := by
    rcases hd with rfl | rfl
    · exact ⟨-(p * b), by rw [rc_neg, ← eb]; grind, by omega⟩
    · exact ⟨-(p * b + p * p), by rw [rc_neg, rc_add, ← eb, ← ep]; grind, by omega⟩
  refine ⟨h2, h6, ⟨b * b, b0, by omega, ?_, hdd, hdd, ⟨0, by grind, by decide⟩⟩, fun e h => ?_⟩
  · rcases hc with rfl | rfl
    · exact ⟨b * b, by grind, by omega⟩
    · exact ⟨b * b - p * b, by rw [rc_sub, ← eb]; grind, by omega⟩
  · obtain ⟨rfl, rfl⟩ := hn e
    have e1 : (1 : Rat) + -c = 1 - c := by grind
    rw [e1] at h ⊢
    refine six_none rfl (fun z => h ?_) h
    rw [z]
    have : ∀ a : Rat, dd a (-0) (-0) 0 0 = 0 := fun a => by
      unfold dd b2 b4 b6 b8 dD
      grind
    exact this _
theorem fin22_0 {a b : Int} (ha : a.natAbs ≤ 200) (hb : b.natAbs ≤ 200) : Fin22 0 (a : Rat) 0 (b : Rat) 2 :=
  ⟨by decide, by decide, ⟨1, by decide, by decide, ⟨0, by grind, by decide⟩, ⟨a, by grind, ha⟩, ⟨0, by grind, by decide⟩, ⟨b, by grind, hb⟩⟩, fun h => absurd h (by decide)⟩
theorem fin22_1 {a b : Int} (ha : a.natAbs ≤ 200) (hb : b.natAbs ≤ 200) : Fin22 (a : Rat) 0 (b : Rat) 0 3 :=
  ⟨by decide, by decide, ⟨1, by decide, by decide, ⟨a, by grind, ha⟩, ⟨0, by grind, by decide⟩, ⟨b, by grind, hb⟩, ⟨0, by grind, by decide⟩⟩, fun h => absurd h (by decide)⟩
theorem Lfinite_ok (pre post : S) (c t d : Int) (t0 : 0 ≤ t) (tb : t ≤ 60000) :
    ∃ a1 a2 a3 a4 n t' d', Fin22 a1 a2 a3 a4 n ∧ t ≤ t' ∧ t' ≤ t + 4 ∧ m_Lfinite [.obj pre.length] (dS pre c t d post) = .ok (.p (.lst [five a1 a2 a3 a4 0, pp 0 0, .int n])) (dS pre c t' d' post) := by
  have h64 : ∀ m : Int, m.natAbs ≤ 200 → szi m 8000 := fun m h => szi.mono (a := 64) (Nat.lt_of_le_of_lt h (by decide)) (by decide)
  obtain ⟨va, t1, d1, a0, a9, q1, q2, f1⟩ := Lnext_ok pre post c t d 9 (by decide) (h64 _ (by decide)) t0 (by omega)
  obtain ⟨vb, t2', d2, b0, b9, q3, q4, f2⟩ := Lnext_ok pre post c t1 d1 9 (by decide) (h64 _ (by decide)) (by omega) (by omega)
  obtain ⟨vw, t3, d3, w0, w6, q5, q6, f3⟩ := Lnext_ok pre post c t2' d2 6 (by decide) (h64 _ (by decide)) (by omega) (by omega)
  obtain ⟨vs, t4', d4, s0, s2, q7, q8, f4⟩ := Lnext_ok pre post c t3 d3 2 (by decide) (h64 _ (by decide)) (by omega) (by omega)
  obtain ⟨σ, hσ, iσ⟩ : ∃ σ : Int, (σ = 1 ∨ σ = -1) ∧ L2.atI [P.int 1, .int (-1)] vs = some (.int σ) := by
    have : vs = 0 ∨ vs = 1 := by omega
    rcases this with rfl | rfl
    · exact ⟨1, .inl rfl, rfl⟩
    · exact ⟨-1, .inr rfl, rfl⟩
  have fz : ∀ x, fin (dS pre c t d post) (.p x) (dS pre c t4' d4 post) = .ok (.p x) (dS pre c t4' d4 post) := fun x => fin_mid0 pre post [.int c, .int t, .int d] [.int c, .int t4', .int d4] x
  have m1 : mulOk (1 + vb) σ := by rcases hσ with rfl | rfl <;> exact Or.inr (Or.inl (by omega))
  have m2 : mulOk (1 + va) σ := by rcases hσ with rfl | rfl <;> exact Or.inr (Or.inl (by omega))
  have n1 : ((1 + vb) * σ).natAbs ≤ 9 := by rcases hσ with rfl | rfl <;> omega
  have n2 : ((1 + va) * σ).natAbs ≤ 9 := by rcases hσ with rfl | rfl <;> omega
  have hb0 : (1 + vb : Int) ≠ 0 := by omega
  suffices hsu : ∃ a1 a2 a3 a4 n, Fin22 a1 a2 a3 a4 n ∧ m_Lfinite [.obj pre.length] (dS pre c t d post) = .ok (.p (.lst [five a1 a2 a3 a4 0, pp 0 0, .int n])) (dS pre c t4' d4 post) by
    obtain ⟨a1, a2, a3, a4, n, h1, h2⟩ := hsu
    exact ⟨a1, a2, a3, a4, n, t4', d4, h1, by omega, by omega, h2⟩
  have l1 := fun s => Llowest_ok ((1 + va) * σ) (1 + vb) s hb0 (h64 _ (by omega))
  have hsb : Rat.divInt ((1 + va) * σ) (1 + vb) * ((1 + vb : Int) : Rat) = (((1 + va) * σ : Int) : Rat) := by
    rw [Rat.divInt_eq_div]
    exact Rat.div_mul_cancel fun z => hb0 (by exact_mod_cast z)
  have hzs : hz (Rat.divInt ((1 + va) * σ) (1 + vb)) ≤ 9 := by
    have w : Wn (1 + vb) 8 1 (Rat.divInt ((1 + va) * σ) (1 + vb)) := wn_q hsb (by omega)
    exact Wn.hz hb0 (Nat.lt_of_le_of_lt (show (1 + vb).natAbs ≤ 81 by omega) (show 81 < 2 ^ 7 by decide)) w (by decide) (by decide)
  generalize hq : Rat.divInt ((1 + va) * σ) (1 + vb) = q at *
  have hqq := hz_mul q q
  have l2 := fun s => Lprod2 q q (by omega) s
  have l3 := fun s => Lsum2 q (q * q) (by omega) s
  have l4 := fun (x : Rat) s => Lminus_ok x s
  have l4a : ∀ s, m_Lminus [.p (.tup [.int 0, .int 1])] s = .ok (.p (.tup [.int 0, .int 1])) s := fun s => Lminus_ok 0 s
  have l4b := fun s => Lminus_ok q s
  have l4c := fun s => Lminus_ok (q + q * q) s
  have l5 : ∀ s, m_Lsum [.p (.lst [.tup [.int 1, .int 1], .tup [.int 0, .int 1]])] s = .ok (.p (pr (1 + -0))) s := fun s => by
    have h := Lsum2 1 (-0) (by decide) s
    rwa [show pr 1 = P.tup [.int 1, .int 1] from rfl, show pr (-0) = P.tup [.int 0, .int 1] from rfl] at h
  have l6 : ∀ s, m_Lsum [.p (.lst [.tup [.int 1, .int 1], pr (-q)])] s = .ok (.p (pr (1 + -q))) s := fun s => by
    have h := Lsum2 1 (-q) (by rw [hz_neg]; exact Nat.le_trans (Nat.add_le_add (show hz 1 ≤ 9 by decide) hzs) (by decide)) s
    rwa [show pr 1 = P.tup [.int 1, .int 1] from rfl] at h
  generalize dS pre c t4' d4 post = S4 at *
  generalize dS pre c t3 d3 post = S3 at *
  generalize dS pre c t2' d2 post = S2 at *
  generalize dS pre c t1 d1 post = S1 at *
  generalize dS pre c t d post = S0 at *
  have hv : vw = 0 ∨ vw = 1 ∨ vw = 2 ∨ vw = 3 ∨ vw = 4 ∨ vw = 5 := by omega
  rcases hv with rfl | rfl | rfl | rfl | rfl | rfl
  · refine ⟨_, _, _, _, 2, fin22_0 (a := 1 + va) (b := (1 + vb) * σ) (by omega) (by omega), ?_⟩
    rw [show P.lst [five 0 ((1 + va : Int) : Rat) 0 (((1 + vb) * σ : Int) : Rat) 0, pp 0 0, .int ((2 : Nat) : Int)] = P.lst [P.tup [P.tup [P.int 0, P.int 1], P.tup [P.int (1 + va), P.int 1], P.tup [P.int 0, P.int 1], P.tup [P.int ((1 + vb) * σ), P.int 1], P.tup [P.int 0, P.int 1]], P.tup [P.tup [P.int 0, P.int 1], P.tup [P.int 0, P.int 1]], P.int 2] from rfl]
    simp [m_Lfinite, defM_if, B_Lfinite, f1, f2, f3, f4, iσ, m1, fz, sizeLine_eq]
  · refine ⟨_, _, _, _, 3, fin22_1 (a := 1 + va) (b := (1 + vb) * σ) (by omega) (by omega), ?_⟩
    rw [show P.lst [five ((1 + va : Int) : Rat) 0 (((1 + vb) * σ : Int) : Rat) 0 0, pp 0 0, .int ((3 : Nat) : Int)] = P.lst [P.tup [P.tup [P.int (1 + va), P.int 1], P.tup [P.int 0, P.int 1], P.tup [P.int ((1 + vb) * σ), P.int 1], P.tup [P.int 0, P.int 1], P.tup [P.int 0, P.int 1]], P.tup [P.tup [P.int 0, P.int 1], P.tup [P.int 0, P.int 1]], P.int 3] from rfl]
    simp [m_Lfinite, defM_if, B_Lfinite, f1, f2, f3, f4, iσ, m1, fz, sizeLine_eq]
  · refine ⟨_, _, _, _, 4, fin22_w (c := 0) (d := q) (n := 4) hsb n2 (by omega) (by omega) (.inl rfl) (.inl rfl) (by decide) (by decide) (fun h => absurd h (by decide)), ?_⟩
    rw [show P.lst [five (1 + -0) (-q) (-q) 0 0, pp 0 0, .int ((4 : Nat) : Int)] = P.lst [P.tup [pr (1 + -0), pr (-q), pr (-q), P.tup [P.int 0, P.int 1], P.tup [P.int 0, P.int 1]], P.tup [P.tup [P.int 0, P.int 1], P.tup [P.int 0, P.int 1]], P.int 4] from rfl]
    clear hsb hzs hqq hq
    generalize pr (1 + -q) = T1 at *
    generalize pr (1 + -0) = T2 at *
    generalize pr (-q) = T3 at *
    generalize pr (-(q + q * q)) = T4 at *
    generalize pr (q + q * q) = T5 at *
    generalize pr (q * q) = T6 at *
    generalize pr q = T7 at *
    have i0 : ∀ x y z : P, L2.atI [x, y, z] 0 = some x := fun _ _ _ => rfl
    have i1 : ∀ x y z : P, L2.atI [x, y, z] 1 = some y := fun _ _ _ => rfl
    have i2 : ∀ x y z : P, L2.atI [x, y, z] 2 = some z := fun _ _ _ => rfl
    have j1 : L2.atI [P.int 0, .int 0, .int 0, .int 1, .int 2, .int 2] 2 = some (.int 0) := rfl
    have j2 : L2.atI [P.int 4, .int 4, .int 4, .int 5, .int 6, .int 6] 2 = some (.int 4) := rfl
    simp [m_Lfinite, defM_if, B_Lfinite, f1, f2, f3, f4, iσ, m1, m2, fz, l1, l2, l3, l4a, l4b, l4c, l5, l6, i0, i1, i2, j1, j2, sizeLine_eq]
  · refine ⟨_, _, _, _, 5, fin22_w (c := q) (d := q) (n := 5) hsb n2 (by omega) (by omega) (.inr rfl) (.inl rfl) (by decide) (by decide) (fun h => absurd h (by decide)), ?_⟩
    rw [show P.lst [five (1 + -q) (-q) (-q) 0 0, pp 0 0, .int ((5 : Nat) : Int)] = P.lst [P.tup [pr (1 + -q), pr (-q), pr (-q), P.tup [P.int 0, P.int 1], P.tup [P.int 0, P.int 1]], P.tup [P.tup [P.int 0, P.int 1], P.tup [P.int 0, P.int 1]], P.int 5] from rfl]
    clear hsb hzs hqq hq
    generalize pr (1 + -q) = T1 at *
    generalize pr (1 + -0) = T2 at *
    generalize pr (-q) = T3 at *
    generalize pr (-(q + q * q)) = T4 at *
    generalize pr (q + q * q) = T5 at *
    generalize pr (q * q) = T6 at *
    generalize pr q = T7 at *
    have i0 : ∀ x y z : P, L2.atI [x, y, z] 0 = some x := fun _ _ _ => rfl
    have i1 : ∀ x y z : P, L2.atI [x, y, z] 1 = some y := fun _ _ _ => rfl
    have i2 : ∀ x y z : P, L2.atI [x, y, z] 2 = some z := fun _ _ _ => rfl
    have j1 : L2.atI [P.int 0, .int 0, .int 0, .int 1, .int 2, .int 2] 3 = some (.int 1) := rfl
    have j2 : L2.atI [P.int 4, .int 4, .int 4, .int 5, .int 6, .int 6] 3 = some (.int 5) := rfl
    simp [m_Lfinite, defM_if, B_Lfinite, f1, f2, f3, f4, iσ, m1, m2, fz, l1, l2, l3, l4a, l4b, l4c, l5, l6, i0, i1, i2, j1, j2, sizeLine_eq]
  · refine ⟨_, _, _, _, 6, fin22_w (c := q) (d := (q + q * q)) (n := 6) hsb n2 (by omega) (by omega) (.inr rfl) (.inr rfl) (by decide) (by decide) (fun _ => ⟨rfl, rfl⟩), ?_⟩
    rw [show P.lst [five (1 + -q) (-(q + q * q)) (-(q + q * q)) 0 0, pp 0 0, .int ((6 : Nat) : Int)] = P.lst [P.tup [pr (1 + -q), pr (-(q + q * q)), pr (-(q + q * q)), P.tup [P.int 0, P.int 1], P.tup [P.int 0, P.int 1]], P.tup [P.tup [P.int 0, P.int 1], P.tup [P.int 0, P.int 1]], P.int 6] from rfl]
    clear hsb hzs hqq hq
    generalize pr (1 + -q) = T1 at *
    generalize pr (1 + -0) = T2 at *
    generalize pr (-q) = T3 at *
    generalize pr (-(q + q * q)) = T4 at *
    generalize pr (q + q * q) = T5 at *
    generalize pr (q * q) = T6 at *
    generalize pr q = T7 at *
    have i0 : ∀ x y z : P, L2.atI [x, y, z] 0 = some x := fun _ _ _ => rfl
    have i1 : ∀ x y z : P, L2.atI [x, y, z] 1 = some y := fun _ _ _ => rfl
    have i2 : ∀ x y z : P, L2.atI [x, y, z] 2 = some z := fun _ _ _ => rfl
    have j1 : L2.atI [P.int 0, .int 0, .int 0, .int 1, .int 2, .int 2] 4 = some (.int 2) := rfl
    have j2 : L2.atI [P.int 4, .int 4, .int 4, .int 5, .int 6, .int 6] 4 = some (.int 6) := rfl
    simp [m_Lfinite, defM_if, B_Lfinite, f1, f2, f3, f4, iσ, m1, m2, fz, l1, l2, l3, l4a, l4b, l4c, l5, l6, i0, i1, i2, j1, j2, sizeLine_eq]
  · refine ⟨_, _, _, _, 6, fin22_w (c := q) (d := (q + q * q)) (n := 6) hsb n2 (by omega) (by omega) (.inr rfl) (.inr rfl) (by decide) (by decide) (fun _ => ⟨rfl, rfl⟩), ?_⟩
    rw [show P.lst [five (1 + -q) (-(q + q * q)) (-(q + q * q)) 0 0, pp 0 0, .int ((6 : Nat) : Int)] = P.lst [P.tup [pr (1 + -q), pr (-(q + q * q)), pr (-(q + q * q)), P.tup [P.int 0, P.int 1], P.tup [P.int 0, P.int 1]], P.tup [P.tup [P.int 0, P.int 1], P.tup [P.int 0, P.int 1]], P.int 6] from rfl]
    clear hsb hzs hqq hq
    generalize pr (1 + -q) = T1 at *
    generalize pr (1 + -0) = T2 at *
    generalize pr (-q) = T3 at *
    generalize pr (-(q + q * q)) = T4 at *
    generalize pr (q + q * q) = T5 at *
    generalize pr (q * q) = T6 at *
    generalize pr q = T7 at *
    have i0 : ∀ x y z : P, L2.atI [x, y, z] 0 = some x := fun _ _ _ => rfl
    have i1 : ∀ x y z : P, L2.atI [x, y, z] 1 = some y := fun _ _ _ => rfl
    have i2 : ∀ x y z : P, L2.atI [x, y, z] 2 = some z := fun _ _ _ => rfl
    have j1 : L2.atI [P.int 0, .int 0, .int 0, .int 1, .int 2, .int 2] 5 = some (.int 2) := rfl
    have j2 : L2.atI [P.int 4, .int 4, .int 4, .int 5, .int 6, .int 6] 5 = some (.int 6) := rfl
    simp [m_Lfinite, defM_if, B_Lfinite, f1, f2, f3, f4, iσ, m1, m2, fz, l1, l2, l3, l4a, l4b, l4c, l5, l6, i0, i1, i2, j1, j2, sizeLine_eq]
end
def pyO : Pq → PyData
  | none => .none
  | some (x, y) => .tuple [.tuple [.int x.num, .int x.den], .tuple [.int y.num, .int y.den]]
theorem toPys_ppO : ∀ xs : List Pq, toPys (xs.map ppO) = some (xs.map pyO)
  | [] => rfl
  | none :: r => toPys_cons (d := .none) rfl (toPys_ppO r)
  | some (x, y) :: r => toPys_cons (d := .tuple [.tuple [.int x.num, .int x.den], .tuple [.int y.num, .int y.den]]) rfl (toPys_ppO r)
theorem ppO_lay : ∀ xs : List Pq, PyData.canLayAll0 (xs.map pyO) = true
  | [] => rfl
  | none :: r => by
    rw [List.map_cons]
    simp [pyO, PyData.canLayAll0, PyData.canLay0, ppO_lay r]
  | some (x, y) :: r => by
    rw [List.map_cons]
    simp [pyO, PyData.canLayAll0, PyData.canLay0, ppO_lay r]
theorem ppO_dep : ∀ xs : List Pq, PyData.depthAll (xs.map pyO) ≤ 10
  | [] => by decide
  | none :: r => by
    have := ppO_dep r
    rw [List.map_cons]
    simp [pyO, PyData.depthAll, PyData.depth]
    omega
  | some (x, y) :: r => by
    have := ppO_dep r
    rw [List.map_cons]
    simp [pyO, PyData.depthAll, PyData.depth]
    omega
theorem in_ppO (xs : List Pq) (s : S) : ∃ b, inD false (.p .non) (.p (.lst (xs.map ppO))) s = .ok (.p (.bl b)) s := by
  refine ⟨_, in_lst false (d := .none) rfl (toPys_ppO xs) ⟨rfl, ?_⟩⟩
  unfold SeqAt.shaped
  have h := ppO_dep xs
  simp [PyData.canLay0, PyData.depth, ppO_lay xs]
  omega
def rowR (a1 a2 a3 a4 a6 : Rat) (P : Pq) (k : Nat) : List CW.P := ((List.range (k + 1)).map fun j => nP a1 a2 a3 a4 a6 P j).map ppO
section
variable {a1 a2 a3 a4 a6 i : Rat} {e0 e n : Nat} {P : Pq}
theorem rowR_succ (k : Nat) : rowR a1 a2 a3 a4 a6 P (k + 1) = rowR a1 a2 a3 a4 a6 P k ++ [ppO (nP a1 a2 a3 a4 a6 P (k + 1))] := by
  unfold rowR
  rw [List.range_succ, List.map_append, List.map_append]
  rfl
theorem rowR_len (k : Nat) : (rowR a1 a2 a3 a4 a6 P k).length = k + 1 := by
  unfold rowR
  rw [List.length_map, List.length_map, List.length_range]
theorem rowR_get (k j : Nat) (h : j ≤ k) : (rowR a1 a2 a3 a4 a6 P k)[j]? = some (ppO (nP a1 a2 a3 a4 a6 P j)) := by
  unfold rowR
  rw [List.getElem?_map, List.getElem?_map, List.getElem?_range (by omega)]
  rfl
theorem rowR_at (k : Nat) (j : Int) (h0 : 0 ≤ j) (h : j ≤ k) : L2.atI (rowR a1 a2 a3 a4 a6 P k) j = some (ppO (nP a1 a2 a3 a4 a6 P j.toNat)) := by
  unfold L2.atI
  rw [ixN_ok h0 (by rw [rowR_len]; omega), Option.bind_some, rowR_get k _ (by omega)]
theorem rowR_last (k : Nat) : L2.atI (rowR a1 a2 a3 a4 a6 P k) (-1) = some (ppO (nP a1 a2 a3 a4 a6 P k)) := by
  unfold L2.atI L2.ixN
  rw [rowR_len, if_neg (by decide), if_pos (by omega)]
  show (rowR a1 a2 a3 a4 a6 P k)[(-1 + ((k + 1 : Nat) : Int)).toNat]? = _
  rw [show (-1 + ((k + 1 : Nat) : Int)).toNat = k by omega]
  exact rowR_get k k (Nat.le_refl k)
theorem Lpoint_o (Q : Pq) (s : S) : m_Lpoint [.p (ppO Q)] s = .ok (.p (pO Q)) s := by
  rcases Q with _ | ⟨x, y⟩
  · exact Lpoint_non s
  · exact Lpoint_ok x y s
theorem rp_b (i0 : i ≠ 0) (hi : hz i ≤ 30) (h : OkB i e0 a1 a2 a3 a4 a6 e P) (he : e ≤ 1370) : ∃ d, toPy (pO P) = some d ∧ Rp d 2 40000 := by
  rcases P with _ | ⟨x, y⟩
  · exact ⟨_, rfl, Rp.non.mono (by decide) (by decide)⟩
  · obtain ⟨kx, ky, kn⟩ := (h.mono (show e ≤ 1370 by omega)).hz i0 hi (by decide)
    refine ⟨.tuple [fqPy x, fqPy y], toPy_tup (toPys_cons (toPy_fq x) (toPys_cons (toPy_fq y) toPys_nil)), ?_⟩
    have h := Rp.tup (ds := [fqPy x, fqPy y]) (n := 1) (L := 17000) fun d hd => by
      simp only [List.mem_cons, List.not_mem_nil, or_false] at hd
      rcases hd with rfl | rfl
      · exact Rp.fqW (by omega)
      · exact Rp.fqW (by omega)
    exact h.mono (by decide) (by simp)
theorem shw_b (i0 : i ≠ 0) (hi : hz i ≤ 30) (h : OkB i e0 a1 a2 a3 a4 a6 e P) (he : e ≤ 1370) : ∃ t, PyData.strOk t = true ∧ ∀ s, shwD [.p (pO P)] s = .ok (.p (.str t)) s := by
  obtain ⟨d, h1, h2⟩ := rp_b i0 hi h he
  exact ⟨d.shown, h2.ok, fun s => shw_rp (x := .p (pO P)) h1 h2 (by decide) (by rw [sizeLine_eq]; decide)⟩
theorem shw_bs (i0 : i ≠ 0) (hi : hz i ≤ 30) {r : List Pq} (h : ∀ P ∈ r, OkB i e0 a1 a2 a3 a4 a6 e P) (he : e ≤ 1370) (hl : r.length ≤ 100) : ∃ t, PyData.strOk t = true ∧ ∀ s, shwD [.p (.lst (r.map pO))] s = .ok (.p (.str t)) s := by
  obtain ⟨ds, h1, h2, h3⟩ := toPys_of (xs := r.map pO) (n := 2) (l := 40000) fun x hx => by
    obtain ⟨P, hP, rfl⟩ := List.mem_map.mp hx
    exact rp_b i0 hi (h P hP) he
  have r' := Rp.lst h3
  rw [List.length_map] at h2
  exact ⟨(PyData.list ds).shown, r'.ok, fun s => shw_rp (toPy_lst h1) r' (by decide) (by rw [h2, sizeLine_eq]; omega)⟩
theorem ne_text22 {w : Str} (h : PyData.strOk w = true) (s : S) : eqD true (.p (.str w)) (.p (.str w)) s = .ok (.p (.bl false)) s := by
  rw [eq_str true w w s h h]
  simp
theorem is_point_b (o : Cq a1 a2 a3 a4 a6) (i0 : i ≠ 0) (hi : hz i ≤ 30) (h : OkB i e0 a1 a2 a3 a4 a6 e P) (e1 : 1 ≤ e) (he : e ≤ 600) (s : S) : m_is_point [.p (crv a1 a2 a3 a4 a6), .p (pO P)] s = .ok (.p (.bl true)) s := by
  have nc := fun st => o.nc st
  rcases P with _ | ⟨x, y⟩
  · have h1 := fun st => is_on_non (crv a1 a2 a3 a4 a6) st
    show m_is_point [.p (crv a1 a2 a3 a4 a6), .p .non] s = _
    simp [m_is_point, defM_if, B_is_point, nc, h1]
  · obtain ⟨q1, q2, q3, q4, q6⟩ := o.hzs
    obtain ⟨kx, ky, kn⟩ := h.hz i0 hi e1
    have h1 : ev a1 a2 a3 a4 a6 x y = 0 := h.1
    have h2 := fun st => is_on_ok2 (a1 := a1) (a2 := a2) (a3 := a3) (a4 := a4) (a6 := a6) (x := x) (y := y) (by omega) (by omega) (by omega) (by omega) (by omega) (by omega) (by omega) st
    show m_is_point [.p (crv a1 a2 a3 a4 a6), .p (pt x y)] s = _
    simp [m_is_point, defM_if, B_is_point, nc, h2, h1]
end
section
variable {a1 a2 a3 a4 i : Rat} {n : Nat}
theorem end_mod (T : S) (R : List CW.P) (j : Int) {x : CW.P} (h : L2.atI R j = some x) : ixD (.obj T.length) (.p (.int j)) (T ++ [some (.lst R)]) = .ok (.p x) (T ++ [some (.lst R)]) := ix_obj (lsAt_endL R) h
/-- the row, one sum behind the other -/
theorem rnd_loop (o : Cq a1 a2 a3 a4 0) (i0 : i ≠ 0) (hi : hz i ≤ 30) (k1 : OkB i 30 a1 a2 a3 a4 0 31 (some (0, 0))) (hr : ∀ k, k < n → OkB i 30 a1 a2 a3 a4 0 569 (nP a1 a2 a3 a4 0 (some (0, 0)) k)) (T : S) (hT : n ≤ 6) (x0 x3 x4 x5 x8 : Option D) (j : Nat) (hj : j < n) :
    ∃ z, forL [] (setG 7) (expF (metE appD (vE 6) [calE m_Ladded [vE 1, op2 ixD (vE 6) (op1 negD (cE (.int 1))), vE 2]])) (ranP 0 j) [x0, some (.p (five a1 a2 a3 a4 0)), some (.p (ppO (some (0, 0)))), x3, x4, x5, some (.obj T.length), none, x8] (T ++ [some (.lst (rowR a1 a2 a3 a4 0 (some (0, 0)) 0))]) =
      .ok (.nx [x0, some (.p (five a1 a2 a3 a4 0)), some (.p (ppO (some (0, 0)))), x3, x4, x5, some (.obj T.length), z, x8]) (T ++ [some (.lst (rowR a1 a2 a3 a4 0 (some (0, 0)) j))]) := by
  have hlen : (ranP 0 j).length = j := ranP_len 0 j
  obtain ⟨ρ', s', e, z, rfl, rfl⟩ := forL_cnt (tg := setG 7) (f := expF (metE appD (vE 6) [calE m_Ladded [vE 1, op2 ixD (vE 6) (op1 negD (cE (.int 1))), vE 2]])) j
    (fun k ρ s => ∃ z, ρ = [x0, some (.p (five a1 a2 a3 a4 0)), some (.p (ppO (some (0, 0)))), x3, x4, x5, some (.obj T.length), z, x8] ∧ s = T ++ [some (.lst (rowR a1 a2 a3 a4 0 (some (0, 0)) k))])
    (xs := ranP 0 j) (n := 0) (ρ := [x0, some (.p (five a1 a2 a3 a4 0)), some (.p (ppO (some (0, 0)))), x3, x4, x5, some (.obj T.length), none, x8]) (s := T ++ [some (.lst (rowR a1 a2 a3 a4 0 (some (0, 0)) 0))]) (by rw [hlen]; omega) ⟨none, rfl, rfl⟩ (fun x _ k ρ s hk h => by
      obtain ⟨z, rfl, rfl⟩ := h
      have ad : ∀ s, m_Ladded [.p (five a1 a2 a3 a4 0), .p (ppO (nP a1 a2 a3 a4 0 (some (0, 0)) k)), .p (ppO (some (0, 0)))] s = .ok (.p (ppO (nP a1 a2 a3 a4 0 (some (0, 0)) (k + 1)))) s := fun s => Ladded_b o i0 hi (hr k (by omega)) k1 (by decide) (by decide) (by decide) s
      have ix := end_mod T _ (-1) (rowR_last (a1 := a1) (a2 := a2) (a3 := a3) (a4 := a4) (a6 := 0) (P := some (0, 0)) k)
      have ap := app_end (s := T) (rowR a1 a2 a3 a4 0 (some (0, 0)) k) (ppO (nP a1 a2 a3 a4 0 (some (0, 0)) (k + 1)))
      rw [if_pos (by rw [rowR_len, sizeLine_eq]; omega), ← rowR_succ] at ap
      refine ⟨_, _, _, _, rfl, ?_, some (.p x), rfl, rfl⟩
      generalize five a1 a2 a3 a4 0 = F at *
      generalize ppO (some (0, 0)) = p0 at *
      generalize ppO (nP a1 a2 a3 a4 0 (some (0, 0)) (k + 1)) = p1 at *
      generalize ppO (nP a1 a2 a3 a4 0 (some (0, 0)) k) = p2 at *
      generalize hR0 : rowR a1 a2 a3 a4 0 (some (0, 0)) k = R0 at *
      generalize rowR a1 a2 a3 a4 0 (some (0, 0)) (k + 1) = R1 at *
      have hits : its (.obj T.length) (T ++ [some (.lst R0)]) = some R0 := its_end R0
      have ev : evA [calE m_Ladded [vE 1, op2 ixD (vE 6) (op1 negD (cE (.int 1))), vE 2]] [x0, some (.p F), some (.p p0), x3, x4, x5, some (.obj T.length), some (.p x), x8] (T ++ [some (.lst R0)]) = .ok [.p p1] (T ++ [some (.lst R0)]) := by
        simp [ix, ad]
      show expF _ [x0, some (.p F), some (.p p0), x3, x4, x5, some (.obj T.length), some (.p x), x8] _ = _
      rw [expF_ev, metE_ev]
      show R.bind (R.bind (R.ok (D.obj T.length) (T ++ [some (.lst R0)])) _) _ = _
      rw [R.bind_ok, hits]
      dsimp only
      rw [ev, R.bind_ok, ap]
      rfl)
  rw [Nat.zero_add, hlen] at e
  exact ⟨z, e⟩
/-- one look at a multiple -/
theorem rnd_look (o : Cq a1 a2 a3 a4 0) (i0 : i ≠ 0) (hi : hz i ≤ 30) (k1 : OkB i 30 a1 a2 a3 a4 0 31 (some (0, 0))) (k2 : OkB i 30 a1 a2 a3 a4 0 31 (ngQ a1 a3 (some (0, 0)))) (hn : nP a1 a2 a3 a4 0 (some (0, 0)) n = none) (n0 : 0 < n) (n6 : n ≤ 6) (T : S) (m : Int) (hm : m.natAbs ≤ 60) (x0 x1 x2 x7 : Option D) :
    iffF (tB (op2 (eqD true) (calE shwD [calE m_times_point [vE 4, vE 8, vE 5]]) (calE shwD [calE m_Lpoint [op2 ixD (vE 6) (op2 modD (vE 8) (vE 3))]]))) (retF (cE (.bl false))) nopF [x0, x1, x2, some (.p (.int n)), some (.p (crv a1 a2 a3 a4 0)), some (.p (pO (some (0, 0)))), some (.obj T.length), x7, some (.p (.int m))] (T ++ [some (.lst (rowR a1 a2 a3 a4 0 (some (0, 0)) (n - 1)))]) =
      .ok (.nx [x0, x1, x2, some (.p (.int n)), some (.p (crv a1 a2 a3 a4 0)), some (.p (pO (some (0, 0)))), some (.obj T.length), x7, some (.p (.int m))]) (T ++ [some (.lst (rowR a1 a2 a3 a4 0 (some (0, 0)) (n - 1)))]) := by
  have hop : ∀ s, m_opposite_of [.p (crv a1 a2 a3 a4 0), .p (pO (some (0, 0)))] s = .ok (.p (pO (ngQ a1 a3 (some (0, 0))))) s := fun s => by
    obtain ⟨q1, q2, q3, q4, q6⟩ := o.hzs
    obtain ⟨kx, ky, kn⟩ := k1.hz i0 hi (by decide)
    exact oppo_ok2 (by omega) (by omega) s
  have tm := fun s => times_fin o i0 hi k1 k2 hop hn n0 n6 m hm s
  have nz : (n : Int) ≠ 0 := by omega
  have r0 := Int.fmod_nonneg_of_pos m (show (0 : Int) < n by omega)
  have r1 := Int.fmod_lt_of_pos m (show (0 : Int) < n by omega)
  have ok := fin_ok o.d0 i0 k1 k2 hn n0 n6 (m.fmod n).toNat
  obtain ⟨w, w1, w2⟩ := shw_b i0 hi ok (by decide)
  have ne := fun s => ne_text22 w1 s
  have lp := fun s => Lpoint_o (nP a1 a2 a3 a4 0 (some (0, 0)) (m.fmod n).toNat) s
  have ix := end_mod T _ (m.fmod n) (rowR_at (a1 := a1) (a2 := a2) (a3 := a3) (a4 := a4) (a6 := 0) (P := some (0, 0)) (n - 1) (m.fmod n) r0 (by omega))
  generalize nP a1 a2 a3 a4 0 (some (0, 0)) (m.fmod n).toNat = Q at *
  generalize pO Q = q at *
  generalize ppO Q = q2 at *
  generalize pO (some (0, 0)) = p0 at *
  generalize crv a1 a2 a3 a4 0 = F at *
  generalize T ++ [some (.lst (rowR a1 a2 a3 a4 0 (some (0, 0)) (n - 1)))] = T2 at *
  have dv : ∀ z, divOk z (n : Int) := fun z => ⟨nz, PyProof.noPylong_of_log2 (by rw [Int.natAbs_natCast]; exact Nat.lt_of_le_of_lt (Nat.log2_le_self n) (by omega))⟩
  have nz2 : n ≠ 0 := by omega
  simp [tm, w2, dv, nz, nz2, ix, lp, ne]
end
theorem slc_endL (T : S) (R : List CW.P) : slcD true (.obj T.length) (some 1) none (T ++ [some (.lst R)]) = .ok (.p (.lst (cutP R (some 1) none))) (T ++ [some (.lst R)]) := by
  unfold slcD
  dsimp only
  rw [its_end]
  rfl
theorem cut_1 (xs : List Pq) : ∃ ys : List Pq, cutP (xs.map ppO) (some 1) none = ys.map ppO := by
  unfold cutP
  rw [← List.map_drop, ← List.map_take]
  exact ⟨_, rfl⟩
theorem Lround_ok (pre post : S) (c t d : Int) (t0 : 0 ≤ t) (tb : t ≤ 60000) :
    ∃ t' d', t ≤ t' ∧ t' ≤ t + 6 ∧ m_Lround_right [.obj pre.length] (dS pre c t d post) = .ok (.p (.bl true)) (dS pre c t' d' post) := by
  obtain ⟨a1, a2, a3, a4, n, t1, d1, F, g1, g2, fi⟩ := Lfinite_ok pre post c t d t0 tb
  obtain ⟨hz1, hz2, hz3, hz4⟩ := F.hzs
  have si := fun s => Lis_single_ok (a1 := a1) (a2 := a2) (a3 := a3) (a4 := a4) (a6 := 0) (by omega) (by omega) (by omega) (by omega) (by decide) s
  have n2 := F.n2
  have n6 := F.n6
  by_cases d0 : dd a1 a2 a3 a4 0 = 0
  · refine ⟨t1, d1, g1, by omega, ?_⟩
    have fz : fin (dS pre c t d post) (.p (.bl true)) (dS pre c t1 d1 post) = .ok (.p (.bl true)) (dS pre c t1 d1 post) := fin_mid0 pre post [.int c, .int t, .int d] [.int c, .int t1, .int d1] _
    rw [d0] at si
    generalize dS pre c t1 d1 post = S1 at *
    generalize dS pre c t d post = S0 at *
    generalize five a1 a2 a3 a4 0 = FF at *
    simp [m_Lround_right, defM_if, B_Lround_right, fi, si, fz]
  · obtain ⟨i, i0, hi, k1, k2⟩ := F.okb
    have o := F.cq d0
    have hr := F.row d0 i0 k1 k2
    have e00 : pp 0 0 = ppO (some (0, 0)) := rfl
    have si : ∀ s, m_Lis_single [.p (five a1 a2 a3 a4 0)] s = .ok (.p (.bl true)) s := fun s => by
      rw [si s, decide_eq_false d0]
      rfl
    have lc : ∀ s, m_Lcurve [.p (five a1 a2 a3 a4 0)] s = .ok (.p (crv a1 a2 a3 a4 0)) s := fun s => Lcurve_ok a1 a2 a3 a4 0 s
    have lp := fun s => Lpoint_o (some (0, 0)) s
    have lad := fun s => Ladded_b o i0 hi (hr (n - 1) (by omega)) k1 (by decide) (by decide) (by decide) s
    have hs : adQ a1 a2 a3 a4 0 (nP a1 a2 a3 a4 0 (some (0, 0)) (n - 1)) (some (0, 0)) = nP a1 a2 a3 a4 0 (some (0, 0)) n := by
      have : n = (n - 1) + 1 := by omega
      conv => rhs; rw [this]
      rfl
    rw [hs] at lad
    obtain ⟨z7, LO⟩ := rnd_loop o i0 hi k1 hr (dS pre c t1 d1 post) n6 (some (.obj pre.length)) (some (.p (.int n))) (some (.p (crv a1 a2 a3 a4 0))) (some (.p (pO (some (0, 0))))) none (n - 1) (by omega)
    have Z1 : asgF (calE m_Lfinite [vE 0]) (tupG 3 (consG (setG 1) (consG (setG 2) (consG (setG 3) nilG)))) [some (.obj pre.length), none, none, none, none, none, none, none, none] (dS pre c t d post) =
        .ok (.nx [some (.obj pre.length), some (.p (five a1 a2 a3 a4 0)), some (.p (ppO (some (0, 0)))), some (.p (.int n)), none, none, none, none, none]) (dS pre c t1 d1 post) := by
      rw [← e00]
      generalize dS pre c t1 d1 post = S1 at *
      generalize dS pre c t d post = S0 at *
      generalize five a1 a2 a3 a4 0 = FF at *
      simp [fi]
    have Z2 : iffF (notT (tT (calE m_Lis_single [vE 1]))) (retF (cE (.bl true))) nopF [some (.obj pre.length), some (.p (five a1 a2 a3 a4 0)), some (.p (ppO (some (0, 0)))), some (.p (.int n)), none, none, none, none, none] (dS pre c t1 d1 post) =
        .ok (.nx [some (.obj pre.length), some (.p (five a1 a2 a3 a4 0)), some (.p (ppO (some (0, 0)))), some (.p (.int n)), none, none, none, none, none]) (dS pre c t1 d1 post) := by
      generalize dS pre c t1 d1 post = S1 at *
      generalize five a1 a2 a3 a4 0 = FF at *
      simp [si]
    have Z3 : par3F 4 5 6 [calE m_Lcurve [vE 1], calE m_Lpoint [vE 2], lsoE [cE .non]] [some (.obj pre.length), some (.p (five a1 a2 a3 a4 0)), some (.p (ppO (some (0, 0)))), some (.p (.int n)), none, none, none, none, none] (dS pre c t1 d1 post) =
        .ok (.nx [some (.obj pre.length), some (.p (five a1 a2 a3 a4 0)), some (.p (ppO (some (0, 0)))), some (.p (.int n)), some (.p (crv a1 a2 a3 a4 0)), some (.p (pO (some (0, 0)))), some (.obj (dS pre c t1 d1 post).length), none, none]) (dS pre c t1 d1 post ++ [some (.lst (rowR a1 a2 a3 a4 0 (some (0, 0)) 0))]) := by
      rw [show rowR a1 a2 a3 a4 0 (some (0, 0)) 0 = [P.non] from rfl]
      generalize dS pre c t1 d1 post = S1 at *
      generalize five a1 a2 a3 a4 0 = FF at *
      generalize ppO (some (0, 0)) = pp0 at *
      generalize pO (some (0, 0)) = p0 at *
      simp [lc, lp]
    have hrg : r1I [op2 subD (vE 3) (cE (.int 1))] [some (.obj pre.length), some (.p (five a1 a2 a3 a4 0)), some (.p (ppO (some (0, 0)))), some (.p (.int n)), some (.p (crv a1 a2 a3 a4 0)), some (.p (pO (some (0, 0)))), some (.obj (dS pre c t1 d1 post).length), none, none] (dS pre c t1 d1 post ++ [some (.lst (rowR a1 a2 a3 a4 0 (some (0, 0)) 0))]) =
        .ok (ranP 0 (n - 1), []) (dS pre c t1 d1 post ++ [some (.lst (rowR a1 a2 a3 a4 0 (some (0, 0)) 0))]) := by
      generalize dS pre c t1 d1 post ++ [some (.lst (rowR a1 a2 a3 a4 0 (some (0, 0)) 0))] = T1 at *
      have h := r1_ev [op2 subD (vE 3) (cE (.int 1))] [some (.obj pre.length), some (.p (five a1 a2 a3 a4 0)), some (.p (ppO (some (0, 0)))), some (.p (.int n)), some (.p (crv a1 a2 a3 a4 0)), some (.p (pO (some (0, 0)))), some (.obj (dS pre c t1 d1 post).length), none, none] T1 (n - 1) T1 (by simp) (by omega) (by omega)
      rw [h, show ((n : Int) - 1).toNat = n - 1 by omega]
    have Z4 := forF_of hrg LO
    generalize hFF : five a1 a2 a3 a4 0 = FF at *
    generalize hT : dS pre c t1 d1 post = T at *
    have ix := end_mod T _ (-1) (rowR_last (a1 := a1) (a2 := a2) (a3 := a3) (a4 := a4) (a6 := 0) (P := some (0, 0)) (n - 1))
    obtain ⟨ys, hcut⟩ := cut_1 ((List.range (n - 1 + 1)).map fun j => nP a1 a2 a3 a4 0 (some (0, 0)) j)
    have hcut : cutP (rowR a1 a2 a3 a4 0 (some (0, 0)) (n - 1)) (some 1) none = ys.map ppO := hcut
    have sl := slc_endL T (rowR a1 a2 a3 a4 0 (some (0, 0)) (n - 1))
    rw [hcut] at sl
    obtain ⟨b, hb⟩ := in_ppO ys (T ++ [some (.lst (rowR a1 a2 a3 a4 0 (some (0, 0)) (n - 1)))])
    have fz : ∀ (r : S), fin (dS pre c t d post) (.p (.bl true)) (T ++ r) = .ok (.p (.bl true)) T := fun r => by
      rw [← hT]
      exact fin_mid pre post r [.int c, .int t, .int d] [.int c, .int t1, .int d1] _
    by_cases stop : b = true ∨ nP a1 a2 a3 a4 0 (some (0, 0)) n ≠ none
    · refine ⟨t1, d1, g1, by omega, ?_⟩
      have Z5 : iffF (orT (tB (op2 (inD false) (cE .non) (slcE true (vE 6) (some (cE (.int 1))) none))) (tB (op2 (isN true) (calE m_Ladded [vE 1, op2 ixD (vE 6) (op1 negD (cE (.int 1))), vE 2]) (cE .non)))) (retF (cE (.bl true))) nopF [some (.obj pre.length), some (.p FF), some (.p (ppO (some (0, 0)))), some (.p (.int n)), some (.p (crv a1 a2 a3 a4 0)), some (.p (pO (some (0, 0)))), some (.obj T.length), z7, none] (T ++ [some (.lst (rowR a1 a2 a3 a4 0 (some (0, 0)) (n - 1)))]) =
          .ok (.rt (.p (.bl true))) (T ++ [some (.lst (rowR a1 a2 a3 a4 0 (some (0, 0)) (n - 1)))]) := by
        have hn : b = false → isN true (.p (ppO (nP a1 a2 a3 a4 0 (some (0, 0)) n))) (.p .non) (T ++ [some (.lst (rowR a1 a2 a3 a4 0 (some (0, 0)) (n - 1)))]) = .ok (.p (.bl true)) (T ++ [some (.lst (rowR a1 a2 a3 a4 0 (some (0, 0)) (n - 1)))]) := fun hb => by
          have h2 : nP a1 a2 a3 a4 0 (some (0, 0)) n ≠ none := stop.resolve_left (by rw [hb]; decide)
          cases hq : nP a1 a2 a3 a4 0 (some (0, 0)) n with
          | none => exact absurd hq h2
          | some q =>
            obtain ⟨x, y⟩ := q
            rfl
        generalize ppO (some (0, 0)) = pp0 at *
        generalize pO (some (0, 0)) = p0 at *
        generalize ppO (nP a1 a2 a3 a4 0 (some (0, 0)) n) = q1 at *
        generalize ppO (nP a1 a2 a3 a4 0 (some (0, 0)) (n - 1)) = q2 at *
        generalize T ++ [some (.lst (rowR a1 a2 a3 a4 0 (some (0, 0)) (n - 1)))] = T2 at *
        cases b with
        | true => simp [slcE_ev, optE_n, optE_s, partE_i, sl, hb]
        | false => simp [slcE_ev, optE_n, optE_s, partE_i, sl, hb, ix, lad, hn rfl]
      unfold m_Lround_right
      rw [defM_ev (n := 1) rfl]
      show R.bind (B_Lround_right [some (.obj pre.length), none, none, none, none, none, none, none, none] (dS pre c t d post)) (defk (dS pre c t d post)) = _
      unfold B_Lround_right
      rw [seqF_ok Z1, seqF_ok Z2, seqF_ok Z3, seqF_ok Z4, seqF_ev, Z5]
      show fin (dS pre c t d post) (.p (.bl true)) (T ++ _) = _
      rw [fz, hT]
    · have hb' : b = false := by
        cases b with
        | false => rfl
        | true => exact absurd (Or.inl rfl) stop
      have hn : nP a1 a2 a3 a4 0 (some (0, 0)) n = none := Decidable.byContradiction fun z => stop (.inr z)
      subst hb'
      have Z5 : iffF (orT (tB (op2 (inD false) (cE .non) (slcE true (vE 6) (some (cE (.int 1))) none))) (tB (op2 (isN true) (calE m_Ladded [vE 1, op2 ixD (vE 6) (op1 negD (cE (.int 1))), vE 2]) (cE .non)))) (retF (cE (.bl true))) nopF [some (.obj pre.length), some (.p FF), some (.p (ppO (some (0, 0)))), some (.p (.int n)), some (.p (crv a1 a2 a3 a4 0)), some (.p (pO (some (0, 0)))), some (.obj T.length), z7, none] (T ++ [some (.lst (rowR a1 a2 a3 a4 0 (some (0, 0)) (n - 1)))]) =
          .ok (.nx [some (.obj pre.length), some (.p FF), some (.p (ppO (some (0, 0)))), some (.p (.int n)), some (.p (crv a1 a2 a3 a4 0)), some (.p (pO (some (0, 0)))), some (.obj T.length), z7, none]) (T ++ [some (.lst (rowR a1 a2 a3 a4 0 (some (0, 0)) (n - 1)))]) := by
        rw [hn] at lad
        have lad : ∀ s, m_Ladded [.p FF, .p (ppO (nP a1 a2 a3 a4 0 (some (0, 0)) (n - 1))), .p (ppO (some (0, 0)))] s = .ok (.p .non) s := lad
        generalize ppO (some (0, 0)) = pp0 at *
        generalize pO (some (0, 0)) = p0 at *
        generalize ppO (nP a1 a2 a3 a4 0 (some (0, 0)) (n - 1)) = q2 at *
        generalize T ++ [some (.lst (rowR a1 a2 a3 a4 0 (some (0, 0)) (n - 1)))] = T2 at *
        simp [slcE_ev, optE_n, optE_s, partE_i, sl, hb, ix, lad]
      obtain ⟨v1, t2', d2, v10, v11, g3, g4, f1⟩ := Lnext_ok pre (post ++ [some (.lst (rowR a1 a2 a3 a4 0 (some (0, 0)) (n - 1)))]) c t1 d1 121 (by decide) (szi.mono (a := 64) (by decide) (by decide)) (by omega) (by omega)
      obtain ⟨v2, t3, d3, v20, v21, g5, g6, f2⟩ := Lnext_ok pre (post ++ [some (.lst (rowR a1 a2 a3 a4 0 (some (0, 0)) (n - 1)))]) c t2' d2 121 (by decide) (szi.mono (a := 64) (by decide) (by decide)) (by omega) (by omega)
      rw [dS_end, dS_end] at f1 f2
      rw [hT] at f1
      have hTl : T.length = (dS pre c t3 d3 post).length := by rw [← hT]; simp
      refine ⟨t3, d3, by omega, by omega, ?_⟩
      have fz3 : ∀ (r : S), fin (dS pre c t d post) (.p (.bl true)) (dS pre c t3 d3 post ++ r) = .ok (.p (.bl true)) (dS pre c t3 d3 post) := fun r => fin_mid pre post r [.int c, .int t, .int d] [.int c, .int t3, .int d3] _
      have LL : lstI (lstE [cE (.int 60), op1 negD (cE (.int 60)), vE 3, op2 subD (calE m_Lnext [vE 0, cE (.int 121)]) (cE (.int 60)), op2 subD (calE m_Lnext [vE 0, cE (.int 121)]) (cE (.int 60))]) [some (.obj pre.length), some (.p FF), some (.p (ppO (some (0, 0)))), some (.p (.int n)), some (.p (crv a1 a2 a3 a4 0)), some (.p (pO (some (0, 0)))), some (.obj T.length), z7, none] (T ++ [some (.lst (rowR a1 a2 a3 a4 0 (some (0, 0)) (n - 1)))]) =
          .ok ([.int 60, .int (-60), .int n, .int (v1 - 60), .int (v2 - 60)], []) (dS pre c t3 d3 post ++ [some (.lst (rowR a1 a2 a3 a4 0 (some (0, 0)) (n - 1)))]) := by
        refine lstI_lst ?_
        generalize dS pre c t3 d3 post ++ [some (.lst (rowR a1 a2 a3 a4 0 (some (0, 0)) (n - 1)))] = T3 at *
        generalize dS pre c t2' d2 post ++ [some (.lst (rowR a1 a2 a3 a4 0 (some (0, 0)) (n - 1)))] = T2 at *
        generalize T ++ [some (.lst (rowR a1 a2 a3 a4 0 (some (0, 0)) (n - 1)))] = T1 at *
        simp [f1, f2, sizeLine_eq]
      rw [hTl] at LL Z3 Z4 Z5
      generalize hU : dS pre c t3 d3 post = U at *
      obtain ⟨ρ6, s6, e6, z8, rfl, rfl⟩ := forL_inv (tg := setG 8) (f := iffF (tB (op2 (eqD true) (calE shwD [calE m_times_point [vE 4, vE 8, vE 5]]) (calE shwD [calE m_Lpoint [op2 ixD (vE 6) (op2 modD (vE 8) (vE 3))]]))) (retF (cE (.bl false))) nopF)
        (fun ρ s => ∃ z8, ρ = [some (.obj pre.length), some (.p FF), some (.p (ppO (some (0, 0)))), some (.p (.int n)), some (.p (crv a1 a2 a3 a4 0)), some (.p (pO (some (0, 0)))), some (.obj U.length), z7, z8] ∧ s = U ++ [some (.lst (rowR a1 a2 a3 a4 0 (some (0, 0)) (n - 1)))])
        (xs := [.int 60, .int (-60), .int n, .int (v1 - 60), .int (v2 - 60)]) (ρ := [some (.obj pre.length), some (.p FF), some (.p (ppO (some (0, 0)))), some (.p (.int n)), some (.p (crv a1 a2 a3 a4 0)), some (.p (pO (some (0, 0)))), some (.obj U.length), z7, none]) (s := U ++ [some (.lst (rowR a1 a2 a3 a4 0 (some (0, 0)) (n - 1)))]) ⟨none, rfl, rfl⟩ (fun x hx ρ s h => by
          obtain ⟨z8, rfl, rfl⟩ := h
          obtain ⟨m, rfl, hm⟩ : ∃ m : Int, x = .int m ∧ m.natAbs ≤ 60 := by
            simp only [List.mem_cons, List.not_mem_nil, or_false] at hx
            rcases hx with rfl | rfl | rfl | rfl | rfl
            · exact ⟨_, rfl, by decide⟩
            · exact ⟨_, rfl, by decide⟩
            · exact ⟨_, rfl, by omega⟩
            · exact ⟨_, rfl, by omega⟩
            · exact ⟨_, rfl, by omega⟩
          exact ⟨_, _, _, _, rfl, rnd_look o i0 hi k1 k2 hn (by omega) n6 U m hm _ _ _ _, _, rfl, rfl⟩)
      have Z6 := forF_of LL e6
      have ip := fun s => is_point_b o i0 hi k1 (by decide) (by decide) s
      have Z7 : retF (calE m_is_point [vE 4, vE 5]) [some (.obj pre.length), some (.p FF), some (.p (ppO (some (0, 0)))), some (.p (.int n)), some (.p (crv a1 a2 a3 a4 0)), some (.p (pO (some (0, 0)))), some (.obj U.length), z7, z8] (U ++ [some (.lst (rowR a1 a2 a3 a4 0 (some (0, 0)) (n - 1)))]) = .ok (.rt (.p (.bl true))) (U ++ [some (.lst (rowR a1 a2 a3 a4 0 (some (0, 0)) (n - 1)))]) := by
        generalize pO (some (0, 0)) = p0 at *
        generalize U ++ [some (.lst (rowR a1 a2 a3 a4 0 (some (0, 0)) (n - 1)))] = T2 at *
        simp [ip]
      unfold m_Lround_right
      rw [defM_ev (n := 1) rfl]
      show R.bind (B_Lround_right [some (.obj pre.length), none, none, none, none, none, none, none, none] (dS pre c t d post)) (defk (dS pre c t d post)) = _
      unfold B_Lround_right
      rw [seqF_ok Z1, seqF_ok Z2, seqF_ok Z3, seqF_ok Z4, seqF_ok Z5, seqF_ok Z6, Z7]
      show fin (dS pre c t d post) (.p (.bl true)) (U ++ _) = _
      rw [fz3]
section
variable {a1 a2 a3 a4 a6 i x0 y0 x1 y1 x2 y2 : Rat} {e0 e n : Nat} {P Q : Pq}
theorem oppo_b (o : Cq a1 a2 a3 a4 a6) (i0 : i ≠ 0) (hi : hz i ≤ 30) (h : OkB i e0 a1 a2 a3 a4 a6 e P) (e1 : 1 ≤ e) (he : e ≤ 650) (s : S) : m_opposite_of [.p (crv a1 a2 a3 a4 a6), .p (pO P)] s = .ok (.p (pO (ngQ a1 a3 P))) s := by
  rcases P with _ | ⟨x, y⟩
  · exact opposite_of_non (crv a1 a2 a3 a4 a6) s
  · obtain ⟨q1, q2, q3, q4, q6⟩ := o.hzs
    obtain ⟨kx, ky, kn⟩ := h.hz i0 hi e1
    exact oppo_ok2 (by omega) (by omega) s
theorem opposite_b (o : Cq a1 a2 a3 a4 a6) (i0 : i ≠ 0) (hi : hz i ≤ 30) (h : OkB i e0 a1 a2 a3 a4 a6 e P) (e1 : 1 ≤ e) (he : e ≤ 650) (s : S) : m_opposite [.p (crv a1 a2 a3 a4 a6), .p (pO P)] s = .ok (.p (pO (ngQ a1 a3 P))) s := by
  simp [m_opposite, defM_if, B_opposite, o.nc, need_b o i0 hi h e1 (by omega), oppo_b o i0 hi h e1 he]
theorem Lopp_o (h1 : hz a1 ≤ 60) (h3 : hz a3 ≤ 60) (i0 : i ≠ 0) (hi : hz i ≤ 30) (h : OkB i e0 a1 a2 a3 a4 a6 e P) (e1 : 1 ≤ e) (he : e ≤ 650) (s : S) : m_Lopposite [.p (five a1 a2 a3 a4 a6), .p (ppO P)] s = .ok (.p (ppO (ngQ a1 a3 P))) s := by
  rcases P with _ | ⟨x, y⟩
  · have n1 : ∀ s, isN false (.p .non) (.p .non) s = .ok (.p (.bl true)) s := fun _ => rfl
    show m_Lopposite [.p (five a1 a2 a3 a4 a6), .p .non] s = .ok (.p .non) s
    generalize five a1 a2 a3 a4 a6 = F
    simp [m_Lopposite, defM_if, B_Lopposite, n1]
  · obtain ⟨kx, ky, kn⟩ := h.hz i0 hi e1
    exact Lopposite_ok (by omega) s
theorem times_two (o : Cq a1 a2 a3 a4 a6) (i0 : i ≠ 0) (hi : hz i ≤ 30) (h : OkB i e0 a1 a2 a3 a4 a6 340 Q) (s : S) : m_times_point [.p (crv a1 a2 a3 a4 a6), .p (.int 2), .p (pO Q)] s = .ok (.p (pO (adQ a1 a2 a3 a4 a6 Q Q))) s := by
  obtain ⟨N, hN⟩ : ∃ N : Nat → Pq, N = fun k => if k = 0 then none else if k = 1 then Q else adQ a1 a2 a3 a4 a6 Q Q := ⟨_, rfl⟩
  have n0 : N 0 = none := by rw [hN]; rfl
  have n1 : N 1 = Q := by rw [hN]; rfl
  have n2 : N 2 = adQ a1 a2 a3 a4 a6 Q Q := by rw [hN]; rfl
  have hs : ∀ j a : Nat, a ≤ 2 ^ j → a + 2 ^ j ≤ 2 → ∀ s, m_sum_on [.p (crv a1 a2 a3 a4 a6), .p (pO (N a)), .p (pO (N (2 ^ j)))] s = .ok (.p (pO (N (a + 2 ^ j)))) s := fun j a h1 h2 s => by
    have hj : 2 ^ j = 1 ∨ 2 ^ j = 2 := by
      have : 1 ≤ 2 ^ j := Nat.one_le_two_pow
      omega
    have ha : a = 0 ∨ a = 1 := by omega
    rcases ha with rfl | rfl
    · rw [n0, Nat.zero_add]
      exact sum_on_n1 _ _ s
    · have hj1 : 2 ^ j = 1 := by omega
      rw [hj1, n1, show 1 + 1 = 2 from rfl, n2]
      exact sum_b o i0 hi h h (by decide) (by decide) (by decide) (by decide) (by decide) s
  have mo : ∀ s, m_multiple_on [.p (crv a1 a2 a3 a4 a6), .p (.int 2), .p (pO Q)] s = .ok (.p (pO (adQ a1 a2 a3 a4 a6 Q Q))) s := fun s => by
    have h := mult_ok (N := fun k => pO (N k)) (m := 2) hs (by show pO (N 0) = _; rw [n0]; rfl) 2 (by decide) (by decide) (pt := pO Q) (by rw [if_pos (by decide)]; show pO Q = pO (N 1); rw [n1]) s
    rw [← n2]
    exact h
  have nd := fun s => need_b o i0 hi h (by decide) (by decide) s
  have nc := fun s => o.nc s
  generalize pO (adQ a1 a2 a3 a4 a6 Q Q) = R at *
  generalize pO Q = PP at *
  generalize crv a1 a2 a3 a4 a6 = CC at *
  simp [m_times_point, defM_if, B_times_point, nc, is_number_int, c_MOST_TIMES, nd, mo]
end
theorem s60n (a b : Nat) (h : a + b ≤ 60) (s : S) : m_sum_on [.p (crv 0 0 1 (-1) 0), .p (pO (nP 0 0 1 (-1) 0 (ngQ 0 1 (some (0, 0))) a)), .p (pO (nP 0 0 1 (-1) 0 (ngQ 0 1 (some (0, 0))) b))] s = .ok (.p (pO (nP 0 0 1 (-1) 0 (ngQ 0 1 (some (0, 0))) (a + b)))) s := by
  have on : OnQ 0 0 1 (-1) 0 (some (0, 0)) := (k60 1 (by decide)).1
  rw [← nP_add cq60.d0 (ngQ_on on) a b, nP_ng cq60.d0 on, nP_ng cq60.d0 on]
  exact sum_b cq60 (by decide) (by decide) (okb_opp (k60 a (by omega))) (okb_opp (k60 b (by omega))) (by decide) (by decide) (by decide) (by decide) (by decide) s
theorem times_m60 (s : S) : m_times_point [.p (crv 0 0 1 (-1) 0), .p (.int (-60)), .p (pO (some (0, 0)))] s = .ok (.p (pO (ngQ 0 1 (nP 0 0 1 (-1) 0 (some (0, 0)) 60)))) s := by
  have on : OnQ 0 0 1 (-1) 0 (some (0, 0)) := (k60 1 (by decide)).1
  have mo : ∀ s, m_multiple_on [.p (crv 0 0 1 (-1) 0), .p (.int (-60)), .p (pO (some (0, 0)))] s = .ok (.p (pO (nP 0 0 1 (-1) 0 (ngQ 0 1 (some (0, 0))) 60))) s := fun s =>
    mult_ok (N := fun k => pO (nP 0 0 1 (-1) 0 (ngQ 0 1 (some (0, 0))) k)) (m := 60) (fun j a _ hm s => s60n a (2 ^ j) hm s) rfl (-60) (by decide) (by decide) (pt := pO (some (0, 0))) (by rw [if_neg (by decide)]; exact fun s => oppo_b cq60 (by decide) (by decide) (k60 1 (by decide)) (by decide) (by decide) s) s
  rw [nP_ng cq60.d0 on] at mo
  have nd : ∀ s, m_need_point [.p (crv 0 0 1 (-1) 0), .p (pO (some (0, 0)))] s = .ok (.p .non) s := fun s => need_b cq60 (by decide) (by decide) (k60 1 (by decide)) (by decide) (by decide) s
  have nc := fun s => cq60.nc s
  generalize crv 0 0 1 (-1) 0 = CC at *
  generalize pO (ngQ 0 1 (nP 0 0 1 (-1) 0 (some (0, 0)) 60)) = R at *
  generalize pO (some (0, 0)) = PP at *
  simp [m_times_point, defM_if, B_times_point, nc, is_number_int, c_MOST_TIMES, nd, mo]
theorem Ldraw_of_s (ns : List Int) (hl : ns.length ≤ 63) (k : Int) (h0 : 0 ≤ k) (s : S) : ∃ c d : Int, m_Ldraw_of [.p (.con (ns.map P.int)), .p (.int k)] s = .ok (.obj s.length) (s ++ [some (O.lst [.int c, .int (3 * k), .int d])]) := by
  have m3 : mulOk 3 k := Or.inr (Or.inl (by decide))
  have p18 : powOk 10 18 := by decide
  have d18 : ∀ z : Int, divOk z 1000000000000000000 := fun z => ⟨by decide, PyProof.noPylong_of_log2 (by decide)⟩
  have hlen : ∀ s, lenD [.p (.con (ns.map P.int))] s = .ok (.p (.int ns.length)) s := by
    intro s
    show R.ok (D.p (.int ((ns.map P.int).length : Nat))) s = _
    rw [List.length_map]
  have fo : ∀ r : S, fin s (.obj s.length) r = .ok (.obj s.length) r := fun r => by
    unfold fin
    exact if_neg (Nat.lt_irrefl _)
  by_cases hn : 0 < (ns.length : Int)
  · have j0 := Int.fmod_nonneg_of_pos k hn
    have j1 := Int.fmod_lt_of_pos k hn
    have hn' : (ns.length : Int) ≠ 0 := by omega
    have hix : ∀ s, ixD (.p (.con (ns.map P.int))) (.p (.int (k.fmod ns.length))) s = .ok (.p (.int (ns[(k.fmod ns.length).toNat]'(by omega)))) s := fun s => by
      have : L2.atI (ns.map P.int) (k.fmod ns.length) = some (P.int (ns[(k.fmod ns.length).toNat]'(by omega))) := by
        unfold L2.atI
        rw [ixN_ok j0 (by rw [List.length_map]; exact j1), Option.bind_some, List.getElem?_map, List.getElem?_eq_getElem (by omega)]
        rfl
      show (match L2.atI (ns.map P.int) (k.fmod ns.length) with
        | some z => R.ok (D.p z) s
        | none => .bad) = _
      rw [this]
    have hn3 : 0 < ns.length := by omega
    have hn2 : ns ≠ [] := fun z => by rw [z] at hn; exact absurd hn (by decide)
    generalize ns[(k.fmod ns.length).toNat]'(by omega) = c at hix
    by_cases hc : 1000000000000000000 ≤ c
    · refine ⟨c, c.fdiv 1000000000000000000, ?_⟩
      simp [m_Ldraw_of, defM_if, B_Ldraw_of, hlen, hn, hn2, hn3, hn', hix, p18, hc, d18, m3, fo]
    · refine ⟨c, 0, ?_⟩
      simp [m_Ldraw_of, defM_if, B_Ldraw_of, hlen, hn, hn2, hn3, hn', hix, p18, hc, d18, m3, fo]
  · have hn2 : ns = [] := by
      match ns, hn with
      | [], _ => rfl
      | _ :: _, h => exact absurd (by simp) h
    subst hn2
    refine ⟨1, 0, ?_⟩
    have hlen0 : ∀ s, lenD [.p (.con [])] s = .ok (.p (.int 0)) s := fun s => rfl
    simp [m_Ldraw_of, defM_if, B_Ldraw_of, hlen0, p18, m3, fo]
def Row22 (r : List P) : Prop := ∃ c t d : Int, r = [.int c, .int t, .int d] ∧ 0 ≤ t ∧ t ≤ 50000
theorem lcD_draws (ns : List Int) (hl : ns.length ≤ 63) (ρ : En) (h0 : ρ[0]? = some (some (.p (.con (ns.map P.int))))) (hlen : 2 < ρ.length) : ∀ (xs : List P), (∀ x ∈ xs, ∃ k : Int, x = .int k ∧ 0 ≤ k ∧ k ≤ 100) → ∀ s : S,
    ∃ rows : List (List P), rows.length = xs.length ∧ (∀ r ∈ rows, Row22 r) ∧ lcDL [2] (gok []) (setG 2) yesT (calE m_Ldraw_of [vE 0, vE 2]) ρ (xs.map .p) s = .ok ((List.range' s.length xs.length).map .obj) (s ++ rows.map fun r => some (.lst r))
  | [], _, s => ⟨[], rfl, (fun _ h => nomatch h), by
      show lcDL _ _ _ _ _ _ [] s = _
      unfold lcDL
      rw [if_pos (gok_nil s)]
      show R.ok ([] : List D) s = R.ok [] (s ++ [])
      rw [List.append_nil]⟩
  | x :: xs, hx, s => by
    obtain ⟨k, rfl, k0, k1⟩ := hx x List.mem_cons_self
    obtain ⟨c, d, e⟩ := Ldraw_of_s ns hl k k0 s
    obtain ⟨rows, l1, l2, l3⟩ := lcD_draws ns hl ρ h0 hlen xs (fun z hz => hx z (List.mem_cons_of_mem _ hz)) (s ++ [some (O.lst [.int c, .int (3 * k), .int d])])
    refine ⟨[.int c, .int (3 * k), .int d] :: rows, congrArg (· + 1) l1, fun r hr => ?_, ?_⟩
    · rcases List.mem_cons.mp hr with rfl | hr
      · exact ⟨c, 3 * k, d, rfl, by omega, by omega⟩
      · exact l2 r hr
    · have g0 : ((ρ.set 2 none).set 2 (some (.p (.int k))))[0]? = some (some (.p (.con (ns.map P.int)))) := by
        rw [List.getElem?_set_ne (by decide), List.getElem?_set_ne (by decide)]
        exact h0
      have g2 : ((ρ.set 2 none).set 2 (some (.p (.int k))))[2]? = some (some (.p (.int k))) := by
        rw [List.getElem?_set_self (by rw [List.length_set]; exact hlen)]
      have ca : calE m_Ldraw_of [vE 0, vE 2] ((ρ.set 2 none).set 2 (some (.p (.int k)))) s = .ok (.obj s.length) (s ++ [some (O.lst [.int c, .int (3 * k), .int d])]) := by
        rw [calE_ev, evA_cons, vE_of g0, R.bind_ok, evA_cons, vE_of g2, R.bind_ok, evA_nil, R.bind_ok, R.bind_ok, R.bind_ok]
        exact e
      rw [List.map_cons]
      unfold lcDL
      rw [if_pos (gok_nil s), bnd_ev, show setG 2 (.p (.int k)) (wipE ρ [2]) s = .ok ((ρ.set 2 none).set 2 (some (.p (.int k)))) s from rfl, R.bind_ok, bnd_ev, show yesT ((ρ.set 2 none).set 2 (some (.p (.int k)))) s = .ok true s from rfl, R.bind_ok, if_pos rfl, bnd_ev, ca, R.bind_ok, bnd_ev, l3, R.bind_ok]
      show R.ok _ _ = _
      congr 1
      · rw [List.length_append]
        rfl
      · rw [List.append_assoc]
        rfl
theorem lcE_row22 {own : List Nat} {tg : GF} {m : EF} {i : IF} {ρ : En} {s : S} {g : Gd} (F : P → En) (f : P → P) {xs : List P} (hi : i ρ s = .ok (xs, g) s) (hg : gok g s) (hl : xs.length ≤ sizeLine) (h : ∀ x ∈ xs, tg (.p x) (wipE ρ own) s = .ok (F x) s ∧ m (F x) s = .ok (.p (f x)) s) :
    lcE true i own tg yesT m ρ s = .ok (.p (.lst (xs.map f))) s := by
  rw [lcE_ev, hi, R.bind_ok]
  dsimp only
  rw [if_pos hl, lcL_purg hg F (fun _ => true) f fun x hx => ⟨(h x hx).1, rfl, fun _ => (h x hx).2⟩, show List.filter (fun _ => true) xs = xs from List.filter_eq_self.mpr fun _ _ => rfl, R.bind_ok, mkL_true]
section
variable {a1 a2 a3 a4 a6 i : Rat} {P : Pq}
theorem LB0_ok (o : Cq a1 a2 a3 a4 a6) (i0 : i ≠ 0) (hi : hz i ≤ 30) (k1 : OkB i 30 a1 a2 a3 a4 a6 31 P) (T : S) (p1 p2 : CW.P) (x0 x1 x5 x6 x8 x9 x10 x11 x12 x13 x14 x15 : Option D) :
    ∃ z, forL [] (setG 2) LB0 (ranP 0 5) [x0, x1, none, some (.p (five a1 a2 a3 a4 a6)), some (.p (.lst [ppO P, p1, p2])), x5, x6, some (.obj T.length), x8, x9, x10, x11, x12, x13, x14, x15] (T ++ [some (.lst (rowR a1 a2 a3 a4 a6 P 0))]) =
      .ok (.nx [x0, x1, z, some (.p (five a1 a2 a3 a4 a6)), some (.p (.lst [ppO P, p1, p2])), x5, x6, some (.obj T.length), x8, x9, x10, x11, x12, x13, x14, x15]) (T ++ [some (.lst (rowR a1 a2 a3 a4 a6 P 5))]) := by
  have hlen : (ranP 0 5).length = 5 := ranP_len 0 5
  have hr : ∀ k, k < 5 → OkB i 30 a1 a2 a3 a4 a6 569 (nP a1 a2 a3 a4 a6 P k) := fun k hk => by
    refine (nP_ok o.d0 i0 k1 k (by omega)).mono ?_
    have ej : k = 0 ∨ k = 1 ∨ k = 2 ∨ k = 3 ∨ k = 4 := by omega
    rcases ej with rfl | rfl | rfl | rfl | rfl <;> decide
  obtain ⟨ρ', s', e, z, rfl, rfl⟩ := forL_cnt (tg := setG 2) (f := LB0) 5
    (fun k ρ s => ∃ z, ρ = [x0, x1, z, some (.p (five a1 a2 a3 a4 a6)), some (.p (.lst [ppO P, p1, p2])), x5, x6, some (.obj T.length), x8, x9, x10, x11, x12, x13, x14, x15] ∧ s = T ++ [some (.lst (rowR a1 a2 a3 a4 a6 P k))])
    (xs := ranP 0 5) (n := 0) (ρ := [x0, x1, none, some (.p (five a1 a2 a3 a4 a6)), some (.p (.lst [ppO P, p1, p2])), x5, x6, some (.obj T.length), x8, x9, x10, x11, x12, x13, x14, x15]) (s := T ++ [some (.lst (rowR a1 a2 a3 a4 a6 P 0))]) (by rw [hlen]; omega) ⟨none, rfl, rfl⟩ (fun x _ k ρ s hk h => by
      obtain ⟨z, rfl, rfl⟩ := h
      have ad : ∀ s, m_Ladded [.p (five a1 a2 a3 a4 a6), .p (ppO (nP a1 a2 a3 a4 a6 P k)), .p (ppO P)] s = .ok (.p (ppO (nP a1 a2 a3 a4 a6 P (k + 1)))) s := fun s => Ladded_b o i0 hi (hr k (by omega)) k1 (by decide) (by decide) (by decide) s
      have ix := end_mod T _ (-1) (rowR_last (a1 := a1) (a2 := a2) (a3 := a3) (a4 := a4) (a6 := a6) (P := P) k)
      have ap := app_end (s := T) (rowR a1 a2 a3 a4 a6 P k) (ppO (nP a1 a2 a3 a4 a6 P (k + 1)))
      rw [if_pos (by rw [rowR_len, sizeLine_eq]; omega), ← rowR_succ] at ap
      refine ⟨_, _, _, _, rfl, ?_, some (.p x), rfl, rfl⟩
      generalize five a1 a2 a3 a4 a6 = F at *
      generalize ppO (nP a1 a2 a3 a4 a6 P (k + 1)) = q1 at *
      generalize ppO (nP a1 a2 a3 a4 a6 P k) = q2 at *
      generalize ppO P = q0 at *
      generalize hR0 : rowR a1 a2 a3 a4 a6 P k = R0 at *
      generalize rowR a1 a2 a3 a4 a6 P (k + 1) = R1 at *
      have hits : its (.obj T.length) (T ++ [some (.lst R0)]) = some R0 := its_end R0
      have i0 : L2.atI [q0, p1, p2] 0 = some q0 := rfl
      have ev : evA [calE m_Ladded [vE 3, op2 ixD (vE 7) (op1 negD (cE (.int 1))), op2 ixD (vE 4) (cE (.int 0))]] [x0, x1, some (.p x), some (.p F), some (.p (.lst [q0, p1, p2])), x5, x6, some (.obj T.length), x8, x9, x10, x11, x12, x13, x14, x15] (T ++ [some (.lst R0)]) = .ok [.p q1] (T ++ [some (.lst R0)]) := by
        simp [ix, ad, i0]
      show LB0 [x0, x1, some (.p x), some (.p F), some (.p (.lst [q0, p1, p2])), x5, x6, some (.obj T.length), x8, x9, x10, x11, x12, x13, x14, x15] _ = _
      unfold LB0
      rw [expF_ev, metE_ev]
      show R.bind (R.bind (R.ok (D.obj T.length) (T ++ [some (.lst R0)])) _) _ = _
      rw [R.bind_ok, hits]
      dsimp only
      rw [ev, R.bind_ok, ap]
      rfl)
  exact ⟨z, by rw [hlen] at e; exact e⟩
theorem nZ_b (hd : dd a1 a2 a3 a4 a6 ≠ 0) (i0 : i ≠ 0) (k1 : OkB i 30 a1 a2 a3 a4 a6 31 P) (k2 : OkB i 30 a1 a2 a3 a4 a6 31 (ngQ a1 a3 P)) (n : Int) (h : n.natAbs ≤ 6) : OkB i 30 a1 a2 a3 a4 a6 1370 (nZ a1 a2 a3 a4 a6 P n) ∧ (n.natAbs ≤ 3 → OkB i 30 a1 a2 a3 a4 a6 340 (nZ a1 a2 a3 a4 a6 P n)) := by
  have e6 : eK n.natAbs ≤ 1370 := by
    have : n.natAbs = 0 ∨ n.natAbs = 1 ∨ n.natAbs = 2 ∨ n.natAbs = 3 ∨ n.natAbs = 4 ∨ n.natAbs = 5 ∨ n.natAbs = 6 := by omega
    rcases this with z | z | z | z | z | z | z <;> rw [z] <;> decide
  have e3 : n.natAbs ≤ 3 → eK n.natAbs ≤ 340 := fun h => by
    have : n.natAbs = 0 ∨ n.natAbs = 1 ∨ n.natAbs = 2 ∨ n.natAbs = 3 := by omega
    rcases this with z | z | z | z <;> rw [z] <;> decide
  unfold nZ
  split
  · exact ⟨(nP_ok hd i0 k1 _ h).mono e6, fun h3 => (nP_ok hd i0 k1 _ h).mono (e3 h3)⟩
  · exact ⟨(nP_ok hd i0 k2 _ h).mono e6, fun h3 => (nP_ok hd i0 k2 _ h).mono (e3 h3)⟩
theorem nP_z (k : Nat) : nP a1 a2 a3 a4 a6 P k = nZ a1 a2 a3 a4 a6 P (k : Int) := by
  unfold nZ
  rw [if_pos (by omega)]
  rfl
theorem nZ_neg (k : Nat) : nZ a1 a2 a3 a4 a6 P (-(k : Int)) = nP a1 a2 a3 a4 a6 (ngQ a1 a3 P) k := by
  unfold nZ
  by_cases h : 0 ≤ -(k : Int)
  · have : k = 0 := by omega
    subst this
    rfl
  · rw [if_neg h]
    congr 1
    omega
end
theorem ne_q22 (P : Pq) (s : S) : eqD true (.p (pO P)) (.p (pO P)) s = .ok (.p (.bl false)) s := by
  rcases P with _ | ⟨x, y⟩
  · rfl
  · show eqD true (.p (pt x y)) (.p (pt x y)) s = _
    rw [eq_pt]
    simp
noncomputable def valR (r : R D) : P := match r with
  | .ok (.p y) _ => y
  | _ => .non
theorem law_mid (post : S) (m : Nat) (ds : List D) (hrow : ∀ c t d r, rowAt (.obj m) (dS [] c t d post ++ r) = some (.obj 0 :: ds)) (c t d : Int) (t0 : 0 ≤ t) (tb : t ≤ 50000) (x0 : D) :
    ∃ (ρ' : En) (t' d' : Int) (r : S), 0 ≤ t' ∧ t' ≤ 50100 ∧ ρ'[1]? = some (some (.obj m)) ∧ ρ'.length = 16 ∧ ∀ FF : SF, (seqF (asgF ((calE m_Lsome [(op2 rixD (vE 1) (cE (.int 0)))])) (tupG 2 (consG (setG 3) (consG (setG 4) nilG)))) (seqF (tasF [(calE m_Lcurve [vE 3]), (calE m_Lpoint [(op2 ixD (vE 4) (cE (.int 0)))])] (consT (setG 5) (consT (setG 6) nilT))) (seqF (asgF ((lsoE [cE .non])) (setG 7)) (seqF (forF (r1I [cE (.int 5)]) (setG 2) LB0) (seqF (asgF (lcE true (r1I [cE (.int 6)]) [2] (setG 2) yesT ((calE m_times_point [vE 5, vE 2, vE 6]))) (setG 8)) (seqF (iffF (tB (op2 (eqD true) ((calE shwD [vE 8])) ((calE shwD [(lcE true (rowI (vE 7)) [9] (setG 9) yesT ((calE m_Lpoint [vE 9])))])))) (retF (cE (.bl false))) nopF) (seqF (asgF (lcE true (r1I [cE (.int 5)]) [2] (setG 2) yesT ((calE m_times_point [vE 5, (op1 negD (vE 2)), vE 6]))) (setG 8)) (seqF (iffF (tB (op2 (eqD true) ((calE shwD [vE 8])) ((calE shwD [(lcE true (rowI ((slcE true (vE 7) none (some (cE (.int 5)))))) [9] (setG 9) yesT ((calE m_Lpoint [(calE m_Lopposite [vE 3, vE 9])])))])))) (retF (cE (.bl false))) nopF) (seqF (parF 10 11 [(calE m_Lnext [(op2 rixD (vE 1) (cE (.int 0))), cE (.int 4)]), (op2 (subD) ((calE m_Lnext [(op2 rixD (vE 1) (cE (.int 0))), cE (.int 7)])) (cE (.int 3)))]) (seqF (asgF ((calE m_added [vE 5, (calE m_times_point [vE 5, vE 10, vE 6]), (calE m_times_point [vE 5, vE 11, vE 6])])) (setG 12)) (seqF (iffF (tB (op2 (eqD true) ((calE shwD [vE 12])) ((calE shwD [(calE m_times_point [vE 5, (op2 (addD true) (vE 10) (vE 11)), vE 6])])))) (retF (cE (.bl false))) nopF) (seqF (iffF (tB (op2 (eqD true) ((calE shwD [(calE m_times_point [vE 5, cE (.int 2), (calE m_times_point [vE 5, vE 11, vE 6])])])) ((calE shwD [(calE m_times_point [vE 5, (op2 (mulD true) (cE (.int 2)) (vE 11)), vE 6])])))) (retF (cE (.bl false))) nopF) (seqF (iffF (tB (op2 (eqD false) ((calE m_Lnext [(op2 rixD (vE 1) (cE (.int 0))), cE (.int 3)])) (cE (.int 0)))) (seqF (tasF [(tupE [cE (.int 0), cE (.int 0), cE (.int 1), (op1 negD (cE (.int 1))), cE (.int 0)]), (tupE [cE (.int 0), cE (.int 0)]), (op2 (addD true) (cE (.int 1)) ((calE m_Lnext [(op2 rixD (vE 1) (cE (.int 0))), cE (.int 59)])))] (consT (setG 5) (consT (setG 6) (consT (setG 13) nilT)))) (seqF (asgF ((calE m_times_point [vE 5, cE (.int 60), vE 6])) (setG 14)) (seqF (asgF ((lstE [(calE m_times_point [vE 5, vE 13, vE 6]), (calE m_times_point [vE 5, (op2 (subD) (cE (.int 60)) (vE 13)), vE 6])])) (setG 12)) (iffF (orT (tB (op2 (isN false) (vE 14) (cE .non))) (orT (tB (op2 (eqD true) (vE 14) ((calE m_added [vE 5, (op2 ixD (vE 12) (cE (.int 0))), (op2 ixD (vE 12) (cE (.int 1)))])))) (tB (op2 (eqD true) ((calE m_times_point [vE 5, (op1 negD (cE (.int 60))), vE 6])) ((calE m_opposite [vE 5, vE 14])))))) (retF (cE (.bl false))) nopF)))) nopF) FF))))))))))))) [some x0, some (.obj m), none, none, none, none, none, none, none, none, none, none, none, none, none, none] (dS [] c t d post) = FF ρ' (dS [] c t' d' post ++ r) := by
  have rix : ∀ c t d r, rixD (.obj m) (.p (.int 0)) (dS [] c t d post ++ r) = .ok (.obj 0) (dS [] c t d post ++ r) := fun c t d r => by
    have ha : L2.atI (D.obj 0 :: ds) 0 = some (D.obj 0) := by
      unfold L2.atI
      rw [ixN_ok (by decide) (by simp)]
      rfl
    unfold rixD
    rw [hrow]
    dsimp only
    rw [ha]
  have rix0 : ∀ c t d, rixD (.obj m) (.p (.int 0)) (dS [] c t d post) = .ok (.obj 0) (dS [] c t d post) := fun c t d => by
    have h := rix c t d []
    rwa [List.append_nil] at h
  obtain ⟨a1, a2, a3, a4, a6, u0, v0, u1, v1, u2, v2, t1, d1, tr, g1, g2, e1⟩ := Lsome_ok [] post c t d t0 tb
  have e1 : m_Lsome [.obj 0] (dS [] c t d post) = .ok (.p (.lst [five a1 a2 a3 a4 a6, .lst [ppO (some (u0, v0)), ppO (some (u1, v1)), ppO (some (u2, v2))]])) (dS [] c t1 d1 post) := e1
  have o := tri_cq tr
  obtain ⟨B, b0, b1, k1, k2⟩ := tri_okb tr
  have on := k1.1
  have tm : ∀ (n : Int), n.natAbs ≤ 6 → ∀ s, m_times_point [.p (crv a1 a2 a3 a4 a6), .p (.int n), .p (pO (some (u0, v0)))] s = .ok (.p (pO (nZ a1 a2 a3 a4 a6 (some (u0, v0)) n))) s := fun n h s => times_t tr n h s
  have lc : ∀ s, m_Lcurve [.p (five a1 a2 a3 a4 a6)] s = .ok (.p (crv a1 a2 a3 a4 a6)) s := fun s => Lcurve_ok a1 a2 a3 a4 a6 s
  have lp := fun Q s => Lpoint_o Q s
  obtain ⟨z2, LO⟩ := LB0_ok o b0 b1 k1 (dS [] c t1 d1 post) (ppO (some (u1, v1))) (ppO (some (u2, v2))) (some x0) (some (.obj m)) (some (.p (crv a1 a2 a3 a4 a6))) (some (.p (pO (some (u0, v0))))) none none none none none none none none
  generalize hPP : (some (u0, v0) : Pq) = PP at *
  have Z2 : (asgF ((calE m_Lsome [(op2 rixD (vE 1) (cE (.int 0)))])) (tupG 2 (consG (setG 3) (consG (setG 4) nilG)))) [some x0, some (.obj m), none, none, none, none, none, none, none, none, none, none, none, none, none, none] (dS [] c t d post) = .ok (.nx [some x0, some (.obj m), none, some (.p (five a1 a2 a3 a4 a6)), some (.p (.lst [ppO PP, ppO (some (u1, v1)), ppO (some (u2, v2))])), none, none, none, none, none, none, none, none, none, none, none]) (dS [] c t1 d1 post) := by
    have r0 := rix0 c t d
    generalize five a1 a2 a3 a4 a6 = K at *
    generalize dS [] c t1 d1 post = T1 at *
    generalize dS [] c t d post = T0 at *
    simp [r0, e1]
  have Z3 : (tasF [(calE m_Lcurve [vE 3]), (calE m_Lpoint [(op2 ixD (vE 4) (cE (.int 0)))])] (consT (setG 5) (consT (setG 6) nilT))) [some x0, some (.obj m), none, some (.p (five a1 a2 a3 a4 a6)), some (.p (.lst [ppO PP, ppO (some (u1, v1)), ppO (some (u2, v2))])), none, none, none, none, none, none, none, none, none, none, none] (dS [] c t1 d1 post) = .ok (.nx [some x0, some (.obj m), none, some (.p (five a1 a2 a3 a4 a6)), some (.p (.lst [ppO PP, ppO (some (u1, v1)), ppO (some (u2, v2))])), some (.p (crv a1 a2 a3 a4 a6)), some (.p (pO PP)), none, none, none, none, none, none, none, none, none]) (dS [] c t1 d1 post) := by
    have i0 : ∀ p q r : P, L2.atI [p, q, r] 0 = some p := fun _ _ _ => rfl
    have lp := lp PP
    generalize five a1 a2 a3 a4 a6 = K at *
    generalize crv a1 a2 a3 a4 a6 = K2 at *
    generalize ppO PP = p0 at *
    generalize pO PP = q0 at *
    generalize dS [] c t1 d1 post = T1 at *
    simp [lc, lp, i0]
  have Z4 : (asgF ((lsoE [cE .non])) (setG 7)) [some x0, some (.obj m), none, some (.p (five a1 a2 a3 a4 a6)), some (.p (.lst [ppO PP, ppO (some (u1, v1)), ppO (some (u2, v2))])), some (.p (crv a1 a2 a3 a4 a6)), some (.p (pO PP)), none, none, none, none, none, none, none, none, none] (dS [] c t1 d1 post) = .ok (.nx [some x0, some (.obj m), none, some (.p (five a1 a2 a3 a4 a6)), some (.p (.lst [ppO PP, ppO (some (u1, v1)), ppO (some (u2, v2))])), some (.p (crv a1 a2 a3 a4 a6)), some (.p (pO PP)), some (.obj (dS [] c t1 d1 post).length), none, none, none, none, none, none, none, none]) (dS [] c t1 d1 post ++ [some (.lst (rowR a1 a2 a3 a4 a6 PP 0))]) := by
    rw [show rowR a1 a2 a3 a4 a6 PP 0 = [P.non] from rfl]
    generalize five a1 a2 a3 a4 a6 = K at *
    generalize dS [] c t1 d1 post = T1 at *
    simp
  have Z5 : (forF (r1I [cE (.int 5)]) (setG 2) LB0) [some x0, some (.obj m), none, some (.p (five a1 a2 a3 a4 a6)), some (.p (.lst [ppO PP, ppO (some (u1, v1)), ppO (some (u2, v2))])), some (.p (crv a1 a2 a3 a4 a6)), some (.p (pO PP)), some (.obj (dS [] c t1 d1 post).length), none, none, none, none, none, none, none, none] (dS [] c t1 d1 post ++ [some (.lst (rowR a1 a2 a3 a4 a6 PP 0))]) = .ok (.nx [some x0, some (.obj m), z2, some (.p (five a1 a2 a3 a4 a6)), some (.p (.lst [ppO PP, ppO (some (u1, v1)), ppO (some (u2, v2))])), some (.p (crv a1 a2 a3 a4 a6)), some (.p (pO PP)), some (.obj (dS [] c t1 d1 post).length), none, none, none, none, none, none, none, none]) (dS [] c t1 d1 post ++ [some (.lst (rowR a1 a2 a3 a4 a6 PP 5))]) := by
    exact forF_of (r1_ev _ _ _ 5 _ rfl (by decide) (by decide)) LO
  have tq : ∀ k : Nat, k ≤ 6 → ∀ s, m_times_point [.p (crv a1 a2 a3 a4 a6), .p (.int (k : Int)), .p (pO PP)] s = .ok (.p (pO (nP a1 a2 a3 a4 a6 PP k))) s := fun k hk s => by
    rw [nP_z]
    exact tm k (by omega) s
  have tn : ∀ k : Nat, k ≤ 6 → ∀ s, m_times_point [.p (crv a1 a2 a3 a4 a6), .p (.int (-(k : Int))), .p (pO PP)] s = .ok (.p (pO (nP a1 a2 a3 a4 a6 (ngQ a1 a3 PP) k))) s := fun k hk s => by
    rw [← nZ_neg]
    exact tm _ (by omega) s
  obtain ⟨L6, hL6⟩ : ∃ L, L = [pO (nP a1 a2 a3 a4 a6 PP 0), pO (nP a1 a2 a3 a4 a6 PP 1), pO (nP a1 a2 a3 a4 a6 PP 2), pO (nP a1 a2 a3 a4 a6 PP 3), pO (nP a1 a2 a3 a4 a6 PP 4), pO (nP a1 a2 a3 a4 a6 PP 5)] := ⟨_, rfl⟩
  obtain ⟨L5, hL5⟩ : ∃ L, L = [pO (nP a1 a2 a3 a4 a6 PP 0), pO (nP a1 a2 a3 a4 a6 (ngQ a1 a3 PP) 1), pO (nP a1 a2 a3 a4 a6 (ngQ a1 a3 PP) 2), pO (nP a1 a2 a3 a4 a6 (ngQ a1 a3 PP) 3), pO (nP a1 a2 a3 a4 a6 (ngQ a1 a3 PP) 4)] := ⟨_, rfl⟩
  have ok6 : ∀ k, k ≤ 6 → OkB (B : Rat) 30 a1 a2 a3 a4 a6 1370 (nP a1 a2 a3 a4 a6 PP k) := fun k hk => by
    rw [nP_z]
    exact (nZ_b o.d0 b0 k1 k2 k (by omega)).1
  have ok6n : ∀ k, k ≤ 6 → OkB (B : Rat) 30 a1 a2 a3 a4 a6 1370 (nP a1 a2 a3 a4 a6 (ngQ a1 a3 PP) k) := fun k hk => by
    rw [← nZ_neg]
    exact (nZ_b o.d0 b0 k1 k2 _ (by omega)).1
  obtain ⟨w6, s6, sh6⟩ := shw_bs b0 b1 (r := (List.range 6).map fun k => nP a1 a2 a3 a4 a6 PP k) (e := 1370) (fun Q hQ => by
    obtain ⟨k, hk, rfl⟩ := List.mem_map.mp hQ
    exact ok6 k (by have := List.mem_range.mp hk; omega)) (by decide) (by simp)
  have sh6 : ∀ s, shwD [.p (.lst L6)] s = .ok (.p (.str w6)) s := by rw [hL6]; exact sh6
  obtain ⟨w5, s5, sh5⟩ := shw_bs b0 b1 (r := (List.range 5).map fun k => nP a1 a2 a3 a4 a6 (ngQ a1 a3 PP) k) (e := 1370) (fun Q hQ => by
    obtain ⟨k, hk, rfl⟩ := List.mem_map.mp hQ
    exact ok6n k (by have := List.mem_range.mp hk; omega)) (by decide) (by simp)
  have sh5 : ∀ s, shwD [.p (.lst L5)] s = .ok (.p (.str w5)) s := by rw [hL5]; exact sh5
  have ne6 := fun s => ne_text22 s6 s
  have ne5 := fun s => ne_text22 s5 s
  have Z6 : (asgF (lcE true (r1I [cE (.int 6)]) [2] (setG 2) yesT ((calE m_times_point [vE 5, vE 2, vE 6]))) (setG 8)) [some x0, some (.obj m), z2, some (.p (five a1 a2 a3 a4 a6)), some (.p (.lst [ppO PP, ppO (some (u1, v1)), ppO (some (u2, v2))])), some (.p (crv a1 a2 a3 a4 a6)), some (.p (pO PP)), some (.obj (dS [] c t1 d1 post).length), none, none, none, none, none, none, none, none] (dS [] c t1 d1 post ++ [some (.lst (rowR a1 a2 a3 a4 a6 PP 5))]) = .ok (.nx [some x0, some (.obj m), z2, some (.p (five a1 a2 a3 a4 a6)), some (.p (.lst [ppO PP, ppO (some (u1, v1)), ppO (some (u2, v2))])), some (.p (crv a1 a2 a3 a4 a6)), some (.p (pO PP)), some (.obj (dS [] c t1 d1 post).length), some (.p (.lst L6)), none, none, none, none, none, none, none]) (dS [] c t1 d1 post ++ [some (.lst (rowR a1 a2 a3 a4 a6 PP 5))]) := by
    have h6 : r1I [cE (.int 6)] [some x0, some (.obj m), z2, some (.p (five a1 a2 a3 a4 a6)), some (.p (.lst [ppO PP, ppO (some (u1, v1)), ppO (some (u2, v2))])), some (.p (crv a1 a2 a3 a4 a6)), some (.p (pO PP)), some (.obj (dS [] c t1 d1 post).length), none, none, none, none, none, none, none, none] (dS [] c t1 d1 post ++ [some (.lst (rowR a1 a2 a3 a4 a6 PP 5))]) = .ok ([.int 0, .int 1, .int 2, .int 3, .int 4, .int 5], []) (dS [] c t1 d1 post ++ [some (.lst (rowR a1 a2 a3 a4 a6 PP 5))]) := r1_ev _ _ _ 6 _ rfl (by decide) (by decide)
    have f0 : ∀ s, m_times_point [.p (crv a1 a2 a3 a4 a6), .p (.int 0), .p (pO PP)] s = .ok (.p (pO (nP a1 a2 a3 a4 a6 PP 0))) s := tq 0 (by decide)
    have f1 : ∀ s, m_times_point [.p (crv a1 a2 a3 a4 a6), .p (.int 1), .p (pO PP)] s = .ok (.p (pO (nP a1 a2 a3 a4 a6 PP 1))) s := tq 1 (by decide)
    have f2 : ∀ s, m_times_point [.p (crv a1 a2 a3 a4 a6), .p (.int 2), .p (pO PP)] s = .ok (.p (pO (nP a1 a2 a3 a4 a6 PP 2))) s := tq 2 (by decide)
    have f3 : ∀ s, m_times_point [.p (crv a1 a2 a3 a4 a6), .p (.int 3), .p (pO PP)] s = .ok (.p (pO (nP a1 a2 a3 a4 a6 PP 3))) s := tq 3 (by decide)
    have f4 : ∀ s, m_times_point [.p (crv a1 a2 a3 a4 a6), .p (.int 4), .p (pO PP)] s = .ok (.p (pO (nP a1 a2 a3 a4 a6 PP 4))) s := tq 4 (by decide)
    have f5 : ∀ s, m_times_point [.p (crv a1 a2 a3 a4 a6), .p (.int 5), .p (pO PP)] s = .ok (.p (pO (nP a1 a2 a3 a4 a6 PP 5))) s := tq 5 (by decide)
    rw [hL6]
    generalize pO (nP a1 a2 a3 a4 a6 PP 0) = q0 at *
    generalize pO (nP a1 a2 a3 a4 a6 PP 1) = q1 at *
    generalize pO (nP a1 a2 a3 a4 a6 PP 2) = q2 at *
    generalize pO (nP a1 a2 a3 a4 a6 PP 3) = q3 at *
    generalize pO (nP a1 a2 a3 a4 a6 PP 4) = q4 at *
    generalize pO (nP a1 a2 a3 a4 a6 PP 5) = q5 at *
    generalize five a1 a2 a3 a4 a6 = K at *
    generalize crv a1 a2 a3 a4 a6 = K2 at *
    generalize dS [] c t1 d1 post ++ [some (.lst (rowR a1 a2 a3 a4 a6 PP 5))] = T2 at *
    rw [asgF_ev, lcE_ev, h6]
    simp [lcL_cns, lcL_nil, yesT, f0, f1, f2, f3, f4, f5, sizeLine_eq]
  have Z7 : (iffF (tB (op2 (eqD true) ((calE shwD [vE 8])) ((calE shwD [(lcE true (rowI (vE 7)) [9] (setG 9) yesT ((calE m_Lpoint [vE 9])))])))) (retF (cE (.bl false))) nopF) [some x0, some (.obj m), z2, some (.p (five a1 a2 a3 a4 a6)), some (.p (.lst [ppO PP, ppO (some (u1, v1)), ppO (some (u2, v2))])), some (.p (crv a1 a2 a3 a4 a6)), some (.p (pO PP)), some (.obj (dS [] c t1 d1 post).length), some (.p (.lst L6)), none, none, none, none, none, none, none] (dS [] c t1 d1 post ++ [some (.lst (rowR a1 a2 a3 a4 a6 PP 5))]) = .ok (.nx [some x0, some (.obj m), z2, some (.p (five a1 a2 a3 a4 a6)), some (.p (.lst [ppO PP, ppO (some (u1, v1)), ppO (some (u2, v2))])), some (.p (crv a1 a2 a3 a4 a6)), some (.p (pO PP)), some (.obj (dS [] c t1 d1 post).length), some (.p (.lst L6)), none, none, none, none, none, none, none]) (dS [] c t1 d1 post ++ [some (.lst (rowR a1 a2 a3 a4 a6 PP 5))]) := by
    have lcr : lcE true (rowI (vE 7)) [9] (setG 9) yesT (calE m_Lpoint [vE 9]) [some x0, some (.obj m), z2, some (.p (five a1 a2 a3 a4 a6)), some (.p (.lst [ppO PP, ppO (some (u1, v1)), ppO (some (u2, v2))])), some (.p (crv a1 a2 a3 a4 a6)), some (.p (pO PP)), some (.obj (dS [] c t1 d1 post).length), some (.p (.lst L6)), none, none, none, none, none, none, none] (dS [] c t1 d1 post ++ [some (.lst (rowR a1 a2 a3 a4 a6 PP 5))]) = .ok (.p (.lst L6)) (dS [] c t1 d1 post ++ [some (.lst (rowR a1 a2 a3 a4 a6 PP 5))]) := by
      obtain ⟨r1, r2⟩ := rowI_obj (m := vE 7) (ρ := [some x0, some (.obj m), z2, some (.p (five a1 a2 a3 a4 a6)), some (.p (.lst [ppO PP, ppO (some (u1, v1)), ppO (some (u2, v2))])), some (.p (crv a1 a2 a3 a4 a6)), some (.p (pO PP)), some (.obj (dS [] c t1 d1 post).length), some (.p (.lst L6)), none, none, none, none, none, none, none]) (s := dS [] c t1 d1 post ++ [some (.lst (rowR a1 a2 a3 a4 a6 PP 5))]) (n := (dS [] c t1 d1 post).length) rfl (lsAt_endL (rowR a1 a2 a3 a4 a6 PP 5))
      rw [lcE_row22 (F := fun x => ([some x0, some (.obj m), z2, some (.p (five a1 a2 a3 a4 a6)), some (.p (.lst [ppO PP, ppO (some (u1, v1)), ppO (some (u2, v2))])), some (.p (crv a1 a2 a3 a4 a6)), some (.p (pO PP)), some (.obj (dS [] c t1 d1 post).length), some (.p (.lst L6)), none, none, none, none, none, none, none]).set 9 (some (.p x))) (f := fun x => valR (m_Lpoint [.p x] [])) r1 r2 (by rw [rowR_len, sizeLine_eq]; decide) (fun x hx => ?_)]
      · congr 3
        rw [hL6]
        show [valR (m_Lpoint [.p (ppO (nP a1 a2 a3 a4 a6 PP 0))] []), valR (m_Lpoint [.p (ppO (nP a1 a2 a3 a4 a6 PP 1))] []), valR (m_Lpoint [.p (ppO (nP a1 a2 a3 a4 a6 PP 2))] []), valR (m_Lpoint [.p (ppO (nP a1 a2 a3 a4 a6 PP 3))] []), valR (m_Lpoint [.p (ppO (nP a1 a2 a3 a4 a6 PP 4))] []), valR (m_Lpoint [.p (ppO (nP a1 a2 a3 a4 a6 PP 5))] [])] = _
        simp only [lp, valR]
      · obtain ⟨Q, hQ, rfl⟩ := List.mem_map.mp hx
        refine ⟨rfl, ?_⟩
        show calE m_Lpoint [vE 9] _ _ = _
        rw [lp, calE_ev, evA_cons]
        show R.bind (R.bind (R.ok (D.p (ppO Q)) _) _) _ = _
        rw [R.bind_ok, evA_nil, R.bind_ok, R.bind_ok, lp]
        rfl
    generalize (dS [] c t1 d1 post).length = ln at *
    generalize five a1 a2 a3 a4 a6 = K at *
    generalize crv a1 a2 a3 a4 a6 = K2 at *
    generalize dS [] c t1 d1 post ++ [some (.lst (rowR a1 a2 a3 a4 a6 PP 5))] = T2 at *
    simp [sh6, lcr, ne6]
  have Z8 : (asgF (lcE true (r1I [cE (.int 5)]) [2] (setG 2) yesT ((calE m_times_point [vE 5, (op1 negD (vE 2)), vE 6]))) (setG 8)) [some x0, some (.obj m), z2, some (.p (five a1 a2 a3 a4 a6)), some (.p (.lst [ppO PP, ppO (some (u1, v1)), ppO (some (u2, v2))])), some (.p (crv a1 a2 a3 a4 a6)), some (.p (pO PP)), some (.obj (dS [] c t1 d1 post).length), some (.p (.lst L6)), none, none, none, none, none, none, none] (dS [] c t1 d1 post ++ [some (.lst (rowR a1 a2 a3 a4 a6 PP 5))]) = .ok (.nx [some x0, some (.obj m), z2, some (.p (five a1 a2 a3 a4 a6)), some (.p (.lst [ppO PP, ppO (some (u1, v1)), ppO (some (u2, v2))])), some (.p (crv a1 a2 a3 a4 a6)), some (.p (pO PP)), some (.obj (dS [] c t1 d1 post).length), some (.p (.lst L5)), none, none, none, none, none, none, none]) (dS [] c t1 d1 post ++ [some (.lst (rowR a1 a2 a3 a4 a6 PP 5))]) := by
    have h5 : r1I [cE (.int 5)] [some x0, some (.obj m), z2, some (.p (five a1 a2 a3 a4 a6)), some (.p (.lst [ppO PP, ppO (some (u1, v1)), ppO (some (u2, v2))])), some (.p (crv a1 a2 a3 a4 a6)), some (.p (pO PP)), some (.obj (dS [] c t1 d1 post).length), some (.p (.lst L6)), none, none, none, none, none, none, none] (dS [] c t1 d1 post ++ [some (.lst (rowR a1 a2 a3 a4 a6 PP 5))]) = .ok ([.int 0, .int 1, .int 2, .int 3, .int 4], []) (dS [] c t1 d1 post ++ [some (.lst (rowR a1 a2 a3 a4 a6 PP 5))]) := r1_ev _ _ _ 5 _ rfl (by decide) (by decide)
    have f0 : ∀ s, m_times_point [.p (crv a1 a2 a3 a4 a6), .p (.int (0)), .p (pO PP)] s = .ok (.p (pO (nP a1 a2 a3 a4 a6 PP 0))) s := tq 0 (by decide)
    have f1 : ∀ s, m_times_point [.p (crv a1 a2 a3 a4 a6), .p (.int (-1)), .p (pO PP)] s = .ok (.p (pO (nP a1 a2 a3 a4 a6 (ngQ a1 a3 PP) 1))) s := tn 1 (by decide)
    have f2 : ∀ s, m_times_point [.p (crv a1 a2 a3 a4 a6), .p (.int (-2)), .p (pO PP)] s = .ok (.p (pO (nP a1 a2 a3 a4 a6 (ngQ a1 a3 PP) 2))) s := tn 2 (by decide)
    have f3 : ∀ s, m_times_point [.p (crv a1 a2 a3 a4 a6), .p (.int (-3)), .p (pO PP)] s = .ok (.p (pO (nP a1 a2 a3 a4 a6 (ngQ a1 a3 PP) 3))) s := tn 3 (by decide)
    have f4 : ∀ s, m_times_point [.p (crv a1 a2 a3 a4 a6), .p (.int (-4)), .p (pO PP)] s = .ok (.p (pO (nP a1 a2 a3 a4 a6 (ngQ a1 a3 PP) 4))) s := tn 4 (by decide)
    rw [hL5]
    generalize pO (nP a1 a2 a3 a4 a6 PP 0) = q0 at *
    generalize pO (nP a1 a2 a3 a4 a6 (ngQ a1 a3 PP) 1) = q1 at *
    generalize pO (nP a1 a2 a3 a4 a6 (ngQ a1 a3 PP) 2) = q2 at *
    generalize pO (nP a1 a2 a3 a4 a6 (ngQ a1 a3 PP) 3) = q3 at *
    generalize pO (nP a1 a2 a3 a4 a6 (ngQ a1 a3 PP) 4) = q4 at *
    generalize five a1 a2 a3 a4 a6 = K at *
    generalize crv a1 a2 a3 a4 a6 = K2 at *
    generalize dS [] c t1 d1 post ++ [some (.lst (rowR a1 a2 a3 a4 a6 PP 5))] = T2 at *
    rw [asgF_ev, lcE_ev, h5]
    simp [lcL_cns, lcL_nil, yesT, f0, f1, f2, f3, f4, sizeLine_eq]
  have Z9 : (iffF (tB (op2 (eqD true) ((calE shwD [vE 8])) ((calE shwD [(lcE true (rowI ((slcE true (vE 7) none (some (cE (.int 5)))))) [9] (setG 9) yesT ((calE m_Lpoint [(calE m_Lopposite [vE 3, vE 9])])))])))) (retF (cE (.bl false))) nopF) [some x0, some (.obj m), z2, some (.p (five a1 a2 a3 a4 a6)), some (.p (.lst [ppO PP, ppO (some (u1, v1)), ppO (some (u2, v2))])), some (.p (crv a1 a2 a3 a4 a6)), some (.p (pO PP)), some (.obj (dS [] c t1 d1 post).length), some (.p (.lst L5)), none, none, none, none, none, none, none] (dS [] c t1 d1 post ++ [some (.lst (rowR a1 a2 a3 a4 a6 PP 5))]) = .ok (.nx [some x0, some (.obj m), z2, some (.p (five a1 a2 a3 a4 a6)), some (.p (.lst [ppO PP, ppO (some (u1, v1)), ppO (some (u2, v2))])), some (.p (crv a1 a2 a3 a4 a6)), some (.p (pO PP)), some (.obj (dS [] c t1 d1 post).length), some (.p (.lst L5)), none, none, none, none, none, none, none]) (dS [] c t1 d1 post ++ [some (.lst (rowR a1 a2 a3 a4 a6 PP 5))]) := by
    have lcr : lcE true (rowI (slcE true (vE 7) none (some (cE (.int 5))))) [9] (setG 9) yesT (calE m_Lpoint [calE m_Lopposite [vE 3, vE 9]]) [some x0, some (.obj m), z2, some (.p (five a1 a2 a3 a4 a6)), some (.p (.lst [ppO PP, ppO (some (u1, v1)), ppO (some (u2, v2))])), some (.p (crv a1 a2 a3 a4 a6)), some (.p (pO PP)), some (.obj (dS [] c t1 d1 post).length), some (.p (.lst L5)), none, none, none, none, none, none, none] (dS [] c t1 d1 post ++ [some (.lst (rowR a1 a2 a3 a4 a6 PP 5))]) = .ok (.p (.lst L5)) (dS [] c t1 d1 post ++ [some (.lst (rowR a1 a2 a3 a4 a6 PP 5))]) := by
      have r0 : slcE true (vE 7) none (some (cE (.int 5))) [some x0, some (.obj m), z2, some (.p (five a1 a2 a3 a4 a6)), some (.p (.lst [ppO PP, ppO (some (u1, v1)), ppO (some (u2, v2))])), some (.p (crv a1 a2 a3 a4 a6)), some (.p (pO PP)), some (.obj (dS [] c t1 d1 post).length), some (.p (.lst L5)), none, none, none, none, none, none, none] (dS [] c t1 d1 post ++ [some (.lst (rowR a1 a2 a3 a4 a6 PP 5))]) = .ok (.p (.lst (rowR a1 a2 a3 a4 a6 PP 4))) (dS [] c t1 d1 post ++ [some (.lst (rowR a1 a2 a3 a4 a6 PP 5))]) := by
        have sl : slcD true (.obj (dS [] c t1 d1 post).length) none (some 5) (dS [] c t1 d1 post ++ [some (.lst (rowR a1 a2 a3 a4 a6 PP 5))]) = .ok (.p (.lst (rowR a1 a2 a3 a4 a6 PP 4))) (dS [] c t1 d1 post ++ [some (.lst (rowR a1 a2 a3 a4 a6 PP 5))]) := by
          unfold slcD
          dsimp only
          rw [its_end]
          rfl
        generalize (dS [] c t1 d1 post).length = ln at *
        generalize dS [] c t1 d1 post ++ [some (.lst (rowR a1 a2 a3 a4 a6 PP 5))] = T2 at *
        simp [slcE_ev, optE_n, optE_s, partE_i, sl]
      have r1 := rowI_lst r0
      have op : ∀ k, k ≤ 4 → ∀ s, m_Lopposite [.p (five a1 a2 a3 a4 a6), .p (ppO (nP a1 a2 a3 a4 a6 PP k))] s = .ok (.p (ppO (nP a1 a2 a3 a4 a6 (ngQ a1 a3 PP) k))) s := fun k hk s => by
        rw [nP_ng o.d0 on]
        obtain ⟨q1, q2, q3, q4, q6⟩ := o.hzs
        exact Lopp_o (by omega) (by omega) b0 b1 (nP_ok o.d0 b0 k1 k (by omega)) (by
          have ej : k = 0 ∨ k = 1 ∨ k = 2 ∨ k = 3 ∨ k = 4 := by omega
          rcases ej with rfl | rfl | rfl | rfl | rfl <;> decide) (by
          have ej : k = 0 ∨ k = 1 ∨ k = 2 ∨ k = 3 ∨ k = 4 := by omega
          rcases ej with rfl | rfl | rfl | rfl | rfl <;> decide) s
      rw [lcE_row22 (F := fun x => ([some x0, some (.obj m), z2, some (.p (five a1 a2 a3 a4 a6)), some (.p (.lst [ppO PP, ppO (some (u1, v1)), ppO (some (u2, v2))])), some (.p (crv a1 a2 a3 a4 a6)), some (.p (pO PP)), some (.obj (dS [] c t1 d1 post).length), some (.p (.lst L5)), none, none, none, none, none, none, none]).set 9 (some (.p x))) (f := fun x => valR (calE m_Lpoint [calE m_Lopposite [cE (five a1 a2 a3 a4 a6), cE x]] [] [])) r1 (gok_nil _) (by rw [rowR_len, sizeLine_eq]; decide) (fun x hx => ?_)]
      · congr 3
        rw [hL5]
        have ev : ∀ k, k ≤ 4 → valR (calE m_Lpoint [calE m_Lopposite [cE (five a1 a2 a3 a4 a6), cE (ppO (nP a1 a2 a3 a4 a6 PP k))]] [] []) = pO (nP a1 a2 a3 a4 a6 (ngQ a1 a3 PP) k) := fun k hk => by
          have op := op k hk
          have lp := lp (nP a1 a2 a3 a4 a6 (ngQ a1 a3 PP) k)
          generalize pO (nP a1 a2 a3 a4 a6 (ngQ a1 a3 PP) k) = z1 at *
          generalize ppO (nP a1 a2 a3 a4 a6 (ngQ a1 a3 PP) k) = z2 at *
          generalize five a1 a2 a3 a4 a6 = K at *
          simp [op, lp, valR]
        show [valR _, valR _, valR _, valR _, valR _] = _
        rw [ev 0 (by decide), ev 1 (by decide), ev 2 (by decide), ev 3 (by decide), ev 4 (by decide)]
        rfl
      · obtain ⟨Q, hQ, rfl⟩ := List.mem_map.mp hx
        obtain ⟨k, hk, rfl⟩ := List.mem_map.mp hQ
        have hk4 : k ≤ 4 := by have := List.mem_range.mp hk; omega
        have op := op k hk4
        have lp := lp (nP a1 a2 a3 a4 a6 (ngQ a1 a3 PP) k)
        refine ⟨rfl, ?_⟩
        generalize pO (nP a1 a2 a3 a4 a6 (ngQ a1 a3 PP) k) = z1 at *
        generalize ppO (nP a1 a2 a3 a4 a6 (ngQ a1 a3 PP) k) = z3 at *
        generalize ppO (nP a1 a2 a3 a4 a6 PP k) = z4 at *
        generalize dS [] c t1 d1 post ++ [some (.lst (rowR a1 a2 a3 a4 a6 PP 5))] = T2 at *
        generalize five a1 a2 a3 a4 a6 = K at *
        simp [op, lp, valR]
    generalize (dS [] c t1 d1 post).length = ln at *
    generalize five a1 a2 a3 a4 a6 = K at *
    generalize crv a1 a2 a3 a4 a6 = K2 at *
    generalize dS [] c t1 d1 post ++ [some (.lst (rowR a1 a2 a3 a4 a6 PP 5))] = T2 at *
    simp [sh5, lcr, ne5]
  obtain ⟨a, t2', d2, a0, a4', g3, g4, f1⟩ := Lnext_ok [] (post ++ [some (.lst (rowR a1 a2 a3 a4 a6 PP 5))]) c t1 d1 4 (by decide) (szi.mono (a := 64) (by decide) (by decide)) (by omega) (by omega)
  obtain ⟨b, t3, d3, bb0, bb7, g5, g6, f2⟩ := Lnext_ok [] (post ++ [some (.lst (rowR a1 a2 a3 a4 a6 PP 5))]) c t2' d2 7 (by decide) (szi.mono (a := 64) (by decide) (by decide)) (by omega) (by omega)
  obtain ⟨v3, t4', d4, v30, v31, g7, g8, f3⟩ := Lnext_ok [] (post ++ [some (.lst (rowR a1 a2 a3 a4 a6 PP 5))]) c t3 d3 3 (by decide) (szi.mono (a := 64) (by decide) (by decide)) (by omega) (by omega)
  obtain ⟨v4, t5, d5, v40, v41, g9, g10, f4⟩ := Lnext_ok [] (post ++ [some (.lst (rowR a1 a2 a3 a4 a6 PP 5))]) c t4' d4 59 (by decide) (szi.mono (a := 64) (by decide) (by decide)) (by omega) (by omega)
  rw [dS_end, dS_end] at f1 f2 f3 f4
  have f1 : m_Lnext [.obj 0, .p (.int 4)] _ = _ := f1
  have f2 : m_Lnext [.obj 0, .p (.int 7)] _ = _ := f2
  have f3 : m_Lnext [.obj 0, .p (.int 3)] _ = _ := f3
  have f4 : m_Lnext [.obj 0, .p (.int 59)] _ = _ := f4
  have r1 := rix c t1 d1 [some (.lst (rowR a1 a2 a3 a4 a6 PP 5))]
  have r2 := rix c t2' d2 [some (.lst (rowR a1 a2 a3 a4 a6 PP 5))]
  have r3 := rix c t3 d3 [some (.lst (rowR a1 a2 a3 a4 a6 PP 5))]
  have r4 := rix c t4' d4 [some (.lst (rowR a1 a2 a3 a4 a6 PP 5))]
  have hTl : (dS [] c t1 d1 post).length = (dS [] c t3 d3 post).length := by simp
  have Z10 : (parF 10 11 [(calE m_Lnext [(op2 rixD (vE 1) (cE (.int 0))), cE (.int 4)]), (op2 (subD) ((calE m_Lnext [(op2 rixD (vE 1) (cE (.int 0))), cE (.int 7)])) (cE (.int 3)))]) [some x0, some (.obj m), z2, some (.p (five a1 a2 a3 a4 a6)), some (.p (.lst [ppO PP, ppO (some (u1, v1)), ppO (some (u2, v2))])), some (.p (crv a1 a2 a3 a4 a6)), some (.p (pO PP)), some (.obj (dS [] c t1 d1 post).length), some (.p (.lst L5)), none, none, none, none, none, none, none] (dS [] c t1 d1 post ++ [some (.lst (rowR a1 a2 a3 a4 a6 PP 5))]) = .ok (.nx [some x0, some (.obj m), z2, some (.p (five a1 a2 a3 a4 a6)), some (.p (.lst [ppO PP, ppO (some (u1, v1)), ppO (some (u2, v2))])), some (.p (crv a1 a2 a3 a4 a6)), some (.p (pO PP)), some (.obj (dS [] c t1 d1 post).length), some (.p (.lst L5)), none, some (.p (.int a)), some (.p (.int (b - 3))), none, none, none, none]) (dS [] c t3 d3 post ++ [some (.lst (rowR a1 a2 a3 a4 a6 PP 5))]) := by
    generalize five a1 a2 a3 a4 a6 = K at *
    generalize crv a1 a2 a3 a4 a6 = K2 at *
    generalize dS [] c t3 d3 post ++ [some (.lst (rowR a1 a2 a3 a4 a6 PP 5))] = U3 at *
    generalize dS [] c t2' d2 post ++ [some (.lst (rowR a1 a2 a3 a4 a6 PP 5))] = U2 at *
    generalize dS [] c t1 d1 post ++ [some (.lst (rowR a1 a2 a3 a4 a6 PP 5))] = U1 at *
    simp [r1, r2, f1, f2]
  have ta := tm a (by omega)
  have tb' := tm (b - 3) (by omega)
  have tab := tm (a + (b - 3)) (by omega)
  have t2b := tm (2 * (b - 3)) (by omega)
  have na := (nZ_b o.d0 b0 k1 k2 a (by omega)).2 (by omega)
  have nb := (nZ_b o.d0 b0 k1 k2 (b - 3) (by omega)).2 (by omega)
  have ad := fun s => added_b o b0 b1 na nb (by decide) (by decide) (by decide) (by decide) (by decide) s
  rw [nZ_add o.d0 on a (b - 3) a0] at ad
  have tw := fun s => times_two o b0 b1 nb s
  rw [nZ_twice o.d0 on] at tw
  obtain ⟨w1, s1, sh1⟩ := shw_b b0 b1 (nZ_b o.d0 b0 k1 k2 (a + (b - 3)) (by omega)).1 (by decide)
  obtain ⟨w2, s2, sh2⟩ := shw_b b0 b1 (nZ_b o.d0 b0 k1 k2 (2 * (b - 3)) (by omega)).1 (by decide)
  have ne1 := fun s => ne_text22 s1 s
  have ne2 := fun s => ne_text22 s2 s
  have m2 : mulOk 2 (b - 3) := Or.inr (Or.inl (by decide))
  have Z11 : (asgF ((calE m_added [vE 5, (calE m_times_point [vE 5, vE 10, vE 6]), (calE m_times_point [vE 5, vE 11, vE 6])])) (setG 12)) [some x0, some (.obj m), z2, some (.p (five a1 a2 a3 a4 a6)), some (.p (.lst [ppO PP, ppO (some (u1, v1)), ppO (some (u2, v2))])), some (.p (crv a1 a2 a3 a4 a6)), some (.p (pO PP)), some (.obj (dS [] c t1 d1 post).length), some (.p (.lst L5)), none, some (.p (.int a)), some (.p (.int (b - 3))), none, none, none, none] (dS [] c t3 d3 post ++ [some (.lst (rowR a1 a2 a3 a4 a6 PP 5))]) = .ok (.nx [some x0, some (.obj m), z2, some (.p (five a1 a2 a3 a4 a6)), some (.p (.lst [ppO PP, ppO (some (u1, v1)), ppO (some (u2, v2))])), some (.p (crv a1 a2 a3 a4 a6)), some (.p (pO PP)), some (.obj (dS [] c t1 d1 post).length), some (.p (.lst L5)), none, some (.p (.int a)), some (.p (.int (b - 3))), some (.p (pO (nZ a1 a2 a3 a4 a6 PP (a + (b - 3))))), none, none, none]) (dS [] c t3 d3 post ++ [some (.lst (rowR a1 a2 a3 a4 a6 PP 5))]) := by
    generalize five a1 a2 a3 a4 a6 = K at *
    generalize crv a1 a2 a3 a4 a6 = K2 at *
    generalize pO (nZ a1 a2 a3 a4 a6 PP (a + (b - 3))) = qs at *
    generalize pO (nZ a1 a2 a3 a4 a6 PP (2 * (b - 3))) = qt at *
    generalize pO (nZ a1 a2 a3 a4 a6 PP a) = qa at *
    generalize pO (nZ a1 a2 a3 a4 a6 PP (b - 3)) = qb at *
    generalize pO PP = qp at *
    generalize dS [] c t3 d3 post ++ [some (.lst (rowR a1 a2 a3 a4 a6 PP 5))] = U3 at *
    simp [ta, tb', ad]
  have Z12 : (iffF (tB (op2 (eqD true) ((calE shwD [vE 12])) ((calE shwD [(calE m_times_point [vE 5, (op2 (addD true) (vE 10) (vE 11)), vE 6])])))) (retF (cE (.bl false))) nopF) [some x0, some (.obj m), z2, some (.p (five a1 a2 a3 a4 a6)), some (.p (.lst [ppO PP, ppO (some (u1, v1)), ppO (some (u2, v2))])), some (.p (crv a1 a2 a3 a4 a6)), some (.p (pO PP)), some (.obj (dS [] c t1 d1 post).length), some (.p (.lst L5)), none, some (.p (.int a)), some (.p (.int (b - 3))), some (.p (pO (nZ a1 a2 a3 a4 a6 PP (a + (b - 3))))), none, none, none] (dS [] c t3 d3 post ++ [some (.lst (rowR a1 a2 a3 a4 a6 PP 5))]) = .ok (.nx [some x0, some (.obj m), z2, some (.p (five a1 a2 a3 a4 a6)), some (.p (.lst [ppO PP, ppO (some (u1, v1)), ppO (some (u2, v2))])), some (.p (crv a1 a2 a3 a4 a6)), some (.p (pO PP)), some (.obj (dS [] c t1 d1 post).length), some (.p (.lst L5)), none, some (.p (.int a)), some (.p (.int (b - 3))), some (.p (pO (nZ a1 a2 a3 a4 a6 PP (a + (b - 3))))), none, none, none]) (dS [] c t3 d3 post ++ [some (.lst (rowR a1 a2 a3 a4 a6 PP 5))]) := by
    generalize five a1 a2 a3 a4 a6 = K at *
    generalize crv a1 a2 a3 a4 a6 = K2 at *
    generalize pO (nZ a1 a2 a3 a4 a6 PP (a + (b - 3))) = qs at *
    generalize pO (nZ a1 a2 a3 a4 a6 PP (2 * (b - 3))) = qt at *
    generalize pO (nZ a1 a2 a3 a4 a6 PP a) = qa at *
    generalize pO (nZ a1 a2 a3 a4 a6 PP (b - 3)) = qb at *
    generalize pO PP = qp at *
    generalize dS [] c t3 d3 post ++ [some (.lst (rowR a1 a2 a3 a4 a6 PP 5))] = U3 at *
    simp [tab, sh1, ne1]
  have Z13 : (iffF (tB (op2 (eqD true) ((calE shwD [(calE m_times_point [vE 5, cE (.int 2), (calE m_times_point [vE 5, vE 11, vE 6])])])) ((calE shwD [(calE m_times_point [vE 5, (op2 (mulD true) (cE (.int 2)) (vE 11)), vE 6])])))) (retF (cE (.bl false))) nopF) [some x0, some (.obj m), z2, some (.p (five a1 a2 a3 a4 a6)), some (.p (.lst [ppO PP, ppO (some (u1, v1)), ppO (some (u2, v2))])), some (.p (crv a1 a2 a3 a4 a6)), some (.p (pO PP)), some (.obj (dS [] c t1 d1 post).length), some (.p (.lst L5)), none, some (.p (.int a)), some (.p (.int (b - 3))), some (.p (pO (nZ a1 a2 a3 a4 a6 PP (a + (b - 3))))), none, none, none] (dS [] c t3 d3 post ++ [some (.lst (rowR a1 a2 a3 a4 a6 PP 5))]) = .ok (.nx [some x0, some (.obj m), z2, some (.p (five a1 a2 a3 a4 a6)), some (.p (.lst [ppO PP, ppO (some (u1, v1)), ppO (some (u2, v2))])), some (.p (crv a1 a2 a3 a4 a6)), some (.p (pO PP)), some (.obj (dS [] c t1 d1 post).length), some (.p (.lst L5)), none, some (.p (.int a)), some (.p (.int (b - 3))), some (.p (pO (nZ a1 a2 a3 a4 a6 PP (a + (b - 3))))), none, none, none]) (dS [] c t3 d3 post ++ [some (.lst (rowR a1 a2 a3 a4 a6 PP 5))]) := by
    generalize five a1 a2 a3 a4 a6 = K at *
    generalize crv a1 a2 a3 a4 a6 = K2 at *
    generalize pO (nZ a1 a2 a3 a4 a6 PP (a + (b - 3))) = qs at *
    generalize pO (nZ a1 a2 a3 a4 a6 PP (2 * (b - 3))) = qt at *
    generalize pO (nZ a1 a2 a3 a4 a6 PP a) = qa at *
    generalize pO (nZ a1 a2 a3 a4 a6 PP (b - 3)) = qb at *
    generalize pO PP = qp at *
    generalize dS [] c t3 d3 post ++ [some (.lst (rowR a1 a2 a3 a4 a6 PP 5))] = U3 at *
    simp [tb', tw, t2b, m2, sh2, ne2]
  by_cases v0' : v3 = 0
  · subst v0'
    have cK : crv 0 0 1 (-1) 0 = P.tup [.int 0, .int 0, .int 1, .int (-1), .int 0] := rfl
    have cP : pO (some (0, 0)) = P.tup [.int 0, .int 0] := rfl
    have q60 := fun n (h : n ≤ 60) s => times_60 n h s
    obtain ⟨far, hfar⟩ : ∃ Q, nP 0 0 1 (-1) 0 (some (0, 0)) 60 = Q := ⟨_, rfl⟩
    obtain ⟨fx0, fy0, hfs⟩ : ∃ x y, far = some (x, y) := by
      have hl : 59 < T60.length := by rw [t60_len]; decide
      have e := n60 59 T60[59] (List.getElem?_eq_getElem hl)
      have e : far = some (p60 T60[59]) := hfar.symm.trans e
      exact ⟨_, _, e⟩
    have k60' := k60 60 (by decide)
    rw [hfar] at k60'
    have h1 : ∀ s, m_times_point [.p (crv 0 0 1 (-1) 0), .p (.int 60), .p (pO (some (0, 0)))] s = .ok (.p (pO far)) s := fun s => by
      rw [← hfar]
      exact times_60 60 (by decide) s
    have h2 : ∀ s, m_times_point [.p (crv 0 0 1 (-1) 0), .p (.int (1 + v4)), .p (pO (some (0, 0)))] s = .ok (.p (pO (nP 0 0 1 (-1) 0 (some (0, 0)) (1 + v4).toNat))) s := fun s => by
      have h := times_60 (1 + v4).toNat (by omega) s
      rwa [show (((1 + v4).toNat : Nat) : Int) = 1 + v4 by omega] at h
    have h3 : ∀ s, m_times_point [.p (crv 0 0 1 (-1) 0), .p (.int (60 - (1 + v4))), .p (pO (some (0, 0)))] s = .ok (.p (pO (nP 0 0 1 (-1) 0 (some (0, 0)) (60 - (1 + v4)).toNat))) s := fun s => by
      have h := times_60 (60 - (1 + v4)).toNat (by omega) s
      rwa [show (((60 - (1 + v4)).toNat : Nat) : Int) = 60 - (1 + v4) by omega] at h
    have on6 : OnQ 0 0 1 (-1) 0 (some (0, 0)) := (k60 1 (by decide)).1
    have h4 : ∀ s, m_added [.p (crv 0 0 1 (-1) 0), .p (pO (nP 0 0 1 (-1) 0 (some (0, 0)) (1 + v4).toNat)), .p (pO (nP 0 0 1 (-1) 0 (some (0, 0)) (60 - (1 + v4)).toNat))] s = .ok (.p (pO far)) s := fun s => by
      have h := added_b cq60 (by decide) (by decide) (k60 (1 + v4).toNat (by omega)) (k60 (60 - (1 + v4)).toNat (by omega)) (by decide) (by decide) (by decide) (by decide) (by decide) s
      rw [nP_add cq60.d0 on6, show (1 + v4).toNat + (60 - (1 + v4)).toNat = 60 by omega, hfar] at h
      exact h
    have h5 : ∀ s, m_times_point [.p (crv 0 0 1 (-1) 0), .p (.int (-60)), .p (pO (some (0, 0)))] s = .ok (.p (pO (ngQ 0 1 far))) s := fun s => by
      rw [← hfar]
      exact times_m60 s
    have h6 : ∀ s, m_opposite [.p (crv 0 0 1 (-1) 0), .p (pO far)] s = .ok (.p (pO (ngQ 0 1 far))) s := fun s => opposite_b cq60 (by decide) (by decide) k60' (by decide) (by decide) s
    have h7 : ∀ s, isN false (.p (pO far)) (.p .non) s = .ok (.p (.bl false)) s := fun s => by
      rw [hfs]
      rfl
    have h8 := fun s => ne_q22 far s
    have h9 := fun s => ne_q22 (ngQ 0 1 far) s
    have Y1 : (tasF [(tupE [cE (.int 0), cE (.int 0), cE (.int 1), (op1 negD (cE (.int 1))), cE (.int 0)]), (tupE [cE (.int 0), cE (.int 0)]), (op2 (addD true) (cE (.int 1)) ((calE m_Lnext [(op2 rixD (vE 1) (cE (.int 0))), cE (.int 59)])))] (consT (setG 5) (consT (setG 6) (consT (setG 13) nilT)))) [some x0, some (.obj m), z2, some (.p (five a1 a2 a3 a4 a6)), some (.p (.lst [ppO PP, ppO (some (u1, v1)), ppO (some (u2, v2))])), some (.p (crv a1 a2 a3 a4 a6)), some (.p (pO PP)), some (.obj (dS [] c t1 d1 post).length), some (.p (.lst L5)), none, some (.p (.int a)), some (.p (.int (b - 3))), some (.p (pO (nZ a1 a2 a3 a4 a6 PP (a + (b - 3))))), none, none, none] (dS [] c t4' d4 post ++ [some (.lst (rowR a1 a2 a3 a4 a6 PP 5))]) = .ok (.nx [some x0, some (.obj m), z2, some (.p (five a1 a2 a3 a4 a6)), some (.p (.lst [ppO PP, ppO (some (u1, v1)), ppO (some (u2, v2))])), some (.p (crv 0 0 1 (-1) 0)), some (.p (pO (some (0, 0)))), some (.obj (dS [] c t1 d1 post).length), some (.p (.lst L5)), none, some (.p (.int a)), some (.p (.int (b - 3))), some (.p (pO (nZ a1 a2 a3 a4 a6 PP (a + (b - 3))))), some (.p (.int (1 + v4))), none, none]) (dS [] c t5 d5 post ++ [some (.lst (rowR a1 a2 a3 a4 a6 PP 5))]) := by
      rw [cK, cP]
      generalize five a1 a2 a3 a4 a6 = K at *
      generalize crv a1 a2 a3 a4 a6 = K2 at *
      generalize dS [] c t5 d5 post ++ [some (.lst (rowR a1 a2 a3 a4 a6 PP 5))] = U5 at *
      generalize dS [] c t4' d4 post ++ [some (.lst (rowR a1 a2 a3 a4 a6 PP 5))] = U4 at *
      simp [r4, f4]
    have Y2 : (asgF ((calE m_times_point [vE 5, cE (.int 60), vE 6])) (setG 14)) [some x0, some (.obj m), z2, some (.p (five a1 a2 a3 a4 a6)), some (.p (.lst [ppO PP, ppO (some (u1, v1)), ppO (some (u2, v2))])), some (.p (crv 0 0 1 (-1) 0)), some (.p (pO (some (0, 0)))), some (.obj (dS [] c t1 d1 post).length), some (.p (.lst L5)), none, some (.p (.int a)), some (.p (.int (b - 3))), some (.p (pO (nZ a1 a2 a3 a4 a6 PP (a + (b - 3))))), some (.p (.int (1 + v4))), none, none] (dS [] c t5 d5 post ++ [some (.lst (rowR a1 a2 a3 a4 a6 PP 5))]) = .ok (.nx [some x0, some (.obj m), z2, some (.p (five a1 a2 a3 a4 a6)), some (.p (.lst [ppO PP, ppO (some (u1, v1)), ppO (some (u2, v2))])), some (.p (crv 0 0 1 (-1) 0)), some (.p (pO (some (0, 0)))), some (.obj (dS [] c t1 d1 post).length), some (.p (.lst L5)), none, some (.p (.int a)), some (.p (.int (b - 3))), some (.p (pO (nZ a1 a2 a3 a4 a6 PP (a + (b - 3))))), some (.p (.int (1 + v4))), some (.p (pO far)), none]) (dS [] c t5 d5 post ++ [some (.lst (rowR a1 a2 a3 a4 a6 PP 5))]) := by
      generalize five a1 a2 a3 a4 a6 = K at *
      generalize crv 0 0 1 (-1) 0 = K2 at *
      generalize pO far = qf at *
      generalize pO (ngQ 0 1 far) = qg at *
      generalize pO (nP 0 0 1 (-1) 0 (some (0, 0)) (1 + v4).toNat) = r1 at *
      generalize pO (nP 0 0 1 (-1) 0 (some (0, 0)) (60 - (1 + v4)).toNat) = r2 at *
      generalize pO (some (0, 0)) = qp at *
      generalize dS [] c t5 d5 post ++ [some (.lst (rowR a1 a2 a3 a4 a6 PP 5))] = U5 at *
      simp [h1]
    have Y3 : (asgF ((lstE [(calE m_times_point [vE 5, vE 13, vE 6]), (calE m_times_point [vE 5, (op2 (subD) (cE (.int 60)) (vE 13)), vE 6])])) (setG 12)) [some x0, some (.obj m), z2, some (.p (five a1 a2 a3 a4 a6)), some (.p (.lst [ppO PP, ppO (some (u1, v1)), ppO (some (u2, v2))])), some (.p (crv 0 0 1 (-1) 0)), some (.p (pO (some (0, 0)))), some (.obj (dS [] c t1 d1 post).length), some (.p (.lst L5)), none, some (.p (.int a)), some (.p (.int (b - 3))), some (.p (pO (nZ a1 a2 a3 a4 a6 PP (a + (b - 3))))), some (.p (.int (1 + v4))), some (.p (pO far)), none] (dS [] c t5 d5 post ++ [some (.lst (rowR a1 a2 a3 a4 a6 PP 5))]) = .ok (.nx [some x0, some (.obj m), z2, some (.p (five a1 a2 a3 a4 a6)), some (.p (.lst [ppO PP, ppO (some (u1, v1)), ppO (some (u2, v2))])), some (.p (crv 0 0 1 (-1) 0)), some (.p (pO (some (0, 0)))), some (.obj (dS [] c t1 d1 post).length), some (.p (.lst L5)), none, some (.p (.int a)), some (.p (.int (b - 3))), some (.p (.lst [pO (nP 0 0 1 (-1) 0 (some (0, 0)) (1 + v4).toNat), pO (nP 0 0 1 (-1) 0 (some (0, 0)) (60 - (1 + v4)).toNat)])), some (.p (.int (1 + v4))), some (.p (pO far)), none]) (dS [] c t5 d5 post ++ [some (.lst (rowR a1 a2 a3 a4 a6 PP 5))]) := by
      generalize five a1 a2 a3 a4 a6 = K at *
      generalize crv 0 0 1 (-1) 0 = K2 at *
      generalize pO far = qf at *
      generalize pO (ngQ 0 1 far) = qg at *
      generalize pO (nP 0 0 1 (-1) 0 (some (0, 0)) (1 + v4).toNat) = r1 at *
      generalize pO (nP 0 0 1 (-1) 0 (some (0, 0)) (60 - (1 + v4)).toNat) = r2 at *
      generalize pO (some (0, 0)) = qp at *
      generalize dS [] c t5 d5 post ++ [some (.lst (rowR a1 a2 a3 a4 a6 PP 5))] = U5 at *
      simp [h2, h3, sizeLine_eq]
    have Y4 : (iffF (orT (tB (op2 (isN false) (vE 14) (cE .non))) (orT (tB (op2 (eqD true) (vE 14) ((calE m_added [vE 5, (op2 ixD (vE 12) (cE (.int 0))), (op2 ixD (vE 12) (cE (.int 1)))])))) (tB (op2 (eqD true) ((calE m_times_point [vE 5, (op1 negD (cE (.int 60))), vE 6])) ((calE m_opposite [vE 5, vE 14])))))) (retF (cE (.bl false))) nopF) [some x0, some (.obj m), z2, some (.p (five a1 a2 a3 a4 a6)), some (.p (.lst [ppO PP, ppO (some (u1, v1)), ppO (some (u2, v2))])), some (.p (crv 0 0 1 (-1) 0)), some (.p (pO (some (0, 0)))), some (.obj (dS [] c t1 d1 post).length), some (.p (.lst L5)), none, some (.p (.int a)), some (.p (.int (b - 3))), some (.p (.lst [pO (nP 0 0 1 (-1) 0 (some (0, 0)) (1 + v4).toNat), pO (nP 0 0 1 (-1) 0 (some (0, 0)) (60 - (1 + v4)).toNat)])), some (.p (.int (1 + v4))), some (.p (pO far)), none] (dS [] c t5 d5 post ++ [some (.lst (rowR a1 a2 a3 a4 a6 PP 5))]) = .ok (.nx [some x0, some (.obj m), z2, some (.p (five a1 a2 a3 a4 a6)), some (.p (.lst [ppO PP, ppO (some (u1, v1)), ppO (some (u2, v2))])), some (.p (crv 0 0 1 (-1) 0)), some (.p (pO (some (0, 0)))), some (.obj (dS [] c t1 d1 post).length), some (.p (.lst L5)), none, some (.p (.int a)), some (.p (.int (b - 3))), some (.p (.lst [pO (nP 0 0 1 (-1) 0 (some (0, 0)) (1 + v4).toNat), pO (nP 0 0 1 (-1) 0 (some (0, 0)) (60 - (1 + v4)).toNat)])), some (.p (.int (1 + v4))), some (.p (pO far)), none]) (dS [] c t5 d5 post ++ [some (.lst (rowR a1 a2 a3 a4 a6 PP 5))]) := by
      have j0 : ∀ p q : P, L2.atI [p, q] 0 = some p := fun _ _ => rfl
      have j1 : ∀ p q : P, L2.atI [p, q] 1 = some q := fun _ _ => rfl
      generalize five a1 a2 a3 a4 a6 = K at *
      generalize crv 0 0 1 (-1) 0 = K2 at *
      generalize pO far = qf at *
      generalize pO (ngQ 0 1 far) = qg at *
      generalize pO (nP 0 0 1 (-1) 0 (some (0, 0)) (1 + v4).toNat) = r1 at *
      generalize pO (nP 0 0 1 (-1) 0 (some (0, 0)) (60 - (1 + v4)).toNat) = r2 at *
      generalize pO (some (0, 0)) = qp at *
      generalize dS [] c t5 d5 post ++ [some (.lst (rowR a1 a2 a3 a4 a6 PP 5))] = U5 at *
      simp [h4, h5, h6, h7, h8, h9, j0, j1]
    have tt : (tB (op2 (eqD false) ((calE m_Lnext [(op2 rixD (vE 1) (cE (.int 0))), cE (.int 3)])) (cE (.int 0)))) [some x0, some (.obj m), z2, some (.p (five a1 a2 a3 a4 a6)), some (.p (.lst [ppO PP, ppO (some (u1, v1)), ppO (some (u2, v2))])), some (.p (crv a1 a2 a3 a4 a6)), some (.p (pO PP)), some (.obj (dS [] c t1 d1 post).length), some (.p (.lst L5)), none, some (.p (.int a)), some (.p (.int (b - 3))), some (.p (pO (nZ a1 a2 a3 a4 a6 PP (a + (b - 3))))), none, none, none] (dS [] c t3 d3 post ++ [some (.lst (rowR a1 a2 a3 a4 a6 PP 5))]) = .ok true (dS [] c t4' d4 post ++ [some (.lst (rowR a1 a2 a3 a4 a6 PP 5))]) := by
      generalize dS [] c t4' d4 post ++ [some (.lst (rowR a1 a2 a3 a4 a6 PP 5))] = U4 at *
      generalize dS [] c t3 d3 post ++ [some (.lst (rowR a1 a2 a3 a4 a6 PP 5))] = U3 at *
      simp [r3, f3]
    have Z14 : iffF (tB (op2 (eqD false) ((calE m_Lnext [(op2 rixD (vE 1) (cE (.int 0))), cE (.int 3)])) (cE (.int 0)))) (seqF (tasF [(tupE [cE (.int 0), cE (.int 0), cE (.int 1), (op1 negD (cE (.int 1))), cE (.int 0)]), (tupE [cE (.int 0), cE (.int 0)]), (op2 (addD true) (cE (.int 1)) ((calE m_Lnext [(op2 rixD (vE 1) (cE (.int 0))), cE (.int 59)])))] (consT (setG 5) (consT (setG 6) (consT (setG 13) nilT)))) (seqF (asgF ((calE m_times_point [vE 5, cE (.int 60), vE 6])) (setG 14)) (seqF (asgF ((lstE [(calE m_times_point [vE 5, vE 13, vE 6]), (calE m_times_point [vE 5, (op2 (subD) (cE (.int 60)) (vE 13)), vE 6])])) (setG 12)) (iffF (orT (tB (op2 (isN false) (vE 14) (cE .non))) (orT (tB (op2 (eqD true) (vE 14) ((calE m_added [vE 5, (op2 ixD (vE 12) (cE (.int 0))), (op2 ixD (vE 12) (cE (.int 1)))])))) (tB (op2 (eqD true) ((calE m_times_point [vE 5, (op1 negD (cE (.int 60))), vE 6])) ((calE m_opposite [vE 5, vE 14])))))) (retF (cE (.bl false))) nopF)))) nopF [some x0, some (.obj m), z2, some (.p (five a1 a2 a3 a4 a6)), some (.p (.lst [ppO PP, ppO (some (u1, v1)), ppO (some (u2, v2))])), some (.p (crv a1 a2 a3 a4 a6)), some (.p (pO PP)), some (.obj (dS [] c t1 d1 post).length), some (.p (.lst L5)), none, some (.p (.int a)), some (.p (.int (b - 3))), some (.p (pO (nZ a1 a2 a3 a4 a6 PP (a + (b - 3))))), none, none, none] (dS [] c t3 d3 post ++ [some (.lst (rowR a1 a2 a3 a4 a6 PP 5))]) = .ok (.nx [some x0, some (.obj m), z2, some (.p (five a1 a2 a3 a4 a6)), some (.p (.lst [ppO PP, ppO (some (u1, v1)), ppO (some (u2, v2))])), some (.p (crv 0 0 1 (-1) 0)), some (.p (pO (some (0, 0)))), some (.obj (dS [] c t1 d1 post).length), some (.p (.lst L5)), none, some (.p (.int a)), some (.p (.int (b - 3))), some (.p (.lst [pO (nP 0 0 1 (-1) 0 (some (0, 0)) (1 + v4).toNat), pO (nP 0 0 1 (-1) 0 (some (0, 0)) (60 - (1 + v4)).toNat)])), some (.p (.int (1 + v4))), some (.p (pO far)), none]) (dS [] c t5 d5 post ++ [some (.lst (rowR a1 a2 a3 a4 a6 PP 5))]) := by
      rw [iffF_ev, tt, R.bind_ok, if_pos rfl, seqF_ok Y1, seqF_ok Y2, seqF_ok Y3, Y4]
    exact ⟨_, t5, d5, _, by omega, by omega, rfl, rfl, fun FF => by
      rw [seqF_ok Z2, seqF_ok Z3, seqF_ok Z4, seqF_ok Z5, seqF_ok Z6, seqF_ok Z7, seqF_ok Z8, seqF_ok Z9, seqF_ok Z10, seqF_ok Z11, seqF_ok Z12, seqF_ok Z13, seqF_ok Z14]⟩
  · have tt : (tB (op2 (eqD false) ((calE m_Lnext [(op2 rixD (vE 1) (cE (.int 0))), cE (.int 3)])) (cE (.int 0)))) [some x0, some (.obj m), z2, some (.p (five a1 a2 a3 a4 a6)), some (.p (.lst [ppO PP, ppO (some (u1, v1)), ppO (some (u2, v2))])), some (.p (crv a1 a2 a3 a4 a6)), some (.p (pO PP)), some (.obj (dS [] c t1 d1 post).length), some (.p (.lst L5)), none, some (.p (.int a)), some (.p (.int (b - 3))), some (.p (pO (nZ a1 a2 a3 a4 a6 PP (a + (b - 3))))), none, none, none] (dS [] c t3 d3 post ++ [some (.lst (rowR a1 a2 a3 a4 a6 PP 5))]) = .ok false (dS [] c t4' d4 post ++ [some (.lst (rowR a1 a2 a3 a4 a6 PP 5))]) := by
      generalize dS [] c t4' d4 post ++ [some (.lst (rowR a1 a2 a3 a4 a6 PP 5))] = U4 at *
      generalize dS [] c t3 d3 post ++ [some (.lst (rowR a1 a2 a3 a4 a6 PP 5))] = U3 at *
      simp [r3, f3, v0']
    have Z14 : iffF (tB (op2 (eqD false) ((calE m_Lnext [(op2 rixD (vE 1) (cE (.int 0))), cE (.int 3)])) (cE (.int 0)))) (seqF (tasF [(tupE [cE (.int 0), cE (.int 0), cE (.int 1), (op1 negD (cE (.int 1))), cE (.int 0)]), (tupE [cE (.int 0), cE (.int 0)]), (op2 (addD true) (cE (.int 1)) ((calE m_Lnext [(op2 rixD (vE 1) (cE (.int 0))), cE (.int 59)])))] (consT (setG 5) (consT (setG 6) (consT (setG 13) nilT)))) (seqF (asgF ((calE m_times_point [vE 5, cE (.int 60), vE 6])) (setG 14)) (seqF (asgF ((lstE [(calE m_times_point [vE 5, vE 13, vE 6]), (calE m_times_point [vE 5, (op2 (subD) (cE (.int 60)) (vE 13)), vE 6])])) (setG 12)) (iffF (orT (tB (op2 (isN false) (vE 14) (cE .non))) (orT (tB (op2 (eqD true) (vE 14) ((calE m_added [vE 5, (op2 ixD (vE 12) (cE (.int 0))), (op2 ixD (vE 12) (cE (.int 1)))])))) (tB (op2 (eqD true) ((calE m_times_point [vE 5, (op1 negD (cE (.int 60))), vE 6])) ((calE m_opposite [vE 5, vE 14])))))) (retF (cE (.bl false))) nopF)))) nopF [some x0, some (.obj m), z2, some (.p (five a1 a2 a3 a4 a6)), some (.p (.lst [ppO PP, ppO (some (u1, v1)), ppO (some (u2, v2))])), some (.p (crv a1 a2 a3 a4 a6)), some (.p (pO PP)), some (.obj (dS [] c t1 d1 post).length), some (.p (.lst L5)), none, some (.p (.int a)), some (.p (.int (b - 3))), some (.p (pO (nZ a1 a2 a3 a4 a6 PP (a + (b - 3))))), none, none, none] (dS [] c t3 d3 post ++ [some (.lst (rowR a1 a2 a3 a4 a6 PP 5))]) = .ok (.nx [some x0, some (.obj m), z2, some (.p (five a1 a2 a3 a4 a6)), some (.p (.lst [ppO PP, ppO (some (u1, v1)), ppO (some (u2, v2))])), some (.p (crv a1 a2 a3 a4 a6)), some (.p (pO PP)), some (.obj (dS [] c t1 d1 post).length), some (.p (.lst L5)), none, some (.p (.int a)), some (.p (.int (b - 3))), some (.p (pO (nZ a1 a2 a3 a4 a6 PP (a + (b - 3))))), none, none, none]) (dS [] c t4' d4 post ++ [some (.lst (rowR a1 a2 a3 a4 a6 PP 5))]) := by
      rw [iffF_ev, tt, R.bind_ok]
      rfl
    exact ⟨_, t4', d4, _, by omega, by omega, rfl, rfl, fun FF => by
      rw [seqF_ok Z2, seqF_ok Z3, seqF_ok Z4, seqF_ok Z5, seqF_ok Z6, seqF_ok Z7, seqF_ok Z8, seqF_ok Z9, seqF_ok Z10, seqF_ok Z11, seqF_ok Z12, seqF_ok Z13, seqF_ok Z14]⟩
theorem round_set (s : S) (j : Nat) (c t d : Int) (h : s[j]? = some (some (O.lst [.int c, .int t, .int d]))) (t0 : 0 ≤ t) (tb : t ≤ 60000) :
    ∃ t' d', t ≤ t' ∧ t' ≤ t + 6 ∧ m_Lround_right [.obj j] s = .ok (.p (.bl true)) (s.set j (some (O.lst [.int c, .int t', .int d']))) := by
  have hj : j < s.length := (List.getElem?_eq_some_iff.mp h).1
  have hg : s[j] = some (O.lst [.int c, .int t, .int d]) := (List.getElem?_eq_some_iff.mp h).2
  have hl : (s.take j).length = j := by rw [List.length_take]; omega
  obtain ⟨t', d', g1, g2, e⟩ := Lround_ok (s.take j) (s.drop (j + 1)) c t d t0 tb
  have es : s.take j ++ some (O.lst [.int c, .int t, .int d]) :: s.drop (j + 1) = s := by
    rw [← hg, ← List.drop_eq_getElem_cons hj, List.take_append_drop]
  have e2 : s.take j ++ some (O.lst [.int c, .int t', .int d']) :: s.drop (j + 1) = s.set j (some (O.lst [.int c, .int t', .int d'])) := by
    rw [List.set_eq_take_append_cons_drop, if_pos hj]
  have e : m_Lround_right [.obj (s.take j).length] (s.take j ++ some (O.lst [.int c, .int t, .int d]) :: s.drop (j + 1)) = .ok (.p (.bl true)) (s.take j ++ some (O.lst [.int c, .int t', .int d']) :: s.drop (j + 1)) := e
  rw [hl, es, e2] at e
  exact ⟨t', d', g1, g2, e⟩
theorem rowAt_set (m j : Nat) (s : S) (o : Option O) (h : j ≠ m) : rowAt (.obj m) (s.set j o) = rowAt (.obj m) s := by
  unfold rowAt
  dsimp only
  rw [List.getElem?_set_ne h]
theorem lcD_rounds (m : Nat) (al : List D) (ρ : En) (hl : 15 < ρ.length) : ∀ (ds : List D) (b : Int) (s : S), (∀ d ∈ ds, ∃ j, d = .obj j ∧ j ≠ m ∧ ∃ c t e, s[j]? = some (some (O.lst [.int c, .int t, .int e])) ∧ 0 ≤ t ∧ t ≤ b) → b + 6 * (ds.length : Int) ≤ 60000 → rowAt (.obj m) s = some al →
    ∃ s', lcDL [15] (fun s' => rowAt (.obj m) s' = some al) (setG 15) (notT (tT (calE m_Lround_right [vE 15]))) (cE (.int 1)) ρ ds s = .ok [] s'
  | [], b, s, _, _, hm => ⟨s, by
      unfold lcDL
      exact if_pos hm⟩
  | d :: ds, b, s, hd, hb, hm => by
    obtain ⟨j, rfl, hj, c, t, e, h, t0, t1⟩ := hd _ List.mem_cons_self
    have hb2 : b + 6 * ((ds.length : Int) + 1) ≤ 60000 := hb
    obtain ⟨t', d', g1, g2, r⟩ := round_set s j c t e h t0 (by omega)
    obtain ⟨s', k⟩ := lcD_rounds m al ρ hl ds (b + 6) (s.set j (some (O.lst [.int c, .int t', .int d']))) (fun d2 h2 => by
      obtain ⟨j2, rfl, n2, c2, t2, e2, h3, q0, q1⟩ := hd _ (List.mem_cons_of_mem _ h2)
      refine ⟨j2, rfl, n2, ?_⟩
      by_cases hj2 : j = j2
      · subst hj2
        exact ⟨c, t', d', List.getElem?_set_self (List.getElem?_eq_some_iff.mp h).1, by omega, by omega⟩
      · exact ⟨c2, t2, e2, by rw [List.getElem?_set_ne hj2]; exact h3, q0, by omega⟩) (by omega) (by rw [rowAt_set m j s _ hj]; exact hm)
    refine ⟨s', ?_⟩
    have g15 : ((ρ.set 15 none).set 15 (some (.obj j)))[15]? = some (some (.obj j)) := by
      rw [List.getElem?_set_self (by rw [List.length_set]; exact hl)]
    have nt : notT (tT (calE m_Lround_right [vE 15])) ((ρ.set 15 none).set 15 (some (.obj j))) s = .ok false (s.set j (some (O.lst [.int c, .int t', .int d']))) := by
      have ca : calE m_Lround_right [vE 15] ((ρ.set 15 none).set 15 (some (.obj j))) s = .ok (.p (.bl true)) (s.set j (some (O.lst [.int c, .int t', .int d']))) := by
        rw [calE_ev, evA_cons, vE_of g15, R.bind_ok, evA_nil, R.bind_ok, R.bind_ok]
        exact r
      rw [notT_ev, tT_ev, ca]
      rfl
    unfold lcDL
    rw [if_pos hm, bnd_ev, show setG 15 (.obj j) (wipE ρ [15]) s = .ok ((ρ.set 15 none).set 15 (some (.obj j))) s from rfl, R.bind_ok, bnd_ev, nt, R.bind_ok, if_neg Bool.false_ne_true]
    exact k
theorem Z1_ok (ns : List Int) (hl : ns.length ≤ 63) : ∃ (rows : List (List P)) (al : List D), 1 ≤ rows.length ∧ (∀ r ∈ rows, Row22 r) ∧ al = (List.range' 0 rows.length).map .obj ∧
    asgF (cutR 3 (lcDE true true (dI (r1I [(calE maxD [cE (.int 1), (calE lenD [vE 0])])])) [2] (setG 2) yesT ((calE m_Ldraw_of [vE 0, vE 2])))) (setG 1) [some (.p (.con (ns.map P.int))), none, none, none, none, none, none, none, none, none, none, none, none, none, none, none] [] = .ok (.nx [some (.p (.con (ns.map P.int))), some (.obj (rows.length + 1)), none, none, none, none, none, none, none, none, none, none, none, none, none, none]) ((rows.map fun r => some (O.lst r)) ++ [some (.row al), some (.row (al.take 3))]) := by
  have hln : ∀ s, lenD [.p (.con (ns.map P.int))] s = .ok (.p (.int ns.length)) s := by
    intro s
    show R.ok (D.p (.int ((ns.map P.int).length : Nat))) s = _
    rw [List.length_map]
  obtain ⟨N, n0, n1, hm⟩ : ∃ N : Int, 1 ≤ N ∧ N ≤ 63 ∧ ∀ s, maxD [.p (.int 1), .p (.int ns.length)] s = .ok (.p (.int N)) s := by
    refine ⟨max 1 ns.length, by omega, by omega, fun s => ?_⟩
    simp
  have hr : r1I [calE maxD [cE (.int 1), calE lenD [vE 0]]] [some (.p (.con (ns.map P.int))), none, none, none, none, none, none, none, none, none, none, none, none, none, none, none] [] = .ok (ranP 0 N.toNat, []) [] := r1_ev _ _ _ N _ (by simp [hln, hm]) (by omega) (by omega)
  obtain ⟨rows, l1, l2, l3⟩ := lcD_draws ns hl [some (.p (.con (ns.map P.int))), none, none, none, none, none, none, none, none, none, none, none, none, none, none, none] rfl (by show 2 < 16; decide) (ranP 0 N.toNat) (fun x hx => by
    unfold ranP at hx
    obtain ⟨k, hk, rfl⟩ := List.mem_map.mp hx
    have hk := List.mem_range.mp hk
    exact ⟨_, rfl, by omega, by omega⟩) []
  have hN : (ranP 0 N.toNat).length = N.toNat := ranP_len 0 N.toNat
  rw [← l1] at l3
  refine ⟨rows, (List.range' 0 rows.length).map .obj, by omega, l2, rfl, ?_⟩
  have e1 : lcDE true true (dI (r1I [calE maxD [cE (.int 1), calE lenD [vE 0]]])) [2] (setG 2) yesT (calE m_Ldraw_of [vE 0, vE 2]) [some (.p (.con (ns.map P.int))), none, none, none, none, none, none, none, none, none, none, none, none, none, none, none] [] = .ok (.obj rows.length) ((rows.map fun r => some (O.lst r)) ++ [some (.row ((List.range' 0 rows.length).map .obj))]) := by
    unfold lcDE dI
    rw [bnd_ev, bnd_ev, hr, R.bind_ok]
    show R.bind (R.ok ((ranP 0 N.toNat).map D.p, gok []) []) _ = _
    rw [R.bind_ok]
    show (if ((ranP 0 N.toNat).map D.p).length ≤ sizeLine then _ else _) = _
    rw [if_pos (by rw [List.length_map, hN, sizeLine_eq]; omega), bnd_ev, l3, R.bind_ok]
    show R.ok (D.obj (List.length ([] ++ rows.map fun r => some (O.lst r)))) _ = _
    rw [List.nil_append, List.length_map]
    rfl
  rw [asgF_ev]
  unfold cutR
  rw [bnd_ev, e1, R.bind_ok]
  have hrow : rowAt (.obj rows.length) ((rows.map fun r => some (O.lst r)) ++ [some (.row ((List.range' 0 rows.length).map .obj))]) = some ((List.range' 0 rows.length).map .obj) := by
    unfold rowAt
    dsimp only
    rw [List.getElem?_append_right (by rw [List.length_map]; exact Nat.le_refl _), List.length_map, Nat.sub_self]
    rfl
  rw [hrow]
  show R.bind (R.ok (D.obj (List.length ((rows.map fun r => some (O.lst r)) ++ [some (.row ((List.range' 0 rows.length).map .obj))]))) (((rows.map fun r => some (O.lst r)) ++ [some (.row ((List.range' 0 rows.length).map .obj))]) ++ [some (.row (((List.range' 0 rows.length).map .obj).take 3))])) _ = _
  rw [R.bind_ok, List.length_append, List.length_map, List.append_assoc]
  rfl
theorem law_true (ns : List Int) (hl : ns.length ≤ 63) (hb : ∀ z ∈ ns, Builtin.Int.intBits z ≤ 1048576) : ∃ s', m_law [.p (.con (ns.map P.int))] [] = .ok (.p (.bl true)) s' := by
  obtain ⟨rows, al, r1, r2, hal, Z1⟩ := Z1_ok ns hl
  obtain ⟨r0, rest, rfl⟩ : ∃ r0 rest, rows = r0 :: rest := by
    cases rows with
    | nil => exact absurd r1 (by decide)
    | cons a b => exact ⟨a, b, rfl⟩
  obtain ⟨c, t, d, rfl, t0, tb⟩ := r2 _ List.mem_cons_self
  obtain ⟨ds, hds⟩ : ∃ ds, al.take 3 = .obj 0 :: ds := by
    rw [hal]
    exact ⟨_, rfl⟩
  have hmem : ∀ x ∈ al.take 3, ∃ j, x = .obj j ∧ j < rest.length + 1 := fun x hx => by
    have h := List.mem_of_mem_take hx
    rw [hal] at h
    obtain ⟨j, hj, rfl⟩ := List.mem_map.mp h
    have := List.mem_range'_1.mp hj
    exact ⟨j, rfl, by simpa using this.2⟩
  obtain ⟨post, hpost⟩ : ∃ post : S, post = (rest.map fun r => some (O.lst r)) ++ [some (.row al), some (.row (al.take 3))] := ⟨_, rfl⟩
  have hlen : post.length = rest.length + 2 := by rw [hpost]; simp
  have hS : ((([.int c, .int t, .int d] :: rest).map fun r => some (O.lst r)) ++ [some (.row al), some (.row (al.take 3))]) = dS [] c t d post := by rw [hpost]; rfl
  rw [hS] at Z1
  have hrow : ∀ c t d r, rowAt (.obj (rest.length + 1 + 1)) (dS [] c t d post ++ r) = some (al.take 3) := fun c t d r => by
    have e : (dS [] c t d post ++ r)[rest.length + 1 + 1]? = some (some (.row (al.take 3))) := by
      show (some (O.lst [.int c, .int t, .int d]) :: (post ++ r))[rest.length + 1 + 1]? = _
      rw [List.getElem?_cons_succ, List.getElem?_append_left (by omega), hpost, List.getElem?_append_right (by simp), List.length_map, show rest.length + 1 - rest.length = 1 by omega]
      rfl
    unfold rowAt
    dsimp only
    rw [e]
  have hrow2 := hrow
  rw [hds] at hrow2
  obtain ⟨ρ', t', d', r, w0, w1, w2, w3, w4⟩ := law_mid post (rest.length + 1 + 1) ds hrow2 c t d t0 tb (.p (.con (ns.map P.int)))
  obtain ⟨s', hz⟩ := lcD_rounds (rest.length + 1 + 1) (al.take 3) ρ' (by omega) (al.take 3) 50100 (dS [] c t' d' post ++ r) (fun x hx => by
    obtain ⟨j, rfl, hj⟩ := hmem x hx
    refine ⟨j, rfl, by omega, ?_⟩
    cases j with
    | zero => exact ⟨c, t', d', rfl, w0, w1⟩
    | succ j =>
      have hj2 : j < rest.length := by omega
      obtain ⟨c2, t2, d2, e2, q0, q1⟩ := r2 rest[j] (List.mem_cons_of_mem _ (List.getElem_mem hj2))
      refine ⟨c2, t2, d2, ?_, q0, by omega⟩
      show (some (O.lst [.int c, .int t', .int d']) :: (post ++ r))[j + 1]? = _
      rw [List.getElem?_cons_succ, List.getElem?_append_left (by omega), hpost, List.getElem?_append_left (by rw [List.length_map]; exact hj2), List.getElem?_map, List.getElem?_eq_getElem hj2]
      show some (some (O.lst rest[j])) = _
      rw [e2]) (by
    have : (al.take 3).length ≤ 3 := List.length_take_le 3 al
    omega) (hrow _ _ _ _)
  have Z15 : retF ((op2 (eqD false) ((lcDE false true (rowdI (vE 1)) [15] (setG 15) (notT (tT ((calE m_Lround_right [vE 15])))) (cE (.int 1)))) ((lstE [])))) ρ' (dS [] c t' d' post ++ r) = .ok (.rt (.p (.bl true))) s' := by
    have e1 : lcDE false true (rowdI (vE 1)) [15] (setG 15) (notT (tT (calE m_Lround_right [vE 15]))) (cE (.int 1)) ρ' (dS [] c t' d' post ++ r) = .ok (.p (.lst [])) s' := by
      unfold lcDE rowdI
      rw [bnd_ev, bnd_ev, vE_of w2, R.bind_ok, hrow]
      show R.bind (R.ok (al.take 3, fun s' => rowAt (.obj (rest.length + 1 + 1)) s' = some (al.take 3)) (dS [] c t' d' post ++ r)) _ = _
      rw [R.bind_ok]
      show (if (al.take 3).length ≤ sizeLine then _ else _) = _
      rw [if_pos (by rw [sizeLine_eq]; have : (al.take 3).length ≤ 3 := List.length_take_le 3 al
                     omega), bnd_ev, hz, R.bind_ok]
      rfl
    have e2 : eqD false (.p (.lst [])) (.p (.lst [])) s' = .ok (.p (.bl true)) s' := rfl
    rw [retF_ev, op2_ev, e1, R.bind_ok]
    simp [e2]
  refine ⟨[], ?_⟩
  unfold m_law
  rw [defM_ev (n := 1) rfl]
  show R.bind (B_law [some (.p (.con (ns.map P.int))), none, none, none, none, none, none, none, none, none, none, none, none, none, none, none] []) (defk []) = _
  unfold B_law
  rw [seqF_ok Z1]
  rw [show ([.int c, .int t, .int d] :: rest).length = rest.length + 1 from rfl]
  rw [w4, Z15]
  exact fin_ex _ _
end CWL
end
open PySem PySem.W PySem.Calls PyProof.Rows in
set_option maxRecDepth 100000 in
set_option maxHeartbeats 0 in
theorem PySem.Challenge.cw_cubicway_k22_multiples_holds : PySem.Challenge.rw_cubicway_k22_multiples.Holds := by
  w_on; o_law
  refine HandSHeadRun.head_any (r := OpenLaw.row PySem.Challenge.rw_cubicway_k22_multiples) (q := CWL.Hd.qv) (H := CWL.Hd.hk) (ob := CWL.Hd.ob) (M := 6000) (loose := CWL.Hd.names) (d := HandSHeadRun.topDef (OpenLaw.row PySem.Challenge.rw_cubicway_k22_multiples).prog 54) (kwd := []) CWL.Hd.ob_eq (by kernel_rfl) (fun s => by kernel_rfl) CWL.Hd.run (by kernel_rfl) (by kernel_rfl) (by kernel_rfl) (by rfl) (by first | assumption | decide +kernel) (by decide +kernel) ⟨rfl, rfl, rfl, rfl, rfl, by decide +kernel⟩ ?hw ?hc
  case hw => w_witness2
  case hc =>
    refine CW.law_endE (l := PySem.Challenge.rw_cubicway_k22_multiples) (m := fun _ => CWL.m_law) (x := "_law_script") (k := 11) rfl (by decide) (by kernel_rfl) ⟨rfl, by decide, by decide⟩ (Sy := fun w K => CW.HdE.SaysK CWL.hp0 CWL.hp1 CWL.hp2 CWL.hp3 CWL.hex CWL.hhs CWL.hhv w K) (fun w h Y => Y) ?F (fun _ => CWL.law_true)
    intro w mg fa h K KX S G hmg0
    have hmg : mg ("law" : PySem.Str) = some (.ref fa) := by
      have e : (HandSHeadRun.topDef (OpenLaw.row PySem.Challenge.rw_cubicway_k22_multiples).prog 54).name = ("law" : PySem.Str) := by kernel_rfl
      rw [← e]
      exact hmg0
    exact CWL.all_E KX S G hmg
