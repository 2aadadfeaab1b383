import PyProof.Rows.All
import Wide.All
import OpenK.AllK
import Wide.FinOn
import HandS.ForMost
import HandS.Exc
import HandS.ExcOwn
import HandS.WordsExc
import HandS.Defaults
import HandS.CallSlots
import HandS.Lambda
import HandS.Wide
import HandS.Flow
import HandS.IsInst
import HandS.Text
import HandS.TupAny
import HandS.Replace
import HandS.FStr
import HandS.Style
import HandS.TupMul
import HandS.Deep
import HandS.More
import PyProof.ListStr
import HandS.SortInts
import PyProof.ZipIter
import PyProof.StrLoop
import PyProof.StrWalks
import HandS.Zip0
import HandS.Iter
import HandS.Zip
import PyProof.EnumIter
import PyProof.EnumMake
import HandS.Walk
import HandS.TryOnly
import HandS.DictComp
import HandS.Star
import KE.KExcSuper
import HandS.ExcInit
import KE.KTryMore
import HandS.HotCalls
import HandS.ExcField
import HandS.Steps
import HandS.Property
import HandS.CallRecv
import OpenK.KOps
import PyProof.InstNe
import HandS.ClsMeth
import HandS.HeadHook2
import HandS.HeadEnd
import HandS.EndTab
import HandS.Head2
import HandS.HeadNt
import PySem.Challenge.RW_kindlebody_k06_whole_texts_of_works
set_option Elab.async false
section
set_option Elab.async false
set_option linter.all false
set_option maxRecDepth 100000
set_option maxHeartbeats 1000000
/-! MpCore: data by value (D), the shared heap (MH), how they are borne by the layer's V and Hp, extension, carrying over. -/
namespace Mp
open PySem PySem.Spec PyProof.Rows L2

/-- data: tuples, lists that nobody writes any more, dicts and instances likewise, by value; ref n: the n-th shared object -/
inductive D where
  | non | bl (b : Bool) | int (i : Int) | str (x : Str)
  | tup (xs : List D) | lst (xs : List D) | fz (xs : List D) | dct (ks : List Key) (vs : List D)
  | ins (C : Nat) (ns : List Nat) (ds : List D) | ref (n : Nat) | cls (C : Nat)

instance : Inhabited D := ⟨.non⟩

/-- a shared object -/
inductive MO where
  | lst (xs : List D) | dct (ks : List Key) (vs : List D) | ins (C : Nat) (ns : List Nat) (ds : List D)
abbrev MH := List MO

/-- an exception: its class, its fields -/
structure Exn where
  c : Nat
  ns : List Nat
  ds : List D

inductive R (α : Type) where
  | ok (a : α) (m : MH) | exc (x : Exn) (m : MH) | bad
def R.bind {α β : Type} (r : R α) (k : α → MH → R β) : R β := match r with
  | .ok a m => k a m
  | .exc x m => .exc x m
  | .bad => .bad
@[simp] theorem R.ok_bind {α β : Type} (a : α) (m : MH) (k : α → MH → R β) : (R.ok a m).bind k = k a m := rfl
@[simp] theorem R.exc_bind {α β : Type} (x : Exn) (m : MH) (k : α → MH → R β) : (R.exc x m : R α).bind k = .exc x m := rfl
@[simp] theorem R.bad_bind {α β : Type} (k : α → MH → R β) : (R.bad : R α).bind k = .bad := rfl

/-- what the text's top gives: names, classes' addresses -/
structure Sta where
  P : Program
  w : World
  K : PySem.W.Frag
  mg : Str → Option Value
  base : Heap
  nm : Nat → Str
  ca : Nat → Addr
  tb : List (Addr × Str)
  slf : Addr := 0

/-! ### how data stand in the abstract heap -/
/-- nobody writes it: not owned by a frame, not shared -/
def Sil (ow : Addr → Prop) (io : List Addr) (H : Hp) (a : Addr) (o : HO) : Prop := Rd H a o ∧ a ∉ io ∧ ¬ ow a
def KLst (K : PySem.W.Frag) (a : Addr) (xs : List V) : Prop :=
  ∃ (o : Obj) (its : Array Value) (n : Nat), K.lookup a = some o ∧ o.cls = .type "list" ∧ o.dict = none ∧ o.data = .seq its n ∧ its.size ≤ sizeLine ∧ Vals xs its.toList
def KTup (K : PySem.W.Frag) (a : Addr) (xs : List V) : Prop :=
  ∃ (o : Obj) (its : Array Value) (n : Nat), K.lookup a = some o ∧ o.cls = .type "tuple" ∧ o.data = .seq its n ∧ its.size ≤ sizeLine ∧ Vals xs its.toList

section
variable (S : Sta) (ow : Addr → Prop) (io : List Addr) (H : Hp)
mutual
def RV : D → V → Prop
  | .non, v => v = .non
  | .bl b, v => v = .bl b
  | .int i, v => v = .int i
  | .str x, v => v = .str x
  | .tup xs, v => ∃ a vs, v = .ref a ∧ (Sil ow io H a (.tup vs) ∨ KTup S.K a vs) ∧ RVs xs vs
  | .lst xs, v => ∃ a vs, v = .ref a ∧ (H a = some (.lst vs) ∧ a ∉ io ∧ ¬ ow a) ∧ RVs xs vs
  | .fz xs, v => ∃ a vs, v = .ref a ∧ (Sil ow io H a (.lst vs) ∨ KLst S.K a vs) ∧ RVs xs vs
  | .dct ks xs, v => ∃ a kvs, v = .ref a ∧ (H a = some (.dK kvs) ∧ a ∉ io ∧ ¬ ow a) ∧ kvs.map (·.1) = ks ∧ RVs xs (kvs.map (·.2))
  | .ins C ns ds, v => ∃ a dx fs, v = .ref a ∧ (H a = some (.ins (S.ca C) dx fs) ∧ a ∉ io ∧ ¬ ow a) ∧ fs.map (·.1) = ns.map S.nm ∧ RVs ds (fs.map (·.2))
  | .ref n, v => ∃ a, v = .ref a ∧ io[n]? = some a
  | .cls C, v => v = .ref (S.ca C)
def RVs : List D → List V → Prop
  | [], vs => vs = []
  | d :: ds, vs => ∃ v r, vs = v :: r ∧ RV d v ∧ RVs ds r
end
/-- a shared object at its address -/
def RO (a : Addr) : MO → Prop
  | .lst xs => ∃ vs, H a = some (.lst vs) ∧ RVs S ow io H xs vs
  | .dct ks xs => ∃ kvs, H a = some (.dK kvs) ∧ kvs.map (·.1) = ks ∧ RVs S ow io H xs (kvs.map (·.2))
  | .ins C ns ds => ∃ dx fs, H a = some (.ins (S.ca C) dx fs) ∧ fs.map (·.1) = ns.map S.nm ∧ RVs S ow io H ds (fs.map (·.2))
structure RH (m : MH) : Prop where
  tab : LamX.Tabs S.tb H
  len : io.length = m.length
  nd : io.Nodup
  at_ : ∀ (n : Nat) (o : MO), m[n]? = some o → ∃ a, io[n]? = some a ∧ RO S ow io H a o ∧ ¬ ow a
end

/-! ### the heap grows, shared objects change; tables of code objects may grow -/
def sol : HO → Prop
  | .tbl _ => False
  | _ => True
def NT (H : Hp) (a : Addr) : Prop := ∀ u, H a = some u → ¬ sol u
theorem NT.of {H : Hp} {a : Addr} (h : H a = none) : NT H a := fun u e => by rw [h] at e; cases e
theorem NT.no {H : Hp} {a : Addr} {u : HO} (n : NT H a) (e : H a = some u) (s : sol u) : False := n u e s
theorem NT.ex {H : Hp} {a : Addr} (n : ¬ NT H a) : ∃ u, H a = some u ∧ sol u := Classical.byContradiction fun z => n fun u e s => z ⟨u, e, s⟩
theorem NT.ne {H : Hp} {a p : Addr} (n : ¬ NT H a) (h : H p = none) : a ≠ p := fun e => n (.of (e ▸ h))
theorem NT.upd {H : Hp} {a p : Addr} {o : HO} (h : NT (upd H p o) a) (hp : a = p → NT H a) : NT H a := fun u e s => by
  by_cases q : a = p
  · exact hp q u e s
  · exact h u (by rw [upd_ne q]; exact e) s
theorem sol_tup {H : Hp} {a : Addr} {o : HO} (r : Rd H a o) (s : sol o) : ¬ NT H a := fun n => by
  rcases r with r | ⟨_, r⟩
  · exact n _ r s
  · exact n _ r True.intro
structure Ex (io : List Addr) (H : Hp) (io' : List Addr) (H' : Hp) : Prop where
  pre : io <+: io'
  new : ∀ a, a ∈ io' → a ∉ io → NT H a
  keep : ∀ a o, H a = some o → sol o → a ∉ io → H' a = some o
  dom : ∀ a, NT H' a → NT H a
/-- the same from statement to statement: the owned ones may change, and which are owned -/
structure Ey (ow : Addr → Prop) (io : List Addr) (H : Hp) (ow' : Addr → Prop) (io' : List Addr) (H' : Hp) : Prop where
  pre : io <+: io'
  new : ∀ a, a ∈ io' → a ∉ io → NT H a
  now : ∀ a, ow' a → ¬ ow a → NT H a
  keep : ∀ a o, H a = some o → sol o → a ∉ io → ¬ ow a → H' a = some o
  dom : ∀ a, NT H' a → NT H a
theorem Ex.ey {io io' : List Addr} {H H' : Hp} {ow : Addr → Prop} (x : Ex io H io' H') : Ey ow io H ow io' H' :=
  ⟨x.pre, x.new, fun _ h n => absurd h n, fun a o h s n _ => x.keep a o h s n, x.dom⟩
theorem Ey.refl (ow : Addr → Prop) (io : List Addr) (H : Hp) : Ey ow io H ow io H := ⟨List.prefix_refl _, fun _ h n => absurd h n, fun _ h n => absurd h n, fun _ _ h _ _ _ => h, fun _ h => h⟩
theorem Ey.trans {ow ow1 ow2 : Addr → Prop} {io io1 io2 : List Addr} {H H1 H2 : Hp} (a : Ey ow io H ow1 io1 H1) (b : Ey ow1 io1 H1 ow2 io2 H2) : Ey ow io H ow2 io2 H2 where
  pre := a.pre.trans b.pre
  new := fun x h n => by
    by_cases h1 : x ∈ io1
    · exact a.new x h1 n
    · exact a.dom x (b.new x h h1)
  now := fun x h n => by
    by_cases h1 : ow1 x
    · exact a.now x h1 n
    · exact a.dom x (b.now x h h1)
  keep := fun x o h s n w => b.keep x o (a.keep x o h s n w) s (fun h1 => a.new x h1 n o h s) fun h1 => a.now x h1 w o h s
  dom := fun x h => a.dom x (b.dom x h)
theorem Ey.less {ow ow' : Addr → Prop} {io : List Addr} {H : Hp} (x : ∀ a, ow' a → ow a) : Ey ow io H ow' io H := ⟨List.prefix_refl _, fun _ h n => absurd h n, fun a h n => absurd (x a h) n, fun _ _ h _ _ _ => h, fun _ h => h⟩
/-- an owned object is written -/
theorem Ey.own {ow : Addr → Prop} {io : List Addr} {H : Hp} {p : Addr} {o : HO} (hp : ow p) (hs : sol o) : Ey ow io H ow io (upd H p o) where
  pre := List.prefix_refl _
  new := fun _ h n => absurd h n
  now := fun _ h n => absurd h n
  keep := fun a u h _ _ n => by
    have e : a ≠ p := fun e => n (by rw [e]; exact hp)
    rw [upd_ne e]; exact h
  dom := fun a h => h.upd fun e => by
    rw [e] at h ⊢
    exact absurd hs (h _ upd_same)
theorem Ex.refl (io : List Addr) (H : Hp) : Ex io H io H := ⟨List.prefix_refl _, fun _ h n => absurd h n, fun _ _ h _ _ => h, fun _ h => h⟩
theorem Ex.trans {io io1 io2 : List Addr} {H H1 H2 : Hp} (a : Ex io H io1 H1) (b : Ex io1 H1 io2 H2) : Ex io H io2 H2 where
  pre := a.pre.trans b.pre
  new := fun x h n => by
    by_cases h1 : x ∈ io1
    · exact a.new x h1 n
    · exact a.dom x (b.new x h h1)
  keep := fun x o h s n => b.keep x o (a.keep x o h s n) s fun h1 => a.new x h1 n o h s
  dom := fun x h => a.dom x (b.dom x h)
/-- a new object, not shared -/
theorem Ex.fresh {io : List Addr} {H : Hp} {p : Addr} {o : HO} (hp : H p = none) : Ex io H io (upd H p o) where
  pre := List.prefix_refl _
  new := fun _ h n => absurd h n
  keep := fun a u h _ _ => by rw [upd_ne (ne_of_none h hp)]; exact h
  dom := fun a h => h.upd fun e => .of (e ▸ hp)
/-- a shared object is written -/
theorem Ex.write {io : List Addr} {H : Hp} {p : Addr} {o : HO} (hp : p ∈ io) (hs : sol o) : Ex io H io (upd H p o) where
  pre := List.prefix_refl _
  new := fun _ h n => absurd h n
  keep := fun a u h _ n => by
    have e : a ≠ p := fun e => n (by rw [e]; exact hp)
    rw [upd_ne e]; exact h
  dom := fun a h => h.upd fun e => by
    rw [e] at h ⊢
    exact absurd hs (h _ upd_same)
/-- a new shared object -/
theorem Ex.share {io : List Addr} {H : Hp} {p : Addr} {o : HO} (hp : H p = none) : Ex io H (io ++ [p]) (upd H p o) where
  pre := List.prefix_append _ _
  new := fun a h n => by
    rcases List.mem_append.mp h with h | h
    · exact absurd h n
    · rw [List.mem_singleton.mp h]; exact .of hp
  keep := fun a u h _ _ => by rw [upd_ne (ne_of_none h hp)]; exact h
  dom := fun a h => h.upd fun e => .of (e ▸ hp)

theorem pre_get {io io' : List Addr} (h : io <+: io') {n : Nat} {a : Addr} (e : io[n]? = some a) : io'[n]? = some a := by
  obtain ⟨t, rfl⟩ := h
  rw [List.getElem?_append_left (List.getElem?_eq_some_iff.mp e).1]
  exact e

section
variable {S : Sta} {ow ow' : Addr → Prop} {io io' : List Addr} {H H' : Hp}
theorem Sil.ey {a : Addr} {o : HO} (x : Ey ow io H ow' io' H') (so : sol o) (h : Sil ow io H a o) : Sil ow' io' H' a o := by
  obtain ⟨r, n, w⟩ := h
  have z := sol_tup r so
  refine ⟨?_, fun hm => z (x.new a hm n), fun hm => z (x.now a hm w)⟩
  rcases r with r | ⟨ob, r⟩
  · exact .inl (x.keep a _ r so n w)
  · exact .inr ⟨ob, x.keep a _ r True.intro n w⟩
theorem ins_ey {a : Addr} {o : HO} (x : Ey ow io H ow' io' H') (so : sol o) (h : H a = some o ∧ a ∉ io ∧ ¬ ow a) : H' a = some o ∧ a ∉ io' ∧ ¬ ow' a := by
  obtain ⟨r, n, w⟩ := h
  exact ⟨x.keep a _ r so n w, fun hm => x.new a hm n _ r so, fun hm => x.now a hm w _ r so⟩
mutual
theorem RV.ey (x : Ey ow io H ow' io' H') : ∀ {d : D} {v : V}, RV S ow io H d v → RV S ow' io' H' d v
  | .non, _, h => by unfold RV at h ⊢; exact h
  | .bl _, _, h => by unfold RV at h ⊢; exact h
  | .int _, _, h => by unfold RV at h ⊢; exact h
  | .str _, _, h => by unfold RV at h ⊢; exact h
  | .tup xs, _, h => by
    unfold RV at h ⊢
    obtain ⟨a, vs, e, r, q⟩ := h
    exact ⟨a, vs, e, r.imp (Sil.ey x True.intro) id, RVs.ey x q⟩
  | .lst xs, _, h => by
    unfold RV at h ⊢
    obtain ⟨a, vs, e, r, q⟩ := h
    exact ⟨a, vs, e, ins_ey x True.intro r, RVs.ey x q⟩
  | .fz xs, _, h => by
    unfold RV at h ⊢
    obtain ⟨a, vs, e, r, q⟩ := h
    exact ⟨a, vs, e, r.imp (Sil.ey x True.intro) id, RVs.ey x q⟩
  | .dct ks xs, _, h => by
    unfold RV at h ⊢
    obtain ⟨a, kvs, e, r, q1, q⟩ := h
    exact ⟨a, kvs, e, ins_ey x True.intro r, q1, RVs.ey x q⟩
  | .ins C ns ds, _, h => by
    unfold RV at h ⊢
    obtain ⟨a, dx, fs, e, r, q1, q⟩ := h
    exact ⟨a, dx, fs, e, ins_ey x True.intro r, q1, RVs.ey x q⟩
  | .ref n, _, h => by
    unfold RV at h ⊢
    obtain ⟨a, e, r⟩ := h
    exact ⟨a, e, pre_get x.pre r⟩
  | .cls _, _, h => by unfold RV at h ⊢; exact h
theorem RVs.ey (x : Ey ow io H ow' io' H') : ∀ {ds : List D} {vs : List V}, RVs S ow io H ds vs → RVs S ow' io' H' ds vs
  | [], _, h => by unfold RVs at h ⊢; exact h
  | d :: ds, _, h => by
    unfold RVs at h ⊢
    obtain ⟨v, r, e, h1, h2⟩ := h
    exact ⟨v, r, e, RV.ey x h1, RVs.ey x h2⟩
end
theorem RV.ex (x : Ex io H io' H') {d : D} {v : V} (h : RV S ow io H d v) : RV S ow io' H' d v := h.ey x.ey
theorem RVs.ex (x : Ex io H io' H') {d : List D} {v : List V} (h : RVs S ow io H d v) : RVs S ow io' H' d v := h.ey x.ey
theorem RV.less (x : ∀ a, ow' a → ow a) {d : D} {v : V} (h : RV S ow io H d v) : RV S ow' io H d v := h.ey (.less x)
theorem RVs.less (x : ∀ a, ow' a → ow a) {d : List D} {v : List V} (h : RVs S ow io H d v) : RVs S ow' io H d v := h.ey (.less x)
theorem upd_owned {p : Addr} {o : HO} (hp : ow p) {a : Addr} (h : ¬ ow a) : upd H p o a = H a := upd_ne fun e => h (e ▸ hp)
theorem RV.own {p : Addr} {o : HO} (hp : ow p) (so : sol o) {d : D} {v : V} (h : RV S ow io H d v) : RV S ow io (upd H p o) d v := h.ey (.own hp so)
theorem RVs.own {p : Addr} {o : HO} (hp : ow p) (so : sol o) {d : List D} {v : List V} (h : RVs S ow io H d v) : RVs S ow io (upd H p o) d v := h.ey (.own hp so)
theorem RVs.length : ∀ {ds : List D} {vs : List V}, RVs S ow io H ds vs → ds.length = vs.length
  | [], _, h => by unfold RVs at h; subst h; rfl
  | d :: ds, _, h => by
    unfold RVs at h
    obtain ⟨v, r, e, h1, h2⟩ := h
    rw [e, List.length_cons, List.length_cons, RVs.length h2]
theorem RVs.nil : RVs S ow io H [] [] := by unfold RVs; rfl
theorem RVs.cons {d : D} {ds : List D} {v : V} {vs : List V} (h : RV S ow io H d v) (t : RVs S ow io H ds vs) : RVs S ow io H (d :: ds) (v :: vs) := by
  unfold RVs; exact ⟨v, vs, rfl, h, t⟩
theorem RVs.get : ∀ {ds : List D} {vs : List V} {i : Nat} {d : D}, RVs S ow io H ds vs → ds[i]? = some d → ∃ v, vs[i]? = some v ∧ RV S ow io H d v
  | [], _, _, _, _, e => by simp at e
  | d :: ds, _, 0, d', h, e => by
    unfold RVs at h
    obtain ⟨v, r, rfl, h1, h2⟩ := h
    simp at e
    subst e
    exact ⟨v, rfl, h1⟩
  | d :: ds, _, i + 1, d', h, e => by
    unfold RVs at h
    obtain ⟨v, r, rfl, h1, h2⟩ := h
    obtain ⟨v', e1, e2⟩ := RVs.get (i := i) (d := d') h2 (by simpa using e)
    exact ⟨v', by simpa using e1, e2⟩
theorem RVs.append : ∀ {ds es : List D} {vs us : List V}, RVs S ow io H ds vs → RVs S ow io H es us → RVs S ow io H (ds ++ es) (vs ++ us)
  | [], _, _, _, h, t => by unfold RVs at h; subst h; exact t
  | d :: ds, _, _, _, h, t => by
    unfold RVs at h
    obtain ⟨v, r, rfl, h1, h2⟩ := h
    exact .cons h1 (RVs.append h2 t)
theorem RVs.take : ∀ {ds : List D} {vs : List V} (n : Nat), RVs S ow io H ds vs → RVs S ow io H (ds.take n) (vs.take n)
  | _, _, 0, _ => by simp; exact .nil
  | [], _, n + 1, h => by unfold RVs at h; subst h; exact .nil
  | d :: ds, _, n + 1, h => by
    unfold RVs at h
    obtain ⟨v, r, rfl, h1, h2⟩ := h
    exact .cons h1 (RVs.take n h2)
theorem RVs.drop : ∀ {ds : List D} {vs : List V} (n : Nat), RVs S ow io H ds vs → RVs S ow io H (ds.drop n) (vs.drop n)
  | _, _, 0, h => by simpa using h
  | [], _, n + 1, h => by unfold RVs at h; subst h; simp; exact .nil
  | d :: ds, _, n + 1, h => by
    unfold RVs at h
    obtain ⟨v, r, rfl, h1, h2⟩ := h
    exact RVs.drop n h2
theorem RVs.set : ∀ {ds : List D} {vs : List V} (i : Nat) {d : D} {v : V}, RVs S ow io H ds vs → RV S ow io H d v → RVs S ow io H (ds.set i d) (vs.set i v)
  | [], _, _, _, _, h, _ => by unfold RVs at h; subst h; simp; exact .nil
  | _ :: ds, _, 0, _, _, h, q => by
    unfold RVs at h
    obtain ⟨v, r, rfl, h1, h2⟩ := h
    exact .cons q h2
  | _ :: ds, _, i + 1, _, _, h, q => by
    unfold RVs at h
    obtain ⟨v, r, rfl, h1, h2⟩ := h
    exact .cons h1 (RVs.set i h2 q)
theorem RO.ex {a : Addr} {o : MO} (x : Ex io H io' H') (hk : H' a = H a) (h : RO S ow io H a o) : RO S ow io' H' a o := by
  cases o with
  | lst xs => obtain ⟨vs, e, q⟩ := h; exact ⟨vs, hk.trans e, q.ex x⟩
  | dct ks xs => obtain ⟨kvs, e, q1, q⟩ := h; exact ⟨kvs, hk.trans e, q1, q.ex x⟩
  | ins C ns ds => obtain ⟨dx, fs, e, q1, q⟩ := h; exact ⟨dx, fs, hk.trans e, q1, q.ex x⟩
theorem RH.mem {m : MH} (h : RH S ow io H m) {a : Addr} (ha : a ∈ io) : ¬ NT H a ∧ ¬ ow a := by
  obtain ⟨n, hn, e⟩ := List.getElem_of_mem ha
  have hm : n < m.length := by rw [← h.len]; exact hn
  obtain ⟨a', e1, e2, e3⟩ := h.at_ n m[n] (List.getElem?_eq_getElem hm)
  have : a' = a := by
    rw [List.getElem?_eq_getElem hn, e] at e1
    exact (Option.some.inj e1).symm
  subst this
  refine ⟨fun z => ?_, e3⟩
  cases q : m[n] with
  | lst xs => rw [q] at e2; obtain ⟨vs, e, _⟩ := e2; exact z _ e True.intro
  | dct ks xs => rw [q] at e2; obtain ⟨kvs, e, _⟩ := e2; exact z _ e True.intro
  | ins C ns ds => rw [q] at e2; obtain ⟨dx, fs, e, _⟩ := e2; exact z _ e True.intro
/-- what is written over is no table and no code object -/
def wro : HO → Prop
  | .tbl _ => False
  | .ext _ => False
  | _ => True
theorem tabs_write {T : List (Addr × Str)} {H : Hp} {p : Addr} {o u : HO} (h : LamX.Tabs T H) (e : H p = some u) (w : wro u) : LamX.Tabs T (upd H p o) := fun q hq => by
  obtain ⟨ps, h1, h2, h3⟩ := h q hq
  refine ⟨ps, ?_, h2, fun pos cv hc => ?_⟩
  · rw [upd_ne fun z => ?_]
    · exact h1
    · rw [z, e] at h1
      cases h1
      exact w
  · obtain ⟨c, e1, e2⟩ := h3 pos cv hc
    refine ⟨c, e1, ?_⟩
    rw [upd_ne fun z => ?_]
    · exact e2
    · rw [z, e] at e2
      have e3 := Option.some.inj e2
      rw [e3] at w
      exact w
theorem tabs_fresh {T : List (Addr × Str)} {H : Hp} {p : Addr} {o : HO} (h : LamX.Tabs T H) (e : H p = none) : LamX.Tabs T (upd H p o) := h.ext fun b u q => by rw [upd_ne (ne_of_none q e)]; exact q
/-- a new object that is not shared: the shared ones stay -/
theorem RH.fresh {m : MH} {p : Addr} {o : HO} (h : RH S ow io H m) (hp : H p = none) : RH S ow io (upd H p o) m where
  tab := tabs_fresh h.tab hp
  len := h.len
  nd := h.nd
  at_ := fun n u e => by
    obtain ⟨a, e1, e2, e3⟩ := h.at_ n u e
    have hm := (h.mem (List.mem_of_getElem? e1)).1
    exact ⟨a, e1, e2.ex (.fresh hp) (upd_ne (NT.ne hm hp)), e3⟩
/-- an owned object is written -/
theorem RH.own {m : MH} {p : Addr} {o : HO} (h : RH S ow io H m) (hp : ow p) (so : sol o) {u : HO} (eu : H p = some u) (wu : wro u) : RH S ow io (upd H p o) m where
  tab := tabs_write h.tab eu wu
  len := h.len
  nd := h.nd
  at_ := fun n u e => by
    obtain ⟨a, e1, e2, e3⟩ := h.at_ n u e
    have hk := upd_owned (H := H) (o := o) hp e3
    refine ⟨a, e1, ?_, e3⟩
    cases u with
    | lst xs => obtain ⟨vs, q, r⟩ := e2; exact ⟨vs, hk.trans q, r.own hp so⟩
    | dct ks xs => obtain ⟨kvs, q, q1, r⟩ := e2; exact ⟨kvs, hk.trans q, q1, r.own hp so⟩
    | ins C ns ds => obtain ⟨dx, fs, q, q1, r⟩ := e2; exact ⟨dx, fs, hk.trans q, q1, r.own hp so⟩
theorem RH.less {m : MH} {ow' : Addr → Prop} (x : ∀ a, ow' a → ow a) (h : RH S ow io H m) : RH S ow' io H m where
  tab := h.tab
  len := h.len
  nd := h.nd
  at_ := fun n u e => by
    obtain ⟨a, e1, e2, e3⟩ := h.at_ n u e
    refine ⟨a, e1, ?_, fun z => e3 (x _ z)⟩
    cases u with
    | lst xs => obtain ⟨vs, q, r⟩ := e2; exact ⟨vs, q, r.less x⟩
    | dct ks xs => obtain ⟨kvs, q, q1, r⟩ := e2; exact ⟨kvs, q, q1, r.less x⟩
    | ins C ns ds => obtain ⟨dx, fs, q, q1, r⟩ := e2; exact ⟨dx, fs, q, q1, r.less x⟩
/-- the n-th shared object is written -/
theorem RH.write {m : MH} {n : Nat} {a : Addr} {o : HO} {u : MO} (h : RH S ow io H m) (hn : io[n]? = some a) (so : sol o) (hu : RO S ow io (upd H a o) a u) : RH S ow io (upd H a o) (m.set n u) where
  tab := by
    have hl : n < m.length := by rw [← h.len]; exact (List.getElem?_eq_some_iff.mp hn).1
    obtain ⟨b, e1, e2, _⟩ := h.at_ n _ (List.getElem?_eq_getElem hl)
    rw [hn] at e1
    cases e1
    cases q : m[n] with
    | lst xs => rw [q] at e2; obtain ⟨vs, e, _⟩ := e2; exact tabs_write h.tab e True.intro
    | dct ks xs => rw [q] at e2; obtain ⟨kvs, e, _⟩ := e2; exact tabs_write h.tab e True.intro
    | ins C ns ds => rw [q] at e2; obtain ⟨dx, fs, e, _⟩ := e2; exact tabs_write h.tab e True.intro
  len := by rw [List.length_set]; exact h.len
  nd := h.nd
  at_ := fun k v e => by
    by_cases hk : k = n
    · subst hk
      have hl : k < m.length := by rw [← h.len]; exact (List.getElem?_eq_some_iff.mp hn).1
      rw [List.getElem?_set_self hl] at e
      cases e
      exact ⟨a, hn, hu, (h.mem (List.mem_of_getElem? hn)).2⟩
    · rw [List.getElem?_set_ne (Ne.symm hk)] at e
      obtain ⟨b, e1, e2, e3⟩ := h.at_ k v e
      refine ⟨b, e1, e2.ex (.write (List.mem_of_getElem? hn) so) (upd_ne fun z => hk ?_), e3⟩
      obtain ⟨l1, q1⟩ := List.getElem?_eq_some_iff.mp e1
      obtain ⟨l2, q2⟩ := List.getElem?_eq_some_iff.mp hn
      exact (List.getElem_inj h.nd).mp (q1.trans (z.trans q2.symm))
/-- a new shared object -/
theorem RH.share {m : MH} {p : Addr} {o : HO} {u : MO} (h : RH S ow io H m) (hp : H p = none) (how : ¬ ow p) (hu : RO S ow (io ++ [p]) (upd H p o) p u) : RH S ow (io ++ [p]) (upd H p o) (m ++ [u]) where
  tab := tabs_fresh h.tab hp
  len := by rw [List.length_append, List.length_append, h.len]; rfl
  nd := by
    rw [List.nodup_append]
    refine ⟨h.nd, by simp, fun a ha b hb => ?_⟩
    rw [List.mem_singleton.mp hb]
    exact NT.ne (h.mem ha).1 hp
  at_ := fun k v e => by
    by_cases hk : k < m.length
    · rw [List.getElem?_append_left hk] at e
      obtain ⟨b, e1, e2, e3⟩ := h.at_ k v e
      exact ⟨b, pre_get (List.prefix_append _ _) e1, e2.ex (.share hp) (upd_ne (NT.ne (h.mem (List.mem_of_getElem? e1)).1 hp)), e3⟩
    · rw [List.getElem?_append_right (by omega)] at e
      have e0 : k - m.length = 0 := by
        cases q : k - m.length with
        | zero => rfl
        | succ j => rw [q] at e; simp at e
      rw [e0] at e
      simp at e
      subst e
      refine ⟨p, ?_, hu, how⟩
      rw [List.getElem?_append_right (by rw [h.len]; omega), h.len, e0]
      rfl
end
end Mp
end
section
set_option Elab.async false
set_option linter.all false
set_option maxRecDepth 100000
set_option maxHeartbeats 1000000
/-! MpSem: the small language and what it means over D and MH. -/
namespace Mp
open PySem PySem.Spec PyProof.Rows L2

inductive BO where
  | add | sub | mul | fdiv | mod | pow
inductive CO where
  | eq | ne | lt | le | gt | ge | mem | nmem
/-- types asked by isinstance -/
inductive Ty where
  | int | bool | str | list | tuple | dict | cls (C : Nat)
inductive Bl where
  | len | int_ | abs | all | any | list | tuple | str | sum | max2 | min2 | sorted
/-- text methods: of one argument -/
inductive M1 where
  | partition | index | split | join
/-- what a built-in asks an instance for -/
inductive Du where
  | len | repr
inductive Tg where
  | nm (i : Nat) | tup (ts : List Tg)
inductive E where
  | k (d : D) | loc (i : Nat) | cst (g : Nat)
  | bin (o : BO) (a b : E) | neg (a : E)
  | cmp (o : CO) (a b : E) | chain (o p : CO) (a b c : E) | isN (a : E) | notN (a : E)
  | andv (a b : E) | orv (a b : E) | notv (a : E) | ite (c a b : E)
  | tup (es : List E) | lst (es : List E)
  | idx (a i : E) | sl (a lo hi : E) | prt (a : E) | fld (a : E) (f : Nat)
  | call (f : Nat) (es : List E) | callK (f b : Nat) (es ks : List E)
  | blt (b : Bl) (es : List E) | isi (a : E) (ts : List Ty)
  | comp (vs : List Nat) (tg : Tg) (it : E) (cs : List E) (el : E)
  | rng1 (b : E) | rng2 (a b : E) | zip (a b : E)
  | why (b : E)
  | own (i : Nat)
  | m1 (k : M1) (o a : E) | fmt (a : E) | fs (es : List E) | rev (a : E)
  | mth (f : Nat) (a : E) (es : List E) | dun (k : Du) (f : Nat) (a : E) | eqI (ng : Bool) (f : Nat) (a b : E) | isC (a : E) (C : Nat)
  | enm (a : E) | dcomp (vs : List Nat) (tg : Tg) (it k v : E)
  | callL (i C f : Nat) (es : List E) | mthK (f b : Nat) (a : E) (es ks : List E)

/-- own classes: methods, properties (class, name), which is one of which -/
structure Ci where
  mt : Nat → Nat → Option Nat
  pr : Nat → Nat → Option (Option Nat)
  isc : Nat → Nat → Option Bool
/-- the meaning of the program's defs by number; constants; a call's arguments put in place -/
structure Gt where
  fn : Nat → List D → MH → R D
  cst : Nat → D
  bnd : Nat → List D → List D → Option (List D)
  why : Exn → Option D
  ci : Ci

/-- a slot: a value; a list of the frame's own; the new instance -/
inductive Sl where
  | val (d : D) | olst (xs : List D) | oins (C : Nat) (ns : List Nat) (ds : List D)
abbrev Fr := List (Option Sl)

/-! ### values -/
def isNonD : D → Bool
  | .non => true
  | _ => false
def truD : D → Option Bool
  | .non => some false
  | .bl b => some b
  | .int i => some (i != 0)
  | .str x => if x.length ≤ sizeLine then some ((x.length : Int) != 0) else none
  | .tup xs => some (!xs.isEmpty)
  | .lst xs => some (!xs.isEmpty)
  | .dct ks _ => some (!ks.isEmpty)
  | _ => none
/-- scalars: their equality is that of V -/
def sclV : D → Option V
  | .non => some .non
  | .bl b => some (.bl b)
  | .int i => some (.int i)
  | .str x => some (.str x)
  | _ => none
def divOk (j : Int) : Bool := decide (0 < j) && decide (j.natAbs.log2 < 9000)
def mulOk (i j : Int) : Bool := decide (i.natAbs.log2 + j.natAbs.log2 < 1000000)
def addD : D → D → Option D
  | .int i, .int j => some (.int (i + j))
  | .str x, .str y => if x.length + y.length ≤ sizeLine then some (.str (x ++ y)) else none
  | .lst xs, .lst ys => if xs.length + ys.length ≤ sizeLine then some (.lst (xs ++ ys)) else none
  | .tup xs, .tup ys => if xs.length + ys.length ≤ sizeLine then some (.tup (xs ++ ys)) else none
  | _, _ => none
/-- op=: no list -/
def augD (o : BO) (x y : D) : Option D := match o with
  | .add => match x, y with
    | .int i, .int j => some (.int (i + j))
    | .str x, .str y => if x.length + y.length ≤ sizeLine then some (.str (x ++ y)) else none
    | _, _ => none
  | .sub => match x, y with
    | .int i, .int j => some (.int (i - j))
    | _, _ => none
  | .mul => match x, y with
    | .int i, .int j => if mulOk i j = true then some (.int (i * j)) else none
    | _, _ => none
  | _ => none
def subD : D → D → Option D
  | .int i, .int j => some (.int (i - j))
  | _, _ => none
def mulD : D → D → Option D
  | .int i, .int j => if mulOk i j = true then some (.int (i * j)) else none
  | .lst xs, .int k => if -(2 ^ 63) ≤ k ∧ k < 2 ^ 63 ∧ xs.length * k.toNat ≤ sizeLine then some (.lst (List.replicate k.toNat xs).flatten) else none
  | .tup xs, .int k => if -1000 ≤ k ∧ k ≤ 1000 ∧ xs.length ≤ 1000 then some (.tup (List.replicate k.toNat xs).flatten) else none
  | _, _ => none
def fdivD : D → D → Option D
  | .int i, .int j => if divOk j = true then some (.int (i / j)) else none
  | _, _ => none
def modD : D → D → Option D
  | .int i, .int j => if 0 < j then some (.int (i % j)) else none
  | _, _ => none
def powD : D → D → Option D
  | .int i, .int j => if 0 ≤ j ∧ j ≤ 1000000 ∧ i.natAbs < 2 ^ 64 then some (.int (i ^ j.toNat)) else none
  | _, _ => none
def binD (o : BO) (x y : D) : Option D := match o with
  | .add => addD x y
  | .sub => subD x y
  | .mul => mulD x y
  | .fdiv => fdivD x y
  | .mod => modD x y
  | .pow => powD x y
def flatD : D → Bool
  | .bl _ => true
  | .int _ => true
  | .str _ => true
  | .non => true
  | _ => false
/-- Python's == on scalars -/
def eqS : D → D → Option Bool
  | .int i, .int j => some (decide (i = j))
  | .bl a, .bl b => some (decide (a = b))
  | .str x, .str y => some (decide (x = y))
  | _, _ => none
mutual
def pdOf : D → Option PyData
  | .non => some .none
  | .bl b => some (.bool b)
  | .int i => some (.int i)
  | .str x => some (.str x)
  | .tup xs => (pdAll xs).map .tuple
  | .lst xs => (pdAll xs).map .list
  | .fz xs => (pdAll xs).map .list
  | _ => none
def pdAll : List D → Option (List PyData)
  | [] => some []
  | x :: xs => match pdOf x, pdAll xs with
    | some d, some ds => some (d :: ds)
    | _, _ => none
end
def eqDeep (a b : D) : Option Bool := match pdOf a, pdOf b with
  | some d, some e => if (SeqAt.shaped d && SeqAt.shaped e) = true then some (PyData.eqv d e) else none
  | _, _ => none
def eqD (a b : D) : Option Bool := match eqS a b with
  | some z => some z
  | none => eqDeep a b
/-- == on flat values -/
def eqF : D → D → Bool
  | .non, .non => true
  | .bl a, .bl b => a == b
  | .bl a, .int b => (if a then 1 else 0) == b
  | .int a, .bl b => a == (if b then 1 else 0)
  | .int a, .int b => a == b
  | .str a, .str b => a == b
  | _, _ => false
def memF (x : D) (ys : List D) : Option Bool := if (flatD x && ys.all flatD) = true then some (ys.any fun y => eqF y x) else none
def memDeep (x : D) (ys : List D) : Option Bool := match pdOf x, pdAll ys with
  | some d, some ds => if (SeqAt.shaped d && SeqAt.shaped (.list ds)) = true then some (ds.any fun z => PyData.eqv z d) else none
  | _, _ => none
def memD (x y : D) : Option Bool := match y with
  | .str z => match x with
    | .str i => some (!(Builtin.Str.occurrences z i 0 z.length 1).isEmpty)
    | _ => none
  | .lst ys => match memF x ys with
    | some b => some b
    | none => memDeep x ys
  | .fz ys => match memF x ys with
    | some b => some b
    | none => memDeep x ys
  | .tup ys => match memF x ys with
    | some b => some b
    | none => memDeep x ys
  | _ => none
def ltD : D → D → Option D
  | .int i, .int j => some (.bl (decide (i < j)))
  | _, _ => none
def leD : D → D → Option D
  | .int i, .int j => some (.bl (decide (i ≤ j)))
  | _, _ => none
def cmpD (o : CO) (a b : D) : Option D := match o with
  | .eq => (eqD a b).map .bl
  | .ne => (eqD a b).map fun z => .bl (!z)
  | .lt => ltD a b
  | .le => leD a b
  | .gt => ltD b a
  | .ge => leD b a
  | .mem => (memD a b).map .bl
  | .nmem => (memD a b).map fun z => .bl (!z)
def seqD : D → MH → Option (List D)
  | .tup xs, _ => some xs
  | .lst xs, _ => some xs
  | .fz xs, _ => some xs
  | .ref n, m => match m[n]? with
    | some (.lst xs) => some xs
    | _ => none
  | _, _ => none
def insD : D → MH → Option (Nat × List Nat × List D)
  | .ins C ns ds, _ => some (C, ns, ds)
  | .ref n, m => match m[n]? with
    | some (.ins C ns ds) => some (C, ns, ds)
    | _ => none
  | _, _ => none
def itemsD : D → Option (List D)
  | .str x => some (x.cps.toList.map fun c => .str ⟨#[c]⟩)
  | .tup xs => some xs
  | .lst xs => some xs
  | .fz xs => some xs
  | _ => none
def idxD (x y : D) (m : MH) : Option D := match y with
  | .int i => match x with
    | .str z => if z.length ≤ sizeLine then (atI z.cps.toList i).map fun c => .str ⟨#[c]⟩ else none
    | x => match seqD x m with
      | some xs => atI xs i
      | none => none
  | _ => none
/-! ### texts -/
def strsD : List D → Option (List Str)
  | [] => some []
  | .str x :: ds => (strsD ds).map (x :: ·)
  | _ :: _ => none
def joinD (x : Str) (ds : List D) : Option D := match strsD ds with
  | some ys => if (ys.map (·.length)).sum + ys.length * x.length ≤ 16777216 then some (.str (Txt.join x ys)) else none
  | none => none
def m1D (k : M1) (x : Str) (y : D) (m : MH) : Option D := match k with
  | .partition => match y with
    | .str y => if (y.length == 0) = false ∧ x.length ≤ sizeLine then some (.tup [.str (Txt.partition x y).1, .str (Txt.partition x y).2.1, .str (Txt.partition x y).2.2]) else none
    | _ => none
  | .index => match y with
    | .str y => match Builtin.Str.occurrences x y 0 x.length 1 with
      | i :: _ => some (.int (i : Nat))
      | [] => none
    | _ => none
  | .split => match y with
    | .str y => if (y.length == 0) = false ∧ x.length + 2 ≤ sizeLine then some (.lst ((Txt.split x y).map .str)) else none
    | _ => none
  | .join => match seqD y m with
    | some ds => joinD x ds
    | none => none
def fmtD : D → Option D
  | .str y => if y.length ≤ sizeLine then some (.str y) else none
  | .int i => if i.natAbs.log2 < 1920 then some (.str (toString i)) else none
  | _ => none
def revD : D → Option D
  | .lst xs => some (.lst xs.reverse)
  | .fz xs => some (.lst xs.reverse)
  | _ => none
def optI : D → Option (Option Int)
  | .non => some none
  | .int i => some (some i)
  | _ => none
def cutD (xs : List D) (lo hi : Option Int) : List D := (xs.drop (HT.sIx xs.length 0 lo)).take (HT.sIx xs.length xs.length hi - HT.sIx xs.length 0 lo)
def slD : D → Option Int → Option Int → Option D
  | .lst xs, lo, hi => some (.lst (cutD xs lo hi))
  | .fz xs, lo, hi => some (.lst (cutD xs lo hi))
  | .tup xs, lo, hi => some (.tup (cutD xs lo hi))
  | .str z, lo, hi => if z.length ≤ sizeLine then some (.str (cutS z lo hi)) else none
  | _, _, _ => none
def lenD : D → MH → Option Nat
  | .str x, _ => if x.length ≤ sizeLine then some x.length else none
  | d, m => (seqD d m).map List.length
def blsD : List D → Option (List Bool)
  | [] => some []
  | .bl b :: ds => (blsD ds).map (b :: ·)
  | _ :: _ => none
def intsD : List D → Option (List Int)
  | [] => some []
  | .int i :: ds => (intsD ds).map (i :: ·)
  | _ :: _ => none
def lenB : List D → MH → Option D
  | [x], m => (lenD x m).map fun n => .int n
  | _, _ => none
def intB : List D → Option D
  | [.int i] => some (.int i)
  | [.bl b] => some (.int (if b then 1 else 0))
  | _ => none
def absB : List D → Option D
  | [.int i] => some (.int (if i < 0 then -i else i))
  | _ => none
def allB : List D → Option D
  | [.lst xs] => (blsD xs).map fun bs => .bl (bs.all id)
  | _ => none
def anyB : List D → Option D
  | [.lst xs] => (blsD xs).map fun bs => .bl (bs.any id)
  | _ => none
def kyD : Key → D
  | .inl i => .int i
  | .inr x => .str x
def listB : List D → MH → Option D
  | [x], m => match x with
    | .str z => if z.length ≤ sizeLine then some (.lst (z.cps.toList.map fun c => .str ⟨#[c]⟩)) else none
    | .dct ks _ => some (.lst (ks.map kyD))
    | x => (seqD x m).map .lst
  | _, _ => none
def tupleB : List D → MH → Option D
  | [.tup xs], _ => some (.tup xs)
  | [.lst xs], _ => some (.tup xs)
  | [.fz xs], _ => some (.tup xs)
  | [.ref n], m => match m[n]? with
    | some (.lst xs) => some (.tup xs)
    | _ => none
  | _, _ => none
def strB : List D → Option D
  | [.int i] => if i.natAbs.log2 < 1920 then some (.str (toString i)) else none
  | _ => none
def sumB : List D → Option D
  | [.lst xs] => (intsD xs).map fun ns => .int ns.sum
  | _ => none
def maxB : List D → Option D
  | [.int i, .int j] => some (.int (if j > i then j else i))
  | _ => none
def minB : List D → Option D
  | [.int i, .int j] => some (.int (if j < i then j else i))
  | _ => none
/-! sorted -/
def insI (x : Int) : List Int → List Int
  | [] => [x]
  | y :: ys => if x ≤ y then x :: y :: ys else y :: insI x ys
def srtI (xs : List Int) : List Int := xs.foldr insI []
def insS (x : Str) : List Str → List Str
  | [] => [x]
  | y :: ys => if PySem.Spec.ltCps y.cps.toList x.cps.toList = true then y :: insS x ys else x :: y :: ys
def srtS (xs : List Str) : List Str := xs.foldr insS []
def keyI : List Key → Option (List Int)
  | [] => some []
  | .inl i :: r => (keyI r).map (i :: ·)
  | .inr _ :: _ => none
def keyS : List Key → Option (List Str)
  | [] => some []
  | .inr x :: r => (keyS r).map (x :: ·)
  | .inl _ :: _ => none
def sortB : List D → Option D
  | [.lst xs] => match intsD xs with
    | some ns => some (.lst ((srtI ns).map .int))
    | none => none
  | [.dct ks _] => if ks.length < 64 then (match keyS ks with
    | some ys => some (.lst ((srtS ys).map .str))
    | none => match keyI ks with
      | some ns => some (.lst ((srtI ns).map .int))
      | none => none) else none
  | _ => none
def bltD (b : Bl) (ds : List D) (m : MH) : Option D := match b with
  | .len => lenB ds m
  | .int_ => intB ds
  | .abs => absB ds
  | .all => allB ds
  | .any => anyB ds
  | .list => listB ds m
  | .tuple => tupleB ds m
  | .str => strB ds
  | .sum => sumB ds
  | .max2 => maxB ds
  | .min2 => minB ds
  | .sorted => sortB ds
def isTy : D → MH → Ty → Option Bool
  | _, _, .cls _ => none
  | .non, _, _ => some false
  | .int _, _, t => some (match t with | .int => true | _ => false)
  | .bl _, _, t => some (match t with | .int => true | .bool => true | _ => false)
  | .str _, _, t => some (match t with | .str => true | _ => false)
  | .tup _, _, t => some (match t with | .tuple => true | _ => false)
  | .lst _, _, t => some (match t with | .list => true | _ => false)
  | .fz _, _, t => some (match t with | .list => true | _ => false)
  | .dct _ _, _, t => some (match t with | .dict => true | _ => false)
  | .ins _ _ _, _, _ => none
  | .cls _, _, _ => none
  | .ref n, m, t => match m[n]? with
    | some (.lst _) => some (match t with | .list => true | _ => false)
    | some (.dct _ _) => some (match t with | .dict => true | _ => false)
    | _ => none
def isTys (x : D) (m : MH) : List Ty → Option Bool
  | [] => some false
  | t :: ts => match isTy x m t with
    | some true => some true
    | some false => isTys x m ts
    | none => none
def whyR (wd : Exn → Option D) : R D → R D
  | .ok d m1 => .ok (.tup [.str "", d]) m1
  | .exc x m1 => match wd x with
    | some d => .ok d m1
    | none => .bad
  | .bad => .bad
def wipeF (fr : Fr) : List Nat → Fr
  | [] => fr
  | v :: vs => (wipeF fr vs).set v none
mutual
def tgD : Tg → D → Fr → Option Fr
  | .nm i, d, fr => some (fr.set i (some (.val d)))
  | .tup ts, .tup ds, fr => tgDs ts ds fr
  | .tup ts, .lst ds, fr => tgDs ts ds fr
  | _, _, _ => none
def tgDs : List Tg → List D → Fr → Option Fr
  | [], [], fr => some fr
  | t :: ts, d :: ds, fr => (tgD t d fr).bind (tgDs ts ds)
  | _, _, _ => none
end
def optR (o : Option D) (m : MH) : R D := match o with
  | some d => .ok d m
  | none => .bad
@[simp] theorem optR_some (d : D) (m : MH) : optR (some d) m = .ok d m := rfl
@[simp] theorem optR_none (m : MH) : optR none m = .bad := rfl
def isOk {α : Type} : R α → R α
  | .ok a m => .ok a m
  | _ => .bad
/-- the tests of a comprehension -/
def condGo : List (Fr → MH → R D) → Fr → MH → R Bool
  | [], _, m => .ok true m
  | c :: cs, fr, m => (isOk (c fr m)).bind fun x m1 => match truD x with
    | some true => condGo cs fr m1
    | some false => .ok false m1
    | none => .bad
mutual
def slots : Tg → List Nat
  | .nm i => [i]
  | .tup ts => slotss ts
def slotss : List Tg → List Nat
  | [] => []
  | t :: ts => slots t ++ slotss ts
end
def compGo (vs : List Nat) (tg : Tg) (cs : List (Fr → MH → R D)) (el : Fr → MH → R D) (fr : Fr) : List D → List D → MH → R (List D)
  | [], acc, m => .ok acc m
  | d :: ds, acc, m => match tgD tg d (wipeF fr vs) with
    | none => .bad
    | some fr2 => (condGo cs fr2 m).bind fun b m1 => if b then (isOk (el fr2 m1)).bind fun y m2 => if acc.length < sizeLine then compGo vs tg cs el fr ds (acc ++ [y]) m2 else .bad else compGo vs tg cs el fr ds acc m1
def rngI (lo hi : Int) : Option (List D) :=
  if -(2 ^ 62) ≤ lo ∧ lo < 2 ^ 62 ∧ -(2 ^ 62) ≤ hi ∧ hi < 2 ^ 62 then some ((List.range (hi - lo).toNat).map fun (n : Nat) => .int (lo + (n : Int))) else none
def rngD : D → D → Option (List D)
  | .int i, .int j => rngI i j
  | _, _ => none

def pairD (p : D × D) : D := .tup [p.1, p.2]
def zitD : D → Option (List D)
  | .str x => if x.cps.all (· < 128) = true then some (x.cps.toList.map fun c => .str ⟨#[c]⟩) else none
  | .tup xs => some xs
  | .lst xs => some xs
  | .fz xs => some xs
  | _ => none
def zipD (x y : D) : Option (List D) := match zitD x, zitD y with
  | some xs, some ys => some ((xs.zip ys).map pairD)
  | _, _ => none
def enmD (x : D) : Option (List D) := (zitD x).map fun xs => ((List.range xs.length).zip xs).map fun p => .tup [.int (p.1 : Nat), p.2]
/-! instances -/
def duD (k : Du) : D → Option D
  | .int n => match k with
    | .len => if 0 ≤ n ∧ n < 2 ^ 63 then some (.int n) else none
    | .repr => none
  | .str x => match k with
    | .repr => some (.str x)
    | .len => none
  | _ => none
/-- what may stand right of an own == -/
def eqY (C : Nat) : D → MH → Bool
  | .cls _, _ => false
  | .ins C' _ _, _ => C' == C
  | .ref n, m => match m[n]? with
    | some (.ins C' _ _) => C' == C
    | some _ => true
    | none => false
  | _, _ => true
def isCD (isc : Nat → Nat → Option Bool) (C : Nat) (m : MH) : D → Option Bool
  | .cls _ => none
  | .ins C' _ _ => isc C' C
  | .ref n => match m[n]? with
    | some (.ins C' _ _) => isc C' C
    | some _ => some false
    | none => none
  | _ => some false
/-! dict comprehensions -/
def keyD : D → Option Key
  | .int i => some (.inl i)
  | .str x => some (.inr x)
  | _ => none
def putG (acc : List (Key × D)) (k : Key) (d : D) : List (Key × D) :=
  if (acc.any fun kv => decide (kv.1 = k)) = true then acc.map (fun kv => if kv.1 = k then (kv.1, d) else kv) else acc ++ [(k, d)]
def dcGo (vs : List Nat) (tg : Tg) (ek el : Fr → MH → R D) (fr : Fr) : List D → List (Key × D) → MH → R (List (Key × D))
  | [], acc, m => .ok acc m
  | d :: ds, acc, m => match tgD tg d (wipeF fr vs) with
    | none => .bad
    | some fr2 => (isOk (ek fr2 m)).bind fun y m1 => (isOk (el fr2 m1)).bind fun z m2 => match keyD y with
      | some k => if acc.length < sizeLine then dcGo vs tg ek el fr ds (putG acc k z) m2 else .bad
      | none => .bad
/-! ### the meaning -/
section
variable (G : Gt)
mutual
def ev : E → Fr → MH → R D
  | .k d, _, m => .ok d m
  | .loc i, fr, m => match fr[i]? with
    | some (some (.val d)) => .ok d m
    | _ => .bad
  | .own i, fr, m => match fr[i]? with
    | some (some (.val d)) => .ok d m
    | some (some (.olst xs)) => .ok (.lst xs) m
    | _ => .bad
  | .cst g, _, m => .ok (G.cst g) m
  | .bin o a b, fr, m => (ev a fr m).bind fun x m1 => (ev b fr m1).bind fun y m2 => optR (binD o x y) m2
  | .neg a, fr, m => (ev a fr m).bind fun x m1 => match x with
    | .int i => .ok (.int (-i)) m1
    | _ => .bad
  | .cmp o a b, fr, m => (ev a fr m).bind fun x m1 => (ev b fr m1).bind fun y m2 => optR (cmpD o x y) m2
  | .chain o p a b c, fr, m => (ev a fr m).bind fun x m1 => (ev b fr m1).bind fun y m2 => match cmpD o x y with
    | some (.bl true) => (ev c fr m2).bind fun z m3 => optR (cmpD p y z) m3
    | some (.bl false) => .ok (.bl false) m2
    | _ => .bad
  | .isN a, fr, m => (ev a fr m).bind fun x m1 => .ok (.bl (isNonD x)) m1
  | .notN a, fr, m => (ev a fr m).bind fun x m1 => .ok (.bl (!isNonD x)) m1
  | .andv a b, fr, m => (ev a fr m).bind fun x m1 => match truD x with
    | some true => ev b fr m1
    | some false => .ok x m1
    | none => .bad
  | .orv a b, fr, m => (ev a fr m).bind fun x m1 => match truD x with
    | some true => .ok x m1
    | some false => ev b fr m1
    | none => .bad
  | .notv a, fr, m => (ev a fr m).bind fun x m1 => match truD x with
    | some t => .ok (.bl (!t)) m1
    | none => .bad
  | .ite c a b, fr, m => (ev c fr m).bind fun x m1 => match truD x with
    | some true => ev a fr m1
    | some false => ev b fr m1
    | none => .bad
  | .tup es, fr, m => (evs es fr m).bind fun ds m1 => if ds.length ≤ sizeLine then .ok (.tup ds) m1 else .bad
  | .lst es, fr, m => (evs es fr m).bind fun ds m1 => if ds.length ≤ sizeLine then .ok (.lst ds) m1 else .bad
  | .idx a i, fr, m => (ev a fr m).bind fun x m1 => (ev i fr m1).bind fun y m2 => optR (idxD x y m2) m2
  | .sl a lo hi, fr, m => (ev a fr m).bind fun x m1 => (ev lo fr m1).bind fun l m2 => match optI l with
    | some l => (ev hi fr m2).bind fun h m3 => match optI h with
      | some h => optR (slD x l h) m3
      | none => .bad
    | none => .bad
  | .fld a f, fr, m => (ev a fr m).bind fun x m1 => match insD x m1 with
    | some (C, ns, ds) => match G.ci.pr C f with
      | some (some g) => isOk (G.fn g [x] m1)
      | some none => match (ns.zip ds).lookup f with
        | some d => .ok d m1
        | none => .bad
      | none => .bad
    | none => .bad
  | .mth f a es, fr, m => (ev a fr m).bind fun x m1 => match insD x m1 with
    | some (C, ns, _) => match G.ci.mt C f with
      | some g => if ns.contains f = true then .bad else (evs es fr m1).bind fun ds m2 => G.fn g (x :: ds) m2
      | none => .bad
    | none => .bad
  | .mthK f b a es ks, fr, m => (ev a fr m).bind fun x m1 => match insD x m1 with
    | some (C, ns, _) => match G.ci.mt C f with
      | some g => if ns.contains f = true then .bad else (evs es fr m1).bind fun ds m2 => (evs ks fr m2).bind fun zs m3 => match G.bnd b (x :: ds) zs with
        | some as => G.fn g as m3
        | none => .bad
      | none => .bad
    | none => .bad
  | .dun k f a, fr, m => (ev a fr m).bind fun x m1 => match insD x m1 with
    | some (C, _, _) => match G.ci.mt C f with
      | some g => (isOk (G.fn g [x] m1)).bind fun d m2 => optR (duD k d) m2
      | none => .bad
    | none => .bad
  | .eqI ng f a b, fr, m => (ev a fr m).bind fun x m1 => (ev b fr m1).bind fun y m2 => match insD x m2 with
    | some (C, _, _) => match G.ci.mt C f with
      | some g => if eqY C y m2 = true then (isOk (G.fn g [x, y] m2)).bind fun d m3 => match d with
        | .bl t => .ok (.bl (xor ng t)) m3
        | _ => .bad
        else .bad
      | none => .bad
    | none => optR ((eqD x y).map fun t => .bl (xor ng t)) m2
  | .isC a C, fr, m => (ev a fr m).bind fun x m1 => optR ((isCD G.ci.isc C m1 x).map .bl) m1
  | .enm a, fr, m => (ev a fr m).bind fun x m1 => match enmD x with
    | some xs => .ok (.lst xs) m1
    | none => .bad
  | .dcomp vs tg it ek el, fr, m => (ev it fr m).bind fun x m1 => match itemsD x with
    | some xs => (dcGo vs tg (ev ek) (ev el) fr xs [] m1).bind fun acc m2 => .ok (.dct (acc.map (·.1)) (acc.map (·.2))) m2
    | none => .bad
  | .call f es, fr, m => (evs es fr m).bind fun ds m1 => G.fn f ds m1
  | .callL i C f es, fr, m => match fr[i]? with
    | some (some (.val (.cls C'))) => if C' = C then (evs es fr m).bind fun ds m1 => G.fn f ds m1 else .bad
    | _ => .bad
  | .callK f b es ks, fr, m => (evs es fr m).bind fun ds m1 => (evs ks fr m1).bind fun zs m2 => match G.bnd b ds zs with
    | some as => G.fn f as m2
    | none => .bad
  | .blt b es, fr, m => (evs es fr m).bind fun ds m1 => optR (bltD b ds m1) m1
  | .isi a ts, fr, m => (ev a fr m).bind fun x m1 => optR ((isTys x m1 ts).map .bl) m1
  | .prt a, fr, m => (ev a fr m).bind fun x m1 => match x with
    | .int i => .ok (.int i) m1
    | _ => .bad
  | .comp vs tg it cs el, fr, m => (ev it fr m).bind fun x m1 => match itemsD x with
    | some xs => (compGo vs tg (evc cs) (ev el) fr xs [] m1).bind fun ys m2 => .ok (.lst ys) m2
    | none => .bad
  | .rng1 b, fr, m => (ev b fr m).bind fun y m1 => match rngD (.int 0) y with
    | some xs => .ok (.lst xs) m1
    | none => .bad
  | .rng2 a b, fr, m => (ev a fr m).bind fun x m1 => (ev b fr m1).bind fun y m2 => match rngD x y with
    | some xs => .ok (.lst xs) m2
    | none => .bad
  | .zip a b, fr, m => (ev a fr m).bind fun x m1 => (ev b fr m1).bind fun y m2 => match zipD x y with
    | some xs => .ok (.lst xs) m2
    | none => .bad
  | .why b, fr, m => whyR G.why (ev b fr m)
  | .m1 k a b, fr, m => (ev a fr m).bind fun x m1 => match x with
    | .str z => (ev b fr m1).bind fun y m2 => optR (m1D k z y m2) m2
    | _ => .bad
  | .fmt a, fr, m => (ev a fr m).bind fun x m1 => optR (fmtD x) m1
  | .fs es, fr, m => evf es Str.empty fr m
  | .rev a, fr, m => (ev a fr m).bind fun x m1 => optR (revD x) m1
/-- the parts of an f-string, one behind the other -/
def evf : List E → Str → Fr → MH → R D
  | [], acc, _, m => .ok (.str acc) m
  | e :: es, acc, fr, m => (ev e fr m).bind fun x m1 => match x with
    | .str y => if (acc ++ y).length ≤ sizeLine then evf es (acc ++ y) fr m1 else .bad
    | _ => .bad
def evs : List E → Fr → MH → R (List D)
  | [], _, m => .ok [] m
  | e :: es, fr, m => (ev e fr m).bind fun x m1 => (evs es fr m1).bind fun xs m2 => .ok (x :: xs) m2
def evc : List E → List (Fr → MH → R D)
  | [] => []
  | e :: es => ev e :: evc es
end
end
end Mp
end
section
set_option Elab.async false
set_option linter.all false
set_option maxRecDepth 100000
set_option maxHeartbeats 4000000
/-! MpTup: a tuple times any small number. -/
namespace L2
open PySem PySem.Spec PyProof.Rows
theorem tuple_mulSame (l : Addr) (items : Array Value) (n : Nat) (dd : Option Addr) (sl : Array (Option Value)) (x : Int) (u : Tok) (c0 : (decide (x < -(2 ^ 63)) || decide (x ≥ 2 ^ 63)) = false) (c1 : (items.isEmpty || x == 1) = true) :
    Meets (Builtin.«tuple.__mul__» ⟨[.ref l, .int x u], []⟩) (fun _ R s => s.heap.get? l = some { cls := .type "tuple", dict := dd, data := .seq items n, slots := sl } ∧ R (.ok (.ret (Value.ref l))) s) :=
  .of_wp fun prog w A R s h => by
    obtain ⟨hp, g, d, tk, os⟩ := s
    obtain ⟨hl, h⟩ := h
    have f1 := AutoSeq1.idx_int
    wp_walk using wpAny_loadPart' hl
    repeat (first
      | (refine wpAny_ite_false (decide_eq_false (by rw [c0]; exact Bool.false_ne_true)) ?_; wp_walk using wpAny_loadPart' hl)
      | (refine wpAny_ite_true (decide_eq_true c1) ?_; wp_walk using wpAny_loadPart' hl))
    exact ⟨_, rfl, h⟩
theorem tuple_mulNone (l : Addr) (items : Array Value) (n : Nat) (dd : Option Addr) (sl : Array (Option Value)) (x : Int) (u : Tok) (c0 : (decide (x < -(2 ^ 63)) || decide (x ≥ 2 ^ 63)) = false) (c1 : (items.isEmpty || x == 1) = false) (c2 : (decide (x ≤ 0) || items.isEmpty) = true) :
    Meets (Builtin.«tuple.__mul__» ⟨[.ref l, .int x u], []⟩) (fun _ R s => s.heap.get? l = some { cls := .type "tuple", dict := dd, data := .seq items n, slots := sl } ∧
      R (.ok (.ret (Value.ref s.heap.objs.size))) { s with heap := s.heap.push { cls := Value.type "tuple", data := Data.seq #[] }, toks := s.toks }) :=
  .of_wp fun prog w A R s h => by
    obtain ⟨hp, g, d, tk, os⟩ := s
    obtain ⟨hl, h⟩ := h
    have f1 := AutoSeq1.idx_int
    wp_walk using wpAny_loadPart' hl
    repeat (first
      | (refine wpAny_ite_false (decide_eq_false (by rw [c0]; exact Bool.false_ne_true)) ?_; wp_walk using wpAny_loadPart' hl)
      | (refine wpAny_ite_false (decide_eq_false (by rw [c1]; exact Bool.false_ne_true)) ?_; wp_walk using wpAny_loadPart' hl)
      | (refine wpAny_ite_true (decide_eq_true c2) ?_; wp_walk using wpAny_loadPart' hl))
    exact ⟨_, rfl, h⟩
/-- a tuple times k, k at most 1000 -/
def rRepA (K : PySem.W.Frag) : R2 := fun x y H Q => ∃ l k xs, x = .ref l ∧ y = .int k ∧ SqT K H l xs ∧ -1000 ≤ k ∧ k ≤ 1000 ∧ xs.length ≤ 1000 ∧ (xs = [] ∨ k = 1 → Q (.ref l) H) ∧ (¬ (xs = [] ∨ k = 1) → ∀ p, H p = none → Q (.ref p) (upd H p (.tup (List.replicate k.toNat xs).flatten)))
section
variable {X : Cx}
theorem op_repA : OpR X (binaryOp .Mult) (rRepA X.K) := by
  intro pins s σ H x y v u Q I rx ry h
  obtain ⟨l, k, xs, rfl, rfl, hT, h1, h2, hz, q1, q2⟩ := h
  by_cases hbig : xs ≠ [] ∧ 2 ≤ k
  · exact op_repT pins s σ H _ _ v u Q I rx ry ⟨l, k, xs, rfl, rfl, hT, hbig.1, hbig.2, h2, hz, q2 (fun z => z.elim hbig.1 (by omega))⟩
  cases rx
  obtain ⟨t, rfl⟩ := ry
  obtain ⟨its, r, ⟨⟨cls, dd, data, sl⟩, ho, hc, n, hd⟩, hs⟩ := I.tuple hT
  simp only at hc hd
  subst hc hd
  have hle : its.length = xs.length := r.length.symm
  have c0 : (decide (k < -(2 ^ 63)) || decide (k ≥ 2 ^ 63)) = false := by
    rw [decide_eq_false (by omega), decide_eq_false (by omega)] <;> rfl
  have em : its = [] ↔ xs = [] := by
    rw [← List.length_eq_zero_iff, ← List.length_eq_zero_iff, hle]
  by_cases hsame : xs = [] ∨ k = 1
  · have c1 : (its.toArray.isEmpty || k == 1) = true := by
      rw [Bool.or_eq_true]
      rcases hsame with e | e
      · left; rw [em.mpr e]; rfl
      · right; rw [e]; rfl
    refine wpAny_binaryOp_repeat_ref (T := "tuple") (U := "int") (by decide) ⟨_, ho, rfl⟩ (fun s' => typeIs_int s' k t) noFill_tuple_mul F.fills_int_mul F.slot_int_rmul repeat_tuple F.slot_int_index.lookup
      (call_meets F.slot_int_rmul (typeIs_int s k t) F.entry_int_rmul (F.args_int_rmul_2 _ _) (int_rmul_tuple k t l its.toArray n dd sl)
        ⟨ho, rfl, ⟨_, ho, rfl⟩, call_meets F.slot_tuple_mul ⟨_, ho, rfl⟩ F.entry_tuple_mul (F.args_tuple_mul_2 _ _) (tuple_mulSame l its.toArray n dd sl k t c0 c1) ⟨ho, ?_⟩⟩)
    exact ⟨.ref l, H, I, rfl, q1 hsame⟩
  · have hx : xs ≠ [] := fun e => hsame (.inl e)
    have hk : k ≤ 0 := by
      have a1 : ¬ 2 ≤ k := fun z => hbig ⟨hx, z⟩
      have a2 : k ≠ 1 := fun e => hsame (.inr e)
      omega
    have hn : its ≠ [] := fun e => hx (em.mp e)
    have hi : its.toArray.isEmpty = false := by
      cases its with
      | nil => exact absurd rfl hn
      | cons a b => rfl
    have c1 : (its.toArray.isEmpty || k == 1) = false := by
      rw [hi, Bool.false_or]
      exact beq_eq_false_iff_ne.mpr (by omega)
    have c2 : (decide (k ≤ 0) || its.toArray.isEmpty) = true := by
      rw [decide_eq_true hk]
      rfl
    refine wpAny_binaryOp_repeat_ref (T := "tuple") (U := "int") (by decide) ⟨_, ho, rfl⟩ (fun s' => typeIs_int s' k t) noFill_tuple_mul F.fills_int_mul F.slot_int_rmul repeat_tuple F.slot_int_index.lookup
      (call_meets F.slot_int_rmul (typeIs_int s k t) F.entry_int_rmul (F.args_int_rmul_2 _ _) (int_rmul_tuple k t l its.toArray n dd sl)
        ⟨ho, rfl, ⟨_, ho, rfl⟩, call_meets F.slot_tuple_mul ⟨_, ho, rfl⟩ F.entry_tuple_mul (F.args_tuple_mul_2 _ _) (tuple_mulNone l its.toArray n dd sl k t c0 c1 c2) ⟨ho, ?_⟩⟩)
    have e0 : k.toNat = 0 := by omega
    have q := q2 hsame
    rw [e0] at q
    refine ⟨.ref s.heap.objs.size, _, I.laid (t' := s.toks) (o := .tup (List.replicate 0 xs).flatten) (fun b ob q => Heap.get?_push_of_some _ q) (Nat.le_refl _) ?_, rfl, q _ (I.hok.fresh (Nat.le_refl _))⟩
    exact ⟨Nat.zero_le _, [], .nil, IsTup.new _ _⟩
end
end L2
end
section
set_option Elab.async false
set_option linter.all false
set_option maxRecDepth 100000
set_option maxHeartbeats 1000000
/-! MpSound: the meaning is what the machine does (expressions). -/
namespace Mp
open PySem PySem.Spec PyProof.Rows L2

/-- what a slot bears -/
def RSl (S : Sta) (ow : Addr → Prop) (io : List Addr) (H : Hp) : Sl → V → Prop
  | .val d, v => RV S ow io H d v
  | .olst xs, v => ∃ a vs, v = .ref a ∧ H a = some (.lst vs) ∧ RVs S ow io H xs vs ∧ ow a ∧ a ∉ io
  | .oins C ns ds, v => ∃ a dx fs, v = .ref a ∧ H a = some (.ins (S.ca C) dx fs) ∧ fs.map (·.1) = ns.map S.nm ∧ RVs S ow io H ds (fs.map (·.2)) ∧ (ow a ∧ a = S.slf) ∧ a ∉ io
/-- the frame's slots -/
def RF (S : Sta) (ow : Addr → Prop) (io : List Addr) (H : Hp) (fr : Fr) (σ : L2.St) : Prop :=
  fr.length ≤ σ.length ∧ ∀ (i : Nat) (d : Sl), fr[i]? = some (some d) → ∃ v, σ[i]? = some (some v) ∧ RSl S ow io H d v
/-- fields -/
def RFs (S : Sta) (ow : Addr → Prop) (io : List Addr) (H : Hp) (ns : List Nat) (ds : List D) (fs : List (Str × V)) : Prop :=
  fs.map (·.1) = ns.map S.nm ∧ RVs S ow io H ds (fs.map (·.2))
/-- all that is known -/
structure Rp (S : Sta) (ow : Addr → Prop) (io : List Addr) (H : Hp) (fr : Fr) (m : MH) (σ : L2.St) : Prop where
  h : RH S ow io H m
  f : RF S ow io H fr σ
  o : ∀ a, ow a → ¬ NT H a
/-- what is wanted of an answer -/
def Post (S : Sta) (W : WX) (ow : Addr → Prop) (io : List Addr) (H : Hp) (σ : L2.St) (Q : VK) : R D → Prop
  | .ok d m' => ∀ io' H' v, Ex io H io' H' → RH S ow io' H' m' → RV S ow io' H' d v → Q v H'
  | .exc x m' => ∀ io' H' dx fs, Ex io H io' H' → RH S ow io' H' m' → H' dx = some (.xd fs) → dx ∉ io' → ¬ ow dx → RFs S ow io' H' x.ns x.ds fs → W (.ref (S.ca x.c)) (some dx) σ H'
  | .bad => False
/-- the same of a list of answers -/
def Posts (S : Sta) (W : WX) (ow : Addr → Prop) (io : List Addr) (H : Hp) (σ : L2.St) (Q : List V → Hp → Prop) : R (List D) → Prop
  | .ok ds m' => ∀ io' H' vs, Ex io H io' H' → RH S ow io' H' m' → RVs S ow io' H' ds vs → Q vs H'
  | .exc x m' => ∀ io' H' dx fs, Ex io H io' H' → RH S ow io' H' m' → H' dx = some (.xd fs) → dx ∉ io' → ¬ ow dx → RFs S ow io' H' x.ns x.ds fs → W (.ref (S.ca x.c)) (some dx) σ H'
  | .bad => False
abbrev Fe := Fr → MH → R D
abbrev Fes := Fr → MH → R (List D)
/-- the reading of an expression that means f -/
def tR (S : Sta) (W : WX) (f : Fe) : TE := fun σ H Q => ∃ ow io fr m, Rp S ow io H fr m σ ∧ Post S W ow io H σ Q (f fr m)
def tRs (S : Sta) (W : WX) (f : Fes) : TA := fun σ H Q => ∃ ow io fr m, Rp S ow io H fr m σ ∧ Posts S W ow io H σ Q (f fr m)
/-- of a test -/
def tB' (S : Sta) (W : WX) (f : Fe) : TT := fun σ H Q => ∃ ow io fr m, Rp S ow io H fr m σ ∧ Post S W ow io H σ (fun v H' => ∀ b, v = .bl b → Q b H') ((f fr m).bind fun x m1 => match truD x with | some b => .ok (.bl b) m1 | none => .bad)

theorem PE.imp {X : Cx} {e : Expr} {t t' : TE} (h : PE X e t) (i : ∀ σ H Q, t' σ H Q → t σ H Q) : PE X e t' := ⟨fun pins s σ H Q I q => h.run pins s σ H Q I (i _ _ _ q)⟩
theorem PT.imp {X : Cx} {e : Expr} {t t' : TT} (h : PT X e t) (i : ∀ σ H Q, t' σ H Q → t σ H Q) : PT X e t' := ⟨fun pins s σ H Q I q => h.run pins s σ H Q I (i _ _ _ q)⟩
theorem PA.imp {X : Cx} {es : List Expr} {t t' : TA} (h : PA X es t) (i : ∀ σ H Q, t' σ H Q → t σ H Q) : PA X es t' := ⟨fun p pins s σ H Q I q => h.run p pins s σ H Q I (i _ _ _ q)⟩
theorem PS.imp {X : Cx} {e : Stmt} {t t' : TS} (h : PS X e t) (i : ∀ D σ H, t' D σ H → t D σ H) : PS X e t' := ⟨fun pins s σ H D I q => h.run pins s σ H D I (i _ _ _ q)⟩
theorem PSs.imp {X : Cx} {e : List Stmt} {t t' : TS} (h : PSs X e t) (i : ∀ D σ H, t' D σ H → t D σ H) : PSs X e t' := ⟨fun pins s σ H D I q => h.run pins s σ H D I (i _ _ _ q)⟩

section
variable {S : Sta} {W : WX} {ow : Addr → Prop} {io io1 : List Addr} {H H1 : Hp} {σ : L2.St} {Q : VK} {fr : Fr} {m m1 : MH}
theorem RSl.ex {s : Sl} {v : V} (x : Ex io H io1 H1) (o : ∀ a, ow a → ¬ NT H a) (h : RSl S ow io H s v) : RSl S ow io1 H1 s v := by
  cases s with
  | val d => exact RV.ex x h
  | olst xs =>
    obtain ⟨a, vs, rfl, g1, g2, g3, g4⟩ := h
    refine ⟨a, vs, rfl, x.keep a _ g1 True.intro g4, g2.ex x, g3, fun z => o a g3 (x.new a z g4)⟩
  | oins C ns ds =>
    obtain ⟨a, dx, fs, rfl, g1, g2, g3, g4, g5⟩ := h
    exact ⟨a, dx, fs, rfl, x.keep a _ g1 True.intro g5, g2, g3.ex x, g4, fun z => o a g4.1 (x.new a z g5)⟩
theorem Rp.ex (r : Rp S ow io H fr m σ) (x : Ex io H io1 H1) (h : RH S ow io1 H1 m1) : Rp S ow io1 H1 fr m1 σ :=
  ⟨h, ⟨r.f.1, fun i d e => let ⟨v, e1, q⟩ := r.f.2 i d e; ⟨v, e1, q.ex x r.o⟩⟩, fun a o z => r.o a o (x.dom a z)⟩
theorem Post.move {r : R D} (p : Post S W ow io H σ Q r) (x : Ex io H io1 H1) : Post S W ow io1 H1 σ Q r := by
  cases r with
  | ok d m' => exact fun io' H' v y h q => p io' H' v (x.trans y) h q
  | exc e m' => exact fun io' H' dx fs y h a b c d => p io' H' dx fs (x.trans y) h a b c d
  | bad => exact p
theorem Posts.move {Q : List V → Hp → Prop} {r : R (List D)} (p : Posts S W ow io H σ Q r) (x : Ex io H io1 H1) : Posts S W ow io1 H1 σ Q r := by
  cases r with
  | ok d m' => exact fun io' H' v y h q => p io' H' v (x.trans y) h q
  | exc e m' => exact fun io' H' dx fs y h a b c d => p io' H' dx fs (x.trans y) h a b c d
  | bad => exact p
/-- one part, then the rest -/
theorem Post.seq {r : R D} {k : D → MH → R D} {Q1 : VK} (p : Post S W ow io H σ Q (r.bind k))
    (st : ∀ x m1 io1 H1 v, Ex io H io1 H1 → RH S ow io1 H1 m1 → RV S ow io1 H1 x v → Post S W ow io1 H1 σ Q (k x m1) → Q1 v H1) : Post S W ow io H σ Q1 r := by
  cases r with
  | ok d m' => exact fun io' H' v y h q => st d m' io' H' v y h q (p.move y)
  | exc e m' => exact p
  | bad => exact p
theorem Post.seqs {r : R (List D)} {k : List D → MH → R D} {Q1 : List V → Hp → Prop} (p : Post S W ow io H σ Q (r.bind k))
    (st : ∀ x m1 io1 H1 v, Ex io H io1 H1 → RH S ow io1 H1 m1 → RVs S ow io1 H1 x v → Post S W ow io1 H1 σ Q (k x m1) → Q1 v H1) : Posts S W ow io H σ Q1 r := by
  cases r with
  | ok d m' => exact fun io' H' v y h q => st d m' io' H' v y h q (p.move y)
  | exc e m' => exact p
  | bad => exact p
theorem Posts.seq {r : R D} {k : D → MH → R (List D)} {Q : List V → Hp → Prop} {Q1 : VK} (p : Posts S W ow io H σ Q (r.bind k))
    (st : ∀ x m1 io1 H1 v, Ex io H io1 H1 → RH S ow io1 H1 m1 → RV S ow io1 H1 x v → Posts S W ow io1 H1 σ Q (k x m1) → Q1 v H1) : Post S W ow io H σ Q1 r := by
  cases r with
  | ok d m' => exact fun io' H' v y h q => st d m' io' H' v y h q (p.move y)
  | exc e m' => exact p
  | bad => exact p
theorem Posts.seqs {r : R (List D)} {k : List D → MH → R (List D)} {Q Q1 : List V → Hp → Prop} (p : Posts S W ow io H σ Q (r.bind k))
    (st : ∀ x m1 io1 H1 v, Ex io H io1 H1 → RH S ow io1 H1 m1 → RVs S ow io1 H1 x v → Posts S W ow io1 H1 σ Q (k x m1) → Q1 v H1) : Posts S W ow io H σ Q1 r := by
  cases r with
  | ok d m' => exact fun io' H' v y h q => st d m' io' H' v y h q (p.move y)
  | exc e m' => exact p
  | bad => exact p
/-- an answer that is here -/
theorem Post.here {d : D} {v : V} (p : Post S W ow io H σ Q (.ok d m)) (h : RH S ow io H m) (q : RV S ow io H d v) : Q v H := p io H v (.refl _ _) h q
/-- an answer that is laid anew -/
theorem Post.laid {d : D} {a : Addr} {o : HO} (p : Post S W ow io H σ Q (.ok d m)) (h : RH S ow io H m) (hp : H a = none) (q : RV S ow io (upd H a o) d (.ref a)) : Q (.ref a) (upd H a o) :=
  p io _ _ (.fresh hp) (h.fresh hp) q
end

/-! ### what data bear, kind by kind -/
section
variable {S : Sta} {ow : Addr → Prop} {io : List Addr} {H : Hp} {v : V}
theorem RV.of_int {i : Int} (h : RV S ow io H (.int i) v) : v = .int i := by unfold RV at h; exact h
theorem RV.of_bl {b : Bool} (h : RV S ow io H (.bl b) v) : v = .bl b := by unfold RV at h; exact h
theorem RV.of_str {x : Str} (h : RV S ow io H (.str x) v) : v = .str x := by unfold RV at h; exact h
theorem RV.of_non (h : RV S ow io H .non v) : v = .non := by unfold RV at h; exact h
theorem RV.mk_int {i : Int} : RV S ow io H (.int i) (.int i) := by unfold RV; rfl
theorem RV.mk_bl {b : Bool} : RV S ow io H (.bl b) (.bl b) := by unfold RV; rfl
theorem RV.mk_str {x : Str} : RV S ow io H (.str x) (.str x) := by unfold RV; rfl
theorem RV.mk_non : RV S ow io H .non .non := by unfold RV; rfl
theorem RV.of_tup {xs : List D} (h : RV S ow io H (.tup xs) v) : ∃ a vs, v = .ref a ∧ SqT S.K H a vs ∧ RVs S ow io H xs vs := by
  unfold RV at h
  obtain ⟨a, vs, e, r, q⟩ := h
  exact ⟨a, vs, e, r.imp (fun z => z.1) id, q⟩
theorem RV.of_lst {xs : List D} (h : RV S ow io H (.lst xs) v) : ∃ a vs, v = .ref a ∧ H a = some (.lst vs) ∧ RVs S ow io H xs vs := by
  unfold RV at h
  obtain ⟨a, vs, e, r, q⟩ := h
  exact ⟨a, vs, e, r.1, q⟩
theorem RV.of_fz {xs : List D} (h : RV S ow io H (.fz xs) v) : ∃ a vs, v = .ref a ∧ SqL S.K H a vs ∧ RVs S ow io H xs vs := by
  unfold RV at h
  obtain ⟨a, vs, e, r, q⟩ := h
  exact ⟨a, vs, e, r.imp (fun z => z.1) id, q⟩
theorem RV.of_dct {ks : List Key} {xs : List D} (h : RV S ow io H (.dct ks xs) v) : ∃ a kvs, v = .ref a ∧ H a = some (.dK kvs) ∧ kvs.map (·.1) = ks ∧ RVs S ow io H xs (kvs.map (·.2)) := by
  unfold RV at h
  obtain ⟨a, vs, e, r, q⟩ := h
  exact ⟨a, vs, e, r.1, q⟩
theorem RV.of_ins {C : Nat} {ns : List Nat} {xs : List D} (h : RV S ow io H (.ins C ns xs) v) : ∃ a dx fs, v = .ref a ∧ H a = some (.ins (S.ca C) dx fs) ∧ RFs S ow io H ns xs fs := by
  unfold RV at h
  obtain ⟨a, dx, fs, e, r, q1, q⟩ := h
  exact ⟨a, dx, fs, e, r.1, q1, q⟩
theorem RV.of_ref {m : MH} {n : Nat} (h : RV S ow io H (.ref n) v) (r : RH S ow io H m) {o : MO} (e : m[n]? = some o) : ∃ a, v = .ref a ∧ io[n]? = some a ∧ RO S ow io H a o := by
  unfold RV at h
  obtain ⟨a, e1, e2⟩ := h
  obtain ⟨b, q1, q2, _⟩ := r.at_ n o e
  rw [e2] at q1
  cases q1
  exact ⟨a, e1, e2, q2⟩
/-- .. or a list that the frame owns, to be read -/
def RVo (S : Sta) (ow : Addr → Prop) (io : List Addr) (H : Hp) : D → V → Prop
  | .lst xs, v => ∃ a vs, v = .ref a ∧ H a = some (.lst vs) ∧ a ∉ io ∧ RVs S ow io H xs vs
  | d, v => RV S ow io H d v
theorem RV.o {d : D} (h : RV S ow io H d v) : RVo S ow io H d v := by
  cases d with
  | lst xs =>
    unfold RV at h
    obtain ⟨a, vs, e, r, q⟩ := h
    exact ⟨a, vs, e, r.1, r.2.1, q⟩
  | _ => exact h
theorem RVo.ex {io' : List Addr} {H' : Hp} {d : D} (x : Ex io H io' H') (h : RVo S ow io H d v) : RVo S ow io' H' d v := by
  cases d with
  | lst xs =>
    obtain ⟨a, vs, e, h1, h2, q⟩ := h
    exact ⟨a, vs, e, x.keep a _ h1 True.intro h2, fun z => x.new a z h2 _ h1 True.intro, q.ex x⟩
  | _ => exact RV.ex x h
theorem RVo.of_int {i : Int} (h : RVo S ow io H (.int i) v) : v = .int i := RV.of_int (show RV S ow io H (.int i) v from h)
theorem RVo.of_bl {b : Bool} (h : RVo S ow io H (.bl b) v) : v = .bl b := RV.of_bl (show RV S ow io H (.bl b) v from h)
theorem RVo.of_str {x : Str} (h : RVo S ow io H (.str x) v) : v = .str x := RV.of_str (show RV S ow io H (.str x) v from h)
theorem RVo.of_non (h : RVo S ow io H .non v) : v = .non := RV.of_non (show RV S ow io H .non v from h)
theorem RVo.of_tup {xs : List D} (h : RVo S ow io H (.tup xs) v) : ∃ a vs, v = .ref a ∧ SqT S.K H a vs ∧ RVs S ow io H xs vs := RV.of_tup (show RV S ow io H (.tup xs) v from h)
theorem RVo.of_lst {xs : List D} (h : RVo S ow io H (.lst xs) v) : ∃ a vs, v = .ref a ∧ H a = some (.lst vs) ∧ RVs S ow io H xs vs := by
  obtain ⟨a, vs, e, h1, h2, q⟩ := h
  exact ⟨a, vs, e, h1, q⟩
theorem RVo.of_fz {xs : List D} (h : RVo S ow io H (.fz xs) v) : ∃ a vs, v = .ref a ∧ SqL S.K H a vs ∧ RVs S ow io H xs vs := RV.of_fz (show RV S ow io H (.fz xs) v from h)
theorem RVo.of_dct {ks : List Key} {xs : List D} (h : RVo S ow io H (.dct ks xs) v) : ∃ a kvs, v = .ref a ∧ H a = some (.dK kvs) ∧ kvs.map (·.1) = ks ∧ RVs S ow io H xs (kvs.map (·.2)) := RV.of_dct (show RV S ow io H (.dct ks xs) v from h)
theorem RVo.of_ins {C : Nat} {ns : List Nat} {xs : List D} (h : RVo S ow io H (.ins C ns xs) v) : ∃ a dx fs, v = .ref a ∧ H a = some (.ins (S.ca C) dx fs) ∧ RFs S ow io H ns xs fs := RV.of_ins (show RV S ow io H (.ins C ns xs) v from h)
theorem RVo.flat {d : D} (h : RVo S ow io H d v) (f : flatD d = true) : RV S ow io H d v := by
  cases d with
  | lst xs => cases f
  | _ => exact h
def PostO (S : Sta) (W : WX) (ow : Addr → Prop) (io : List Addr) (H : Hp) (σ : L2.St) (Q : VK) : R D → Prop
  | .ok d m' => ∀ io' H' v, Ex io H io' H' → RH S ow io' H' m' → RVo S ow io' H' d v → Q v H'
  | .exc x m' => ∀ io' H' dx fs, Ex io H io' H' → RH S ow io' H' m' → H' dx = some (.xd fs) → dx ∉ io' → ¬ ow dx → RFs S ow io' H' x.ns x.ds fs → W (.ref (S.ca x.c)) (some dx) σ H'
  | .bad => False
def tRo (S : Sta) (W : WX) (f : Fe) : TE := fun σ H Q => ∃ ow io fr m, Rp S ow io H fr m σ ∧ PostO S W ow io H σ Q (f fr m)
theorem Post.o {W : WX} {σ : L2.St} {Q : VK} {r : R D} (p : PostO S W ow io H σ Q r) : Post S W ow io H σ Q r := by
  cases r with
  | ok d m' => exact fun io' H' v y h q => p io' H' v y h q.o
  | exc e m' => exact p
  | bad => exact p
theorem Post.seqO {W : WX} {σ : L2.St} {Q : VK} {r : R D} {k : D → MH → R D} {Q1 : VK} (p : Post S W ow io H σ Q (r.bind k))
    (st : ∀ x m1 io1 H1 v, Ex io H io1 H1 → RH S ow io1 H1 m1 → RVo S ow io1 H1 x v → Post S W ow io1 H1 σ Q (k x m1) → Q1 v H1) : PostO S W ow io H σ Q1 r := by
  cases r with
  | ok d m' => exact fun io' H' v y h q => st d m' io' H' v y h q (p.move y)
  | exc e m' => exact p
  | bad => exact p
theorem notOwned {m : MH} {fr : Fr} {σ : L2.St} (r : Rp S ow io H fr m σ) {p : Addr} (hp : H p = none) : p ∉ io ∧ ¬ ow p := ⟨fun z => (r.h.mem z).1 (.of hp), fun z => r.o p z (.of hp)⟩
theorem RV.mk_tup {xs : List D} {vs : List V} {p : Addr} (hp : H p = none) (n : p ∉ io ∧ ¬ ow p) (h : RVs S ow io H xs vs) : RV S ow io (upd H p (.tup vs)) (.tup xs) (.ref p) := by
  unfold RV
  exact ⟨p, vs, rfl, .inl ⟨.inl upd_same, n⟩, h.ex (.fresh hp)⟩
theorem RV.mk_lst {xs : List D} {vs : List V} {p : Addr} (hp : H p = none) (n : p ∉ io ∧ ¬ ow p) (h : RVs S ow io H xs vs) : RV S ow io (upd H p (.lst vs)) (.lst xs) (.ref p) := by
  unfold RV
  exact ⟨p, vs, rfl, ⟨upd_same, n⟩, h.ex (.fresh hp)⟩
theorem RVs.isEmpty {xs : List D} {vs : List V} (h : RVs S ow io H xs vs) : (!xs.isEmpty) = !vs.isEmpty := by
  cases xs with
  | nil => unfold RVs at h; subst h; rfl
  | cons d ds => unfold RVs at h; obtain ⟨v, r, rfl, _⟩ := h; rfl
theorem RV.tru {d : D} {b : Bool} (h : RV S ow io H d v) (e : truD d = some b) : TruV S.K v H b := by
  cases d with
  | non => cases h.of_non; cases e; rfl
  | bl x => cases h.of_bl; cases e; rfl
  | int i => cases h.of_int; cases e; rfl
  | str x =>
    cases h.of_str
    simp only [truD] at e
    split at e
    · rename_i hl
      exact ⟨hl, (Option.some.inj e).symm⟩
    · cases e
  | tup xs =>
    obtain ⟨a, vs, rfl, r, q⟩ := h.of_tup
    cases e
    exact .inr (.inl ⟨vs, r, q.isEmpty⟩)
  | lst xs =>
    obtain ⟨a, vs, rfl, r, q⟩ := h.of_lst
    cases e
    exact .inl ⟨vs, .of r, q.isEmpty⟩
  | dct ks xs =>
    obtain ⟨a, kvs, rfl, r, e1, q⟩ := h.of_dct
    cases e
    refine .inr (.inr ⟨kvs, r, ?_⟩)
    rw [← e1]
    cases kvs <;> rfl
  | fz xs => cases e
  | ins C ns ds => cases e
  | ref n => cases e
  | cls n => cases e
/-- an item -/
theorem atI_rv {xs : List D} {vs : List V} {i : Int} {d : D} (h : RVs S ow io H xs vs) (e : atI xs i = some d) : ∃ v, atI vs i = some v ∧ RV S ow io H d v := by
  unfold atI at e ⊢
  rw [← h.length]
  cases q : ixN xs.length i with
  | none => rw [q] at e; cases e
  | some j =>
    rw [q] at e
    exact h.get e
theorem RVs.rep {xs : List D} {vs : List V} (h : RVs S ow io H xs vs) : ∀ k : Nat, RVs S ow io H (List.replicate k xs).flatten (List.replicate k vs).flatten
  | 0 => .nil
  | k + 1 => by
    rw [List.replicate_succ, List.replicate_succ, List.flatten_cons, List.flatten_cons]
    exact h.append (RVs.rep h k)
theorem cutD_rv {xs : List D} {vs : List V} {lo hi : Option Int} (h : RVs S ow io H xs vs) : RVs S ow io H (cutD xs lo hi) (cutV vs lo hi) := by
  unfold cutD cutV
  rw [h.length]
  exact (h.drop _).take _
end

/-! ### expressions -/
section
variable {X : Cx} {S : Sta} {W : WX} {a b c : Expr} {fa fb fc : Fe} {pos : Pos}
/-- X stands over S -/
structure Ov (S : Sta) (X : Cx) : Prop where
  P : X.prog = S.P
  w : X.w = S.w
  K : X.K = S.K
  mg : X.mg = S.mg
  base : X.base = S.base
abbrev SE (X : Cx) (S : Sta) (W : WX) (e : Expr) (f : Fe) : Prop := PE X e (tR S W f)
/-- an operand: a value, or a list that the frame owns -/
abbrev SEo (X : Cx) (S : Sta) (W : WX) (e : Expr) (f : Fe) : Prop := PE X e (tRo S W f)
theorem se_o {e : Expr} {f : Fe} (h : SE X S W e f) : SEo X S W e f := PE.imp h fun σ H Q ⟨ow, io, fr, m, rp, p⟩ => ⟨ow, io, fr, m, rp, Post.o p⟩
def ownF (i : Nat) : Fe := fun fr m => match fr[i]? with
  | some (some (.val d)) => .ok d m
  | some (some (.olst xs)) => .ok (.lst xs) m
  | _ => .bad
theorem so_own {i : Nat} {x : Str} (hN : X.N[i]? = some x) (hv : Vis X.env.scope x) (hd : (x == ("__debug__" : Str)) = false) (hcd : (x == ("__classdict__" : Str)) = false) :
    SEo X S W (.Name x pos) (ownF i) := by
  refine PE.imp (pe_var hN hv hd hcd) fun σ H Q ⟨ow, io, fr, m, r, p⟩ => ?_
  unfold ownF at p
  split at p
  · rename_i d e
    obtain ⟨v, e1, q⟩ := r.f.2 i _ e
    exact ⟨v, e1, p io H v (.refl _ _) r.h (RV.o q)⟩
  · rename_i xs e
    obtain ⟨v, e1, a, vs, rfl, h1, h2, h3, h4⟩ := r.f.2 i _ e
    exact ⟨_, e1, p io H _ (.refl _ _) r.h ⟨a, vs, rfl, h1, h4, h2⟩⟩
  · exact p.elim
theorem se_k_int {i : Int} {j : Nat} : SE X S W (.Constant (.int i) j pos) (fun _ m => .ok (.int i) m) :=
  PE.imp pe_int fun σ H Q ⟨ow, io, fr, m, r, p⟩ => p.here r.h .mk_int
theorem se_k_bl {i : Bool} {j : Nat} : SE X S W (.Constant (.bool i) j pos) (fun _ m => .ok (.bl i) m) :=
  PE.imp pe_bl fun σ H Q ⟨ow, io, fr, m, r, p⟩ => p.here r.h .mk_bl
theorem se_k_str {i : Str} {j : Nat} : SE X S W (.Constant (.str i) j pos) (fun _ m => .ok (.str i) m) :=
  PE.imp pe_str fun σ H Q ⟨ow, io, fr, m, r, p⟩ => p.here r.h .mk_str
theorem se_k_non {j : Nat} : SE X S W (.Constant .none j pos) (fun _ m => .ok .non m) :=
  PE.imp pe_non fun σ H Q ⟨ow, io, fr, m, r, p⟩ => p.here r.h .mk_non
theorem se_loc {i : Nat} {x : Str} (hN : X.N[i]? = some x) (hv : Vis X.env.scope x) (hd : (x == ("__debug__" : Str)) = false) (hcd : (x == ("__classdict__" : Str)) = false) :
    SE X S W (.Name x pos) (fun fr m => match fr[i]? with | some (some (.val d)) => .ok d m | _ => .bad) := by
  refine PE.imp (pe_var hN hv hd hcd) fun σ H Q ⟨ow, io, fr, m, r, p⟩ => ?_
  dsimp only at p
  split at p
  · rename_i d e
    obtain ⟨v, e1, q⟩ := r.f.2 i _ e
    exact ⟨v, e1, p.here r.h q⟩
  · exact p.elim
theorem op2i {g : D → D → MH → R D} {r : R2}
    (hg : ∀ ow io H fr m σ x y v u Q, Rp S ow io H fr m σ → RVo S ow io H x v → RVo S ow io H y u → Post S W ow io H σ Q (g x y m) → r v u H Q) {σ : L2.St} {H : Hp} {Q : VK}
    (h : tR S W (fun fr m => (fa fr m).bind fun x m1 => (fb fr m1).bind fun y m2 => g x y m2) σ H Q) : tOp r (tRo S W fa) (tRo S W fb) σ H Q := by
  obtain ⟨ow, io, fr, m, rp, p⟩ := h
  refine ⟨ow, io, fr, m, rp, p.seqO fun x m1 io1 H1 v x1 h1 v1 p1 => ?_⟩
  refine ⟨ow, io1, fr, m1, rp.ex x1 h1, p1.seqO fun y m2 io2 H2 u x2 h2 u2 p2 => ?_⟩
  exact hg ow io2 H2 fr m2 σ x y v u Q ((rp.ex x1 h1).ex x2 h2) (v1.ex x2) u2 p2
/-- two parts and an operator -/
theorem op2 {g : D → D → MH → R D} {r : R2} {e : Expr} (h : PE X e (tOp r (tRo S W fa) (tRo S W fb)))
    (hg : ∀ ow io H fr m σ x y v u Q, Rp S ow io H fr m σ → RVo S ow io H x v → RVo S ow io H y u → Post S W ow io H σ Q (g x y m) → r v u H Q) :
    SE X S W e (fun fr m => (fa fr m).bind fun x m1 => (fb fr m1).bind fun y m2 => g x y m2) := PE.imp h fun σ H Q q => op2i hg q
/-- one part -/
theorem op1 {g : D → MH → R D} {r : V → Hp → VK → Prop} {e : Expr} (h : PE X e (tUn r (tRo S W fa)))
    (hg : ∀ ow io H fr m σ x v Q, Rp S ow io H fr m σ → RVo S ow io H x v → Post S W ow io H σ Q (g x m) → r v H Q) :
    SE X S W e (fun fr m => (fa fr m).bind fun x m1 => g x m1) := by
  refine PE.imp h fun σ H Q ⟨ow, io, fr, m, rp, p⟩ => ?_
  refine ⟨ow, io, fr, m, rp, p.seqO fun x m1 io1 H1 v x1 h1 v1 p1 => ?_⟩
  exact hg ow io1 H1 fr m1 σ x v Q (rp.ex x1 h1) v1 p1
def boOp : BO → Operator
  | .add => .Add | .sub => .Sub | .mul => .Mult | .fdiv => .FloorDiv | .mod => .Mod | .pow => .Pow
/-- the operators by values -/
theorem bo_ok (ov : Ov S X) (o : BO) : ∃ r, OpR X (binaryOp (boOp o)) r ∧
    ∀ ow io H fr m σ x y v u Q, Rp S ow io H fr m σ → RVo S ow io H x v → RVo S ow io H y u → Post S W ow io H σ Q (optR (binD o x y) m) → r v u H Q := by
  cases o with
  | add =>
    refine ⟨_, op_add.or (op_add_str.or (op_cat.or op_catA)), fun ow io H fr m σ x y v u Q rp hx hy p => ?_⟩
    simp only [binD] at p
    unfold addD at p
    split at p
    · cases hx.of_int; cases hy.of_int
      exact .inl ⟨_, _, rfl, rfl, p.here rp.h .mk_int⟩
    · split at p
      · rename_i hl
        cases hx.of_str; cases hy.of_str
        exact .inr (.inl ⟨_, _, rfl, rfl, hl, p.here rp.h .mk_str⟩)
      · exact p.elim
    · split at p
      · rename_i hl
        obtain ⟨a, vs, rfl, ha, qa⟩ := hx.of_lst
        obtain ⟨b, us, rfl, hb, qb⟩ := hy.of_lst
        rw [qa.length, qb.length] at hl
        exact .inr (.inr (.inl ⟨a, b, vs, us, rfl, rfl, ha, hb, hl, fun q hq => p.laid rp.h hq (.mk_lst hq (notOwned rp hq) (qa.append qb))⟩))
      · exact p.elim
    · rename_i xs ys
      split at p
      · rename_i hl
        obtain ⟨a, vs, rfl, ha, qa⟩ := hx.of_tup
        obtain ⟨b, us, rfl, hb, qb⟩ := hy.of_tup
        rw [qa.length, qb.length] at hl
        have hx' : RV S ow io H (.tup xs) (.ref a) := hx
        have hy' : RV S ow io H (.tup ys) (.ref b) := hy
        rw [ov.K]
        refine .inr (.inr (.inr ⟨a, b, vs, us, rfl, rfl, ha, hb, hl, fun e => ?_, fun e1 e => ?_, fun e1 e2 q hq => p.laid rp.h hq (.mk_tup hq (notOwned rp hq) (qa.append qb))⟩))
        · have : xs = [] := by
            have := qa.length
            rw [e] at this
            exact List.eq_nil_of_length_eq_zero this
          subst this
          exact p.here rp.h hy'
        · have : ys = [] := by
            have := qb.length
            rw [e] at this
            exact List.eq_nil_of_length_eq_zero this
          subst this
          rw [List.append_nil] at p
          exact p.here rp.h hx'
      · exact p.elim
    · exact p.elim
  | sub =>
    refine ⟨_, op_sub, fun ow io H fr m σ x y v u Q rp hx hy p => ?_⟩
    simp only [binD] at p
    unfold subD at p
    split at p
    · cases hx.of_int; cases hy.of_int
      exact ⟨_, _, rfl, rfl, p.here rp.h .mk_int⟩
    · exact p.elim
  | mul =>
    refine ⟨_, op_mulW.or (op_rep.or op_repA), fun ow io H fr m σ x y v u Q rp hx hy p => ?_⟩
    simp only [binD] at p
    unfold mulD at p
    split at p
    · split at p
      · rename_i hl
        cases hx.of_int; cases hy.of_int
        unfold mulOk at hl
        rw [decide_eq_true_eq] at hl
        exact .inl ⟨_, _, rfl, rfl, hl, p.here rp.h .mk_int⟩
      · exact p.elim
    · split at p
      · rename_i hl
        obtain ⟨a, vs, rfl, ha, qa⟩ := hx.of_lst
        cases hy.of_int
        obtain ⟨h1, h2, h3⟩ := hl
        rw [qa.length] at h3
        exact .inr (.inl ⟨a, _, vs, rfl, rfl, ha, h1, h2, h3, fun q hq => p.laid rp.h hq (.mk_lst hq (notOwned rp hq) (qa.rep _))⟩)
      · exact p.elim
    · rename_i xs kk
      split at p
      · rename_i hl
        obtain ⟨a, vs, rfl, ha, qa⟩ := hx.of_tup
        cases hy.of_int
        obtain ⟨h1, h2, h3⟩ := hl
        rw [qa.length] at h3
        have hx' : RV S ow io H (.tup xs) (.ref a) := hx
        rw [ov.K]
        refine .inr (.inr ⟨a, kk, vs, rfl, rfl, ha, h1, h2, h3, fun e => ?_, fun _ q hq => p.laid rp.h hq (.mk_tup hq (notOwned rp hq) (qa.rep _))⟩)
        have e2 : (List.replicate kk.toNat xs).flatten = xs := by
          rcases e with e | e
          · have : xs = [] := by
              have := qa.length
              rw [e] at this
              exact List.eq_nil_of_length_eq_zero this
            subst this
            simp
          · subst e
            show (List.replicate 1 xs).flatten = xs
            simp
        rw [e2] at p
        exact p.here rp.h hx'
      · exact p.elim
    · exact p.elim
  | fdiv =>
    refine ⟨_, op_fdivW, fun ow io H fr m σ x y v u Q rp hx hy p => ?_⟩
    simp only [binD] at p
    unfold fdivD at p
    split at p
    · split at p
      · rename_i hl
        cases hx.of_int; cases hy.of_int
        unfold divOk at hl
        rw [Bool.and_eq_true, decide_eq_true_eq, decide_eq_true_eq] at hl
        exact ⟨_, _, rfl, rfl, hl, p.here rp.h .mk_int⟩
      · exact p.elim
    · exact p.elim
  | mod =>
    refine ⟨_, op_mod, fun ow io H fr m σ x y v u Q rp hx hy p => ?_⟩
    simp only [binD] at p
    unfold modD at p
    split at p
    · split at p
      · rename_i hl
        cases hx.of_int; cases hy.of_int
        exact ⟨_, _, rfl, rfl, hl, p.here rp.h .mk_int⟩
      · exact p.elim
    · exact p.elim
  | pow =>
    refine ⟨_, op_pow, fun ow io H fr m σ x y v u Q rp hx hy p => ?_⟩
    simp only [binD] at p
    unfold powD at p
    split at p
    · split at p
      · rename_i hl
        cases hx.of_int; cases hy.of_int
        exact ⟨_, _, rfl, rfl, hl, p.here rp.h .mk_int⟩
      · exact p.elim
    · exact p.elim
theorem se_bin (ov : Ov S X) (o : BO) (ha : SEo X S W a fa) (hb : SEo X S W b fb) : SE X S W (.BinOp a (boOp o) b pos) (fun fr m => (fa fr m).bind fun x m1 => (fb fr m1).bind fun y m2 => optR (binD o x y) m2) := by
  obtain ⟨r, h, g⟩ := bo_ok (S := S) (W := W) (X := X) ov o
  exact op2 (pe_op h ha hb) g
theorem se_neg (ha : SE X S W a fa) : SE X S W (.UnaryOp .USub a pos) (fun fr m => (fa fr m).bind fun x m1 => match x with | .int i => .ok (.int (-i)) m1 | _ => .bad) := by
  refine op1 (g := fun x m1 => match x with | .int i => .ok (.int (-i)) m1 | _ => .bad) (pe_un un_neg (se_o ha)) fun ow io H fr m σ x v Q rp hx p => ?_
  split at p
  · cases hx.of_int
    exact ⟨_, rfl, p.here rp.h .mk_int⟩
  · exact p.elim
def coOp : CO → CmpOp
  | .eq => .Eq | .ne => .NotEq | .lt => .Lt | .le => .LtE | .gt => .Gt | .ge => .GtE | .mem => .In | .nmem => .NotIn
/-- equality of scalars -/
theorem eqS_ok {ow : Addr → Prop} {io : List Addr} {H : Hp} {x y : D} {v u : V} {z : Bool} (hx : RVo S ow io H x v) (hy : RVo S ow io H y u) (e : eqS x y = some z) : scal v u = true ∧ decide (v = u) = z := by
  unfold eqS at e
  split at e
  · cases hx.of_int; cases hy.of_int; cases e
    exact ⟨rfl, by rw [dec_int]; rfl⟩
  · cases hx.of_bl; cases hy.of_bl; cases e
    exact ⟨rfl, by rw [dec_bl]; exact (Bool.beq_eq_decide_eq _ _)⟩
  · cases hx.of_str; cases hy.of_str; cases e
    exact ⟨rfl, by rw [dec_str]; rfl⟩
  · cases e
theorem OpR.or {f : Value → Value → Sem Value} {r r' : R2} (a : OpR X f r) (b : OpR X f r') : OpR X f (fun x y H Q => r x y H Q ∨ r' x y H Q) := fun pins s σ H x y v u Q I rx ry h =>
  h.elim (a pins s σ H x y v u Q I rx ry) (b pins s σ H x y v u Q I rx ry)
mutual
theorem RV.dp {ow : Addr → Prop} {io : List Addr} {H : Hp} : ∀ {x : D} {v : V} {d : PyData}, RV S ow io H x v → pdOf x = some d → Dp S.K H v d
  | .non, _, _, h, e => by unfold pdOf at e; cases e; cases h.of_non; exact .non
  | .bl b, _, _, h, e => by unfold pdOf at e; cases e; cases h.of_bl; exact .bl b
  | .int i, _, _, h, e => by unfold pdOf at e; cases e; cases h.of_int; exact .int i
  | .str i, _, _, h, e => by unfold pdOf at e; cases e; cases h.of_str; exact .str i
  | .tup xs, _, _, h, e => by
    unfold pdOf at e
    obtain ⟨ds, e1, rfl⟩ := Option.map_eq_some_iff.mp e
    obtain ⟨a, vs, rfl, q1, q2⟩ := h.of_tup
    exact .tup q1 (RVs.dp q2 e1)
  | .lst xs, _, _, h, e => by
    unfold pdOf at e
    obtain ⟨ds, e1, rfl⟩ := Option.map_eq_some_iff.mp e
    obtain ⟨a, vs, rfl, q1, q2⟩ := h.of_lst
    exact .lst (.inl (.inl q1)) (RVs.dp q2 e1)
  | .fz xs, _, _, h, e => by
    unfold pdOf at e
    obtain ⟨ds, e1, rfl⟩ := Option.map_eq_some_iff.mp e
    obtain ⟨a, vs, rfl, q1, q2⟩ := h.of_fz
    exact .lst q1 (RVs.dp q2 e1)
  | .dct _ _, _, _, _, e => by unfold pdOf at e; cases e
  | .ins _ _ _, _, _, _, e => by unfold pdOf at e; cases e
  | .ref _, _, _, _, e => by unfold pdOf at e; cases e
theorem RVs.dp {ow : Addr → Prop} {io : List Addr} {H : Hp} : ∀ {xs : List D} {vs : List V} {ds : List PyData}, RVs S ow io H xs vs → pdAll xs = some ds → DpAll S.K H vs ds
  | [], _, _, h, e => by
    unfold RVs at h
    unfold pdAll at e
    cases e
    subst h
    exact .nil
  | x :: xs, _, _, h, e => by
    unfold RVs at h
    obtain ⟨v, r, rfl, q1, q2⟩ := h
    unfold pdAll at e
    split at e
    · rename_i d ds e1 e2
      cases e
      exact .cons (RV.dp q1 e1) (RVs.dp q2 e2)
    · cases e
end
theorem RVo.dp {ow : Addr → Prop} {io : List Addr} {H : Hp} {x : D} {v : V} {d : PyData} (h : RVo S ow io H x v) (e : pdOf x = some d) : Dp S.K H v d := by
  cases x with
  | lst xs =>
    unfold pdOf at e
    obtain ⟨ds, e1, rfl⟩ := Option.map_eq_some_iff.mp e
    obtain ⟨a, vs, rfl, q1, q2⟩ := h.of_lst
    exact .lst (.inl (.inl q1)) (RVs.dp q2 e1)
  | _ => exact RV.dp (show RV S ow io H _ v from h) e
theorem eqDeep_ok {ow : Addr → Prop} {io : List Addr} {H : Hp} {x y : D} {v u : V} {z : Bool} (hx : RVo S ow io H x v) (hy : RVo S ow io H y u) (e : eqDeep x y = some z) : ∃ d d', Dp S.K H v d ∧ Dp S.K H u d' ∧ SeqAt.shaped d = true ∧ SeqAt.shaped d' = true ∧ PyData.eqv d d' = z := by
  unfold eqDeep at e
  split at e
  · rename_i d d' e1 e2
    split at e
    · rename_i h
      rw [Bool.and_eq_true] at h
      cases e
      exact ⟨d, d', hx.dp e1, hy.dp e2, h.1, h.2, rfl⟩
    · cases e
  · cases e
theorem flat_rv {ow : Addr → Prop} {io : List Addr} {H : Hp} {x : D} {v : V} (h : RV S ow io H x v) (f : flatD x = true) : flatV v = true := by
  cases x with
  | non => cases h.of_non; rfl
  | bl b => cases h.of_bl; rfl
  | int b => cases h.of_int; rfl
  | str b => cases h.of_str; rfl
  | _ => cases f
theorem flats_rv {ow : Addr → Prop} {io : List Addr} {H : Hp} : ∀ {xs : List D} {vs : List V}, RVs S ow io H xs vs → xs.all flatD = true → vs.all flatV = true
  | [], _, h, _ => by unfold RVs at h; subst h; rfl
  | x :: xs, _, h, f => by
    unfold RVs at h
    obtain ⟨v, r, rfl, q1, q2⟩ := h
    rw [List.all_cons, Bool.and_eq_true] at f ⊢
    exact ⟨flat_rv q1 f.1, flats_rv q2 f.2⟩
theorem eqF_rv {ow : Addr → Prop} {io : List Addr} {H : Hp} {x y : D} {v u : V} (h : RV S ow io H x v) (k : RV S ow io H y u) (f : flatD x = true) (g : flatD y = true) : eqV v u = eqF x y := by
  cases x with
  | non => cases h.of_non; cases y with
    | non => cases k.of_non; rfl
    | bl b => cases k.of_bl; rfl
    | int b => cases k.of_int; rfl
    | str b => cases k.of_str; rfl
    | _ => cases g
  | bl b => cases h.of_bl; cases y with
    | non => cases k.of_non; rfl
    | bl b => cases k.of_bl; rfl
    | int b => cases k.of_int; rfl
    | str b => cases k.of_str; rfl
    | _ => cases g
  | int b => cases h.of_int; cases y with
    | non => cases k.of_non; rfl
    | bl b => cases k.of_bl; rfl
    | int b => cases k.of_int; rfl
    | str b => cases k.of_str; rfl
    | _ => cases g
  | str b => cases h.of_str; cases y with
    | non => cases k.of_non; rfl
    | bl b => cases k.of_bl; rfl
    | int b => cases k.of_int; rfl
    | str b => cases k.of_str; rfl
    | _ => cases g
  | _ => cases f
theorem inV_rv {ow : Addr → Prop} {io : List Addr} {H : Hp} {x : D} {v : V} (h : RV S ow io H x v) (f : flatD x = true) : ∀ {ys : List D} {us : List V}, RVs S ow io H ys us → ys.all flatD = true → inV v us = ys.any fun y => eqF y x
  | [], _, q, _ => by unfold RVs at q; subst q; rfl
  | y :: ys, _, q, g => by
    unfold RVs at q
    obtain ⟨u, r, rfl, q1, q2⟩ := q
    rw [List.all_cons, Bool.and_eq_true] at g
    have ih := inV_rv h f q2 g.2
    unfold inV at ih ⊢
    rw [List.any_cons, List.any_cons, ih, eqF_rv q1 h g.1 f]
theorem memF_ok {ow : Addr → Prop} {io : List Addr} {H : Hp} {x : D} {v : V} {ys : List D} {us : List V} {z : Bool} (h : RVo S ow io H x v) (q : RVs S ow io H ys us) (e : memF x ys = some z) : flatV v = true ∧ us.all flatV = true ∧ inV v us = z := by
  unfold memF at e
  split at e
  · rename_i c
    rw [Bool.and_eq_true] at c
    cases e
    exact ⟨flat_rv (h.flat c.1) c.1, flats_rv q c.2, inV_rv (h.flat c.1) c.1 q c.2⟩
  · cases e
theorem memDeep_ok {ow : Addr → Prop} {io : List Addr} {H : Hp} {x : D} {v : V} {ys : List D} {us : List V} {a : Addr} {z : Bool} (h : RVo S ow io H x v) (ha : SqL S.K H a us) (q : RVs S ow io H ys us) (e : memDeep x ys = some z) :
    ∃ d ds, Dp S.K H v d ∧ Dp S.K H (.ref a) (.list ds) ∧ SeqAt.shaped d = true ∧ SeqAt.shaped (.list ds) = true ∧ (ds.any fun z => PyData.eqv z d) = z := by
  unfold memDeep at e
  split at e
  · rename_i d ds e1 e2
    split at e
    · rename_i c
      rw [Bool.and_eq_true] at c
      cases e
      exact ⟨d, ds, h.dp e1, .lst ha (q.dp e2), c.1, c.2, rfl⟩
    · cases e
  · cases e
theorem memDeepT_ok {ow : Addr → Prop} {io : List Addr} {H : Hp} {x : D} {v : V} {ys : List D} {us : List V} {a : Addr} {z : Bool} (h : RVo S ow io H x v) (ha : SqT S.K H a us) (q : RVs S ow io H ys us) (e : memDeep x ys = some z) :
    ∃ d ds, Dp S.K H v d ∧ Dp S.K H (.ref a) (.tuple ds) ∧ SeqAt.shaped d = true ∧ SeqAt.shaped (.list ds) = true ∧ (ds.any fun z => PyData.eqv z d) = z := by
  unfold memDeep at e
  split at e
  · rename_i d ds e1 e2
    split at e
    · rename_i c
      rw [Bool.and_eq_true] at c
      cases e
      exact ⟨d, ds, h.dp e1, .tup ha (q.dp e2), c.1, c.2, rfl⟩
    · cases e
  · cases e
def rInDT (K : PySem.W.Frag) : R2 := fun x y H Q => ∃ d ds, Dp K H x d ∧ Dp K H y (.tuple ds) ∧ SeqAt.shaped d = true ∧ SeqAt.shaped (.list ds) = true ∧ Q (.bl (ds.any fun z => PyData.eqv z d)) H
def rNotInDT (K : PySem.W.Frag) : R2 := fun x y H Q => ∃ d ds, Dp K H x d ∧ Dp K H y (.tuple ds) ∧ SeqAt.shaped d = true ∧ SeqAt.shaped (.list ds) = true ∧ Q (.bl (!ds.any fun z => PyData.eqv z d)) H
theorem op_inDT (hu : X.A.units + 65 < cLine) : OpR X (compareOp .In) (rInDT X.K) := by
  intro pins s σ H x y v u Q I rx ry h
  obtain ⟨d, ds, hd, he, sd, se, q⟩ := h
  obtain ⟨as, r1⟩ := Dp.reads I d x v hd rx
  obtain ⟨bs, r2⟩ := Dp.reads I (.tuple ds) y u he ry
  exact SeqAt.in_tuple_reads r2 r1 (SeqAt.canLay_of_shaped se) (SeqAt.canLay_of_shaped sd) (room_in_shaped sd hu) ⟨.bl _, H, I, rfl, q⟩
theorem op_notInDT (hu : X.A.units + 65 < cLine) : OpR X (compareOp .NotIn) (rNotInDT X.K) := by
  intro pins s σ H x y v u Q I rx ry h
  obtain ⟨d, ds, hd, he, sd, se, q⟩ := h
  obtain ⟨as, r1⟩ := Dp.reads I d x v hd rx
  obtain ⟨bs, r2⟩ := Dp.reads I (.tuple ds) y u he ry
  exact SeqAt.notIn_tuple_reads r2 r1 (SeqAt.canLay_of_shaped se) (SeqAt.canLay_of_shaped sd) (room_in_shaped sd hu) ⟨.bl _, H, I, rfl, q⟩
theorem mem_ok {ow : Addr → Prop} {io : List Addr} {H : Hp} {x y : D} {v u : V} {z : Bool} (hx : RVo S ow io H x v) (hy : RVo S ow io H y u) (e : memD x y = some z) :
    (∃ i j, v = .str i ∧ u = .str j ∧ (!(Builtin.Str.occurrences j i 0 j.length 1).isEmpty) = z) ∨ (∃ p xs, u = .ref p ∧ (SqL S.K H p xs ∨ SqT S.K H p xs) ∧ flatV v = true ∧ xs.all flatV = true ∧ inV v xs = z) ∨
      ∃ d ds, Dp S.K H v d ∧ (Dp S.K H u (.list ds) ∨ Dp S.K H u (.tuple ds)) ∧ SeqAt.shaped d = true ∧ SeqAt.shaped (.list ds) = true ∧ (ds.any fun z => PyData.eqv z d) = z := by
  unfold memD at e
  split at e
  · split at e
    · cases hx.of_str; cases hy.of_str; cases e
      exact .inl ⟨_, _, rfl, rfl, rfl⟩
    · cases e
  · rename_i ys
    obtain ⟨a, vs, rfl, q1, q2⟩ := hy.of_lst
    have q1 : SqL S.K H a vs := .inl (.inl q1)
    split at e
    · rename_i b e1
      cases e
      obtain ⟨h1, h2, h3⟩ := memF_ok hx q2 e1
      exact .inr (.inl ⟨a, vs, rfl, .inl q1, h1, h2, h3⟩)
    · obtain ⟨d, ds, h1, h2, h3⟩ := memDeep_ok hx q1 q2 e
      exact .inr (.inr ⟨d, ds, h1, .inl h2, h3⟩)
  · rename_i ys
    obtain ⟨a, vs, rfl, q1, q2⟩ := hy.of_fz
    split at e
    · rename_i b e1
      cases e
      obtain ⟨h1, h2, h3⟩ := memF_ok hx q2 e1
      exact .inr (.inl ⟨a, vs, rfl, .inl q1, h1, h2, h3⟩)
    · obtain ⟨d, ds, h1, h2, h3⟩ := memDeep_ok hx q1 q2 e
      exact .inr (.inr ⟨d, ds, h1, .inl h2, h3⟩)
  · rename_i ys
    obtain ⟨a, vs, rfl, q1, q2⟩ := hy.of_tup
    split at e
    · rename_i b e1
      cases e
      obtain ⟨h1, h2, h3⟩ := memF_ok hx q2 e1
      exact .inr (.inl ⟨a, vs, rfl, .inr q1, h1, h2, h3⟩)
    · obtain ⟨d, ds, h1, h2, h3⟩ := memDeepT_ok hx q1 q2 e
      exact .inr (.inr ⟨d, ds, h1, .inr h2, h3⟩)
  · cases e
theorem co_ok (hu : X.A.units + 65 < cLine) (ov : Ov S X) (o : CO) : ∃ r, OpR X (compareOp (coOp o)) r ∧
    ∀ ow io H fr m σ x y v u Q, Rp S ow io H fr m σ → RVo S ow io H x v → RVo S ow io H y u → Post S W ow io H σ Q (optR (cmpD o x y) m) → r v u H Q := by
  cases o with
  | eq =>
    refine ⟨_, OpR.or op_eq (op_eqD (by omega)), fun ow io H fr m σ x y v u Q rp hx hy p => ?_⟩
    simp only [cmpD, eqD] at p
    cases e : eqS x y with
    | none =>
      rw [e] at p
      dsimp only at p
      cases e2 : eqDeep x y with
      | none => rw [e2] at p; exact p.elim
      | some z =>
        rw [e2] at p
        obtain ⟨d, d', h1, h2, h3, h4, h5⟩ := eqDeep_ok hx hy e2
        refine .inr ⟨d, d', by rw [ov.K]; exact h1, by rw [ov.K]; exact h2, h3, h4, ?_⟩
        rw [h5]
        exact p.here rp.h .mk_bl
    | some z =>
      rw [e] at p
      obtain ⟨h1, h2⟩ := eqS_ok hx hy e
      refine .inl ⟨h1, ?_⟩
      rw [h2]
      exact p.here rp.h .mk_bl
  | ne =>
    refine ⟨_, OpR.or op_ne (op_neD (by omega)), fun ow io H fr m σ x y v u Q rp hx hy p => ?_⟩
    simp only [cmpD, eqD] at p
    cases e : eqS x y with
    | none =>
      rw [e] at p
      dsimp only at p
      cases e2 : eqDeep x y with
      | none => rw [e2] at p; exact p.elim
      | some z =>
        rw [e2] at p
        obtain ⟨d, d', h1, h2, h3, h4, h5⟩ := eqDeep_ok hx hy e2
        refine .inr ⟨d, d', by rw [ov.K]; exact h1, by rw [ov.K]; exact h2, h3, h4, ?_⟩
        rw [h5]
        exact p.here rp.h .mk_bl
    | some z =>
      rw [e] at p
      obtain ⟨h1, h2⟩ := eqS_ok hx hy e
      refine .inl ⟨h1, ?_⟩
      rw [h2]
      exact p.here rp.h .mk_bl
  | lt =>
    refine ⟨_, op_lt, fun ow io H fr m σ x y v u Q rp hx hy p => ?_⟩
    simp only [cmpD] at p
    unfold ltD at p
    split at p
    · cases hx.of_int; cases hy.of_int
      exact ⟨_, _, rfl, rfl, p.here rp.h .mk_bl⟩
    · exact p.elim
  | le =>
    refine ⟨_, op_le, fun ow io H fr m σ x y v u Q rp hx hy p => ?_⟩
    simp only [cmpD] at p
    unfold leD at p
    split at p
    · cases hx.of_int; cases hy.of_int
      exact ⟨_, _, rfl, rfl, p.here rp.h .mk_bl⟩
    · exact p.elim
  | gt =>
    refine ⟨_, op_gt, fun ow io H fr m σ x y v u Q rp hx hy p => ?_⟩
    simp only [cmpD] at p
    unfold ltD at p
    split at p
    · cases hx.of_int; cases hy.of_int
      exact ⟨_, _, rfl, rfl, p.here rp.h .mk_bl⟩
    · exact p.elim
  | ge =>
    refine ⟨_, op_ge, fun ow io H fr m σ x y v u Q rp hx hy p => ?_⟩
    simp only [cmpD] at p
    unfold leD at p
    split at p
    · cases hx.of_int; cases hy.of_int
      exact ⟨_, _, rfl, rfl, p.here rp.h .mk_bl⟩
    · exact p.elim
  | mem =>
    refine ⟨_, OpR.or op_in_str (OpR.or op_in_seq (OpR.or (op_inD hu) (op_inDT hu))), fun ow io H fr m σ x y v u Q rp hx hy p => ?_⟩
    simp only [cmpD] at p
    cases e : memD x y with
    | none => rw [e] at p; exact p.elim
    | some z =>
      rw [e] at p
      have q := p.here rp.h .mk_bl
      rcases mem_ok hx hy e with ⟨i, j, h1, h2, h3⟩ | ⟨p, xs, h1, h2, h3, h4, h5⟩ | ⟨d, ds, h1, h2, h3, h4, h5⟩
      · exact .inl ⟨i, j, h1, h2, by rw [h3]; exact q⟩
      · exact .inr (.inl ⟨p, xs, h1, by rw [ov.K]; exact h2, h3, h4, by rw [if_neg (by decide), h5]; exact q⟩)
      · rcases h2 with h2 | h2
        · exact .inr (.inr (.inl ⟨d, ds, by rw [ov.K]; exact h1, by rw [ov.K]; exact h2, h3, h4, by rw [h5]; exact q⟩))
        · exact .inr (.inr (.inr ⟨d, ds, by rw [ov.K]; exact h1, by rw [ov.K]; exact h2, h3, h4, by rw [h5]; exact q⟩))
  | nmem =>
    refine ⟨_, OpR.or op_notin_str (OpR.or op_notIn_seq (OpR.or (op_notInD hu) (op_notInDT hu))), fun ow io H fr m σ x y v u Q rp hx hy p => ?_⟩
    simp only [cmpD] at p
    cases e : memD x y with
    | none => rw [e] at p; exact p.elim
    | some z =>
      rw [e] at p
      have q := p.here rp.h .mk_bl
      rcases mem_ok hx hy e with ⟨i, j, h1, h2, h3⟩ | ⟨p, xs, h1, h2, h3, h4, h5⟩ | ⟨d, ds, h1, h2, h3, h4, h5⟩
      · exact .inl ⟨i, j, h1, h2, by rw [h3]; exact q⟩
      · exact .inr (.inl ⟨p, xs, h1, by rw [ov.K]; exact h2, h3, h4, by rw [if_pos rfl, h5]; exact q⟩)
      · rcases h2 with h2 | h2
        · exact .inr (.inr (.inl ⟨d, ds, by rw [ov.K]; exact h1, by rw [ov.K]; exact h2, h3, h4, by rw [h5]; exact q⟩))
        · exact .inr (.inr (.inr ⟨d, ds, by rw [ov.K]; exact h1, by rw [ov.K]; exact h2, h3, h4, by rw [h5]; exact q⟩))
theorem se_cmp (hu : X.A.units + 65 < cLine) (ov : Ov S X) (o : CO) (ha : SEo X S W a fa) (hb : SEo X S W b fb) (hm : behindInMarks (coOp o) b = false) :
    SE X S W (.Compare a [coOp o] [b] pos) (fun fr m => (fa fr m).bind fun x m1 => (fb fr m1).bind fun y m2 => optR (cmpD o x y) m2) := by
  obtain ⟨r, h, g⟩ := co_ok (S := S) (W := W) (X := X) hu ov o
  exact op2 (pe_cmpR h ha hb hm) g
/-- a test by its value -/
theorem isN_rv {ow : Addr → Prop} {io : List Addr} {H : Hp} {x : D} {v : V} (h : RVo S ow io H x v) : decide (v = .non) = isNonD x := by
  cases x with
  | non => cases h.of_non; rfl
  | bl _ => cases h.of_bl; rfl
  | int _ => cases h.of_int; rfl
  | str _ => cases h.of_str; rfl
  | tup _ => obtain ⟨a, vs, rfl, _⟩ := h.of_tup; rfl
  | lst _ => obtain ⟨a, vs, rfl, _⟩ := h.of_lst; rfl
  | fz _ => obtain ⟨a, vs, rfl, _⟩ := h.of_fz; rfl
  | dct _ _ => obtain ⟨a, vs, rfl, _⟩ := h.of_dct; rfl
  | ins _ _ _ => obtain ⟨a, dx, vs, rfl, _⟩ := h.of_ins; rfl
  | ref _ => unfold RVo RV at h; obtain ⟨a, rfl, _⟩ := h; rfl
  | cls _ => unfold RVo RV at h; subst h; rfl
theorem se_isN {j : Nat} {p2 : Pos} (ha : SE X S W a fa) : SE X S W (.Compare a [.Is] [.Constant .none j p2] pos) (fun fr m => (fa fr m).bind fun x m1 => .ok (.bl (isNonD x)) m1) := by
  refine op1 (g := fun x m1 => .ok (.bl (isNonD x)) m1) (r := fun x H1 Q => Q (.bl (decide (x = .non))) H1) (pe_cmp (pc_isN (se_o ha))) fun ow io H fr m σ x v Q rp hx p => ?_
  rw [isN_rv hx]
  exact p.here rp.h .mk_bl
theorem se_notN {j : Nat} {p2 : Pos} (ha : SE X S W a fa) : SE X S W (.Compare a [.IsNot] [.Constant .none j p2] pos) (fun fr m => (fa fr m).bind fun x m1 => .ok (.bl (!isNonD x)) m1) := by
  refine op1 (g := fun x m1 => .ok (.bl (!isNonD x)) m1) (r := fun x H1 Q => Q (.bl (!decide (x = .non))) H1) (pe_cmp (pc_notN (se_o ha))) fun ow io H fr m σ x v Q rp hx p => ?_
  rw [isN_rv hx]
  exact p.here rp.h .mk_bl
def chF (o q : CO) (fa fb fc : Fe) : Fe := fun fr m => (fa fr m).bind fun x m1 => (fb fr m1).bind fun y m2 => match cmpD o x y with
      | some (.bl true) => (fc fr m2).bind fun z m3 => optR (cmpD q y z) m3
      | some (.bl false) => .ok (.bl false) m2
      | _ => .bad
theorem chain_i (o q : CO) {r r' : R2}
    (g : ∀ ow io H fr m σ x y v u Q, Rp S ow io H fr m σ → RVo S ow io H x v → RVo S ow io H y u → Post S W ow io H σ Q (optR (cmpD o x y) m) → r v u H Q)
    (g' : ∀ ow io H fr m σ x y v u Q, Rp S ow io H fr m σ → RVo S ow io H x v → RVo S ow io H y u → Post S W ow io H σ Q (optR (cmpD q x y) m) → r' v u H Q)
    {σ : L2.St} {H : Hp} {Q : VK} (h : tR S W (chF o q fa fb fc) σ H Q) : tChain r r' (tRo S W fa) (tRo S W fb) (tRo S W fc) σ H Q := by
  obtain ⟨ow, io, fr, m, rp, p⟩ := h
  unfold chF at p
  refine ⟨ow, io, fr, m, rp, p.seqO fun x m1 io1 H1 v x1 r1 v1 p1 => ?_⟩
  refine ⟨ow, io1, fr, m1, rp.ex x1 r1, p1.seqO fun y m2 io2 H2 u x2 r2 u2 p2 => ?_⟩
  have rp2 := (rp.ex x1 r1).ex x2 r2
  refine g ow io2 H2 fr m2 σ x y v u _ rp2 (v1.ex x2) u2 ?_
  split at p2
  · rename_i e
    rw [e]
    intro io3 H3 z x3 r3 z3
    cases z3.of_bl
    refine ⟨true, rfl, ?_⟩
    rw [if_pos rfl]
    refine ⟨ow, io3, fr, m2, rp2.ex x3 r3, (p2.move x3).seqO fun z m4 io4 H4 w x4 r4 w4 p4 => ?_⟩
    exact g' ow io4 H4 fr m4 σ y z u w Q ((rp2.ex x3 r3).ex x4 r4) ((u2.ex x3).ex x4) w4 p4
  · rename_i e
    rw [e]
    intro io3 H3 z x3 r3 z3
    cases z3.of_bl
    refine ⟨false, rfl, ?_⟩
    rw [if_neg (by decide)]
    exact (p2.move x3).here r3 .mk_bl
  · exact p2.elim
theorem se_chain (hu : X.A.units + 65 < cLine) (ov : Ov S X) (o q : CO) (ha : SEo X S W a fa) (hb : SEo X S W b fb) (hc : SEo X S W c fc) (hm : lastMarks [coOp o, coOp q] [b, c] = false) :
    SE X S W (.Compare a [coOp o, coOp q] [b, c] pos) (chF o q fa fb fc) := by
  obtain ⟨r, h, g⟩ := co_ok (S := S) (W := W) (X := X) hu ov o
  obtain ⟨r', h', g'⟩ := co_ok (S := S) (W := W) (X := X) hu ov q
  exact PE.imp (pe_chain h h' ha hb hc hm) fun σ H Q q => chain_i _ _ g g' q
/-! and, or, not, if: by truth -/
theorem se_one {op : PySem.BoolOp} (ha : SE X S W a fa) : SE X S W (.BoolOp op [a] pos) fa := pe_one ha
theorem se_and {rest : List Expr} (ov : Ov S X) (ha : SE X S W a fa) (hb : SE X S W (.BoolOp .And (b :: rest) pos) fb) :
    SE X S W (.BoolOp .And (a :: b :: rest) pos) (fun fr m => (fa fr m).bind fun x m1 => match truD x with | some true => fb fr m1 | some false => .ok x m1 | none => .bad) := by
  refine PE.imp (pe_andT ha hb) fun σ H Q ⟨ow, io, fr, m, rp, p⟩ => ?_
  refine ⟨ow, io, fr, m, rp, p.seq fun x m1 io1 H1 v x1 r1 v1 p1 => ?_⟩
  rw [ov.K]
  split at p1
  · rename_i e
    refine ⟨true, v1.tru e, ?_⟩
    rw [if_pos rfl]
    exact ⟨ow, io1, fr, m1, rp.ex x1 r1, p1⟩
  · rename_i e
    refine ⟨false, v1.tru e, ?_⟩
    rw [if_neg (by decide)]
    exact p1.here r1 v1
  · exact p1.elim
theorem se_or {rest : List Expr} (ov : Ov S X) (ha : SE X S W a fa) (hb : SE X S W (.BoolOp .Or (b :: rest) pos) fb) :
    SE X S W (.BoolOp .Or (a :: b :: rest) pos) (fun fr m => (fa fr m).bind fun x m1 => match truD x with | some true => .ok x m1 | some false => fb fr m1 | none => .bad) := by
  refine PE.imp (pe_orT ha hb) fun σ H Q ⟨ow, io, fr, m, rp, p⟩ => ?_
  refine ⟨ow, io, fr, m, rp, p.seq fun x m1 io1 H1 v x1 r1 v1 p1 => ?_⟩
  rw [ov.K]
  split at p1
  · rename_i e
    refine ⟨true, v1.tru e, ?_⟩
    rw [if_pos rfl]
    exact p1.here r1 v1
  · rename_i e
    refine ⟨false, v1.tru e, ?_⟩
    rw [if_neg (by decide)]
    exact ⟨ow, io1, fr, m1, rp.ex x1 r1, p1⟩
  · exact p1.elim
theorem se_not (ov : Ov S X) (ha : SE X S W a fa) : SE X S W (.UnaryOp .Not a pos) (fun fr m => (fa fr m).bind fun x m1 => match truD x with | some t => .ok (.bl (!t)) m1 | none => .bad) := by
  refine PE.imp (pe_notT ha) fun σ H Q ⟨ow, io, fr, m, rp, p⟩ => ?_
  refine ⟨ow, io, fr, m, rp, p.seq fun x m1 io1 H1 v x1 r1 v1 p1 => ?_⟩
  rw [ov.K]
  split at p1
  · rename_i t e
    exact ⟨t, v1.tru e, p1.here r1 .mk_bl⟩
  · exact p1.elim
/-! tests -/
/-- a test's meaning from a value's -/
def tst (f : Fe) (fr : Fr) (m : MH) : R Bool := (f fr m).bind fun x m1 => match truD x with | some b => .ok b m1 | none => .bad
def PostB (S : Sta) (W : WX) (ow : Addr → Prop) (io : List Addr) (H : Hp) (σ : L2.St) (Q : Bool → Hp → Prop) : R Bool → Prop
  | .ok b m' => ∀ io' H', Ex io H io' H' → RH S ow io' H' m' → Q b H'
  | .exc x m' => ∀ io' H' dx fs, Ex io H io' H' → RH S ow io' H' m' → H' dx = some (.xd fs) → dx ∉ io' → ¬ ow dx → RFs S ow io' H' x.ns x.ds fs → W (.ref (S.ca x.c)) (some dx) σ H'
  | .bad => False
def tT (S : Sta) (W : WX) (f : Fr → MH → R Bool) : TT := fun σ H Q => ∃ ow io fr m, Rp S ow io H fr m σ ∧ PostB S W ow io H σ Q (f fr m)
abbrev STt (X : Cx) (S : Sta) (W : WX) (e : Expr) (f : Fe) : Prop := PT X e (tT S W (tst f))
theorem PostB.move {ow : Addr → Prop} {io io1 : List Addr} {H H1 : Hp} {σ : L2.St} {Q : Bool → Hp → Prop} {r : R Bool} (p : PostB S W ow io H σ Q r) (x : Ex io H io1 H1) : PostB S W ow io1 H1 σ Q r := by
  cases r with
  | ok d m' => exact fun io' H' y h => p io' H' (x.trans y) h
  | exc e m' => exact fun io' H' dx fs y h a b c d => p io' H' dx fs (x.trans y) h a b c d
  | bad => exact p
theorem PostB.here {ow : Addr → Prop} {io : List Addr} {H : Hp} {σ : L2.St} {Q : Bool → Hp → Prop} {b : Bool} {m : MH} (p : PostB S W ow io H σ Q (.ok b m)) (h : RH S ow io H m) : Q b H := p io H (.refl _ _) h
theorem PostB.seq {ow : Addr → Prop} {io : List Addr} {H : Hp} {σ : L2.St} {Q : Bool → Hp → Prop} {r : R D} {k : D → MH → R Bool} {Q1 : VK} (p : PostB S W ow io H σ Q (r.bind k))
    (st : ∀ x m1 io1 H1 v, Ex io H io1 H1 → RH S ow io1 H1 m1 → RV S ow io1 H1 x v → PostB S W ow io1 H1 σ Q (k x m1) → Q1 v H1) : Post S W ow io H σ Q1 r := by
  cases r with
  | ok d m' => exact fun io' H' v y h q => st d m' io' H' v y h q (p.move y)
  | exc e m' => exact p
  | bad => exact p
theorem PostB.seqB {ow : Addr → Prop} {io : List Addr} {H : Hp} {σ : L2.St} {Q Q1 : Bool → Hp → Prop} {r : R Bool} {k : Bool → MH → R Bool} (p : PostB S W ow io H σ Q (r.bind k))
    (st : ∀ x m1 io1 H1, Ex io H io1 H1 → RH S ow io1 H1 m1 → PostB S W ow io1 H1 σ Q (k x m1) → Q1 x H1) : PostB S W ow io H σ Q1 r := by
  cases r with
  | ok d m' => exact fun io' H' y h => st d m' io' H' y h (p.move y)
  | exc e m' => exact p
  | bad => exact p
/-- of a plain value -/
theorem st_val (ov : Ov S X) (ha : SE X S W a fa) (he : ∀ whole, isTrue a X.env whole = (do let v ← whole; standAt a.pos; holding [v] (truthy v))) : STt X S W a fa := by
  refine PT.imp (pt_truth ha he) fun σ H Q ⟨ow, io, fr, m, rp, p⟩ => ?_
  refine ⟨ow, io, fr, m, rp, p.seq fun x m1 io1 H1 v x1 r1 v1 p1 => ?_⟩
  rw [ov.K]
  split at p1
  · rename_i t e
    exact ⟨t, v1.tru e, p1.here r1⟩
  · exact p1.elim
theorem tst_not (f : Fe) (fr : Fr) (m : MH) : tst (fun fr m => (f fr m).bind fun x m1 => match truD x with | some t => .ok (.bl (!t)) m1 | none => .bad) fr m = (tst f fr m).bind fun b m1 => .ok (!b) m1 := by
  simp only [tst]
  cases f fr m with
  | ok d m1 => simp only [R.ok_bind]; cases truD d <;> rfl
  | exc x m1 => rfl
  | bad => rfl
theorem st_not (ha : STt X S W a fa) : STt X S W (.UnaryOp .Not a pos) (fun fr m => (fa fr m).bind fun x m1 => match truD x with | some t => .ok (.bl (!t)) m1 | none => .bad) := by
  refine PT.imp (pt_not ha) fun σ H Q ⟨ow, io, fr, m, rp, p⟩ => ?_
  rw [tst_not] at p
  exact ⟨ow, io, fr, m, rp, p.seqB fun x m1 io1 H1 x1 r1 p1 => p1.here r1⟩
theorem tst_and (f g : Fe) (fr : Fr) (m : MH) : tst (fun fr m => (f fr m).bind fun x m1 => match truD x with | some true => g fr m1 | some false => .ok x m1 | none => .bad) fr m =
    (tst f fr m).bind fun b m1 => if b then tst g fr m1 else .ok false m1 := by
  simp only [tst]
  cases f fr m with
  | ok d m1 =>
    simp only [R.ok_bind]
    cases e : truD d with
    | none => rfl
    | some t =>
      cases t with
      | true => rfl
      | false => simp [e]
  | exc x m1 => rfl
  | bad => rfl
theorem tst_or (f g : Fe) (fr : Fr) (m : MH) : tst (fun fr m => (f fr m).bind fun x m1 => match truD x with | some true => .ok x m1 | some false => g fr m1 | none => .bad) fr m =
    (tst f fr m).bind fun b m1 => if b then .ok true m1 else tst g fr m1 := by
  simp only [tst]
  cases f fr m with
  | ok d m1 =>
    simp only [R.ok_bind]
    cases e : truD d with
    | none => rfl
    | some t =>
      cases t with
      | true => simp [e]
      | false => rfl
  | exc x m1 => rfl
  | bad => rfl
theorem st_and {rest : List Expr} (ha : STt X S W a fa) (hb : PW X (.BoolOp .And (b :: rest) pos) (tT S W (tst fb))) :
    PW X (.BoolOp .And (a :: b :: rest) pos) (tT S W (tst fun fr m => (fa fr m).bind fun x m1 => match truD x with | some true => fb fr m1 | some false => .ok x m1 | none => .bad)) := by
  refine ⟨fun whole pins s σ H Q I h => (pw_and ha hb).run whole pins s σ H Q I ?_⟩
  obtain ⟨ow, io, fr, m, rp, p⟩ := h
  rw [tst_and] at p
  refine ⟨ow, io, fr, m, rp, p.seqB fun x m1 io1 H1 x1 r1 p1 => ?_⟩
  cases x with
  | true => exact ⟨ow, io1, fr, m1, rp.ex x1 r1, p1⟩
  | false => exact p1.here r1
theorem st_or {rest : List Expr} (ha : STt X S W a fa) (hb : PW X (.BoolOp .Or (b :: rest) pos) (tT S W (tst fb))) :
    PW X (.BoolOp .Or (a :: b :: rest) pos) (tT S W (tst fun fr m => (fa fr m).bind fun x m1 => match truD x with | some true => .ok x m1 | some false => fb fr m1 | none => .bad)) := by
  refine ⟨fun whole pins s σ H Q I h => (pw_or ha hb).run whole pins s σ H Q I ?_⟩
  obtain ⟨ow, io, fr, m, rp, p⟩ := h
  rw [tst_or] at p
  refine ⟨ow, io, fr, m, rp, p.seqB fun x m1 io1 H1 x1 r1 p1 => ?_⟩
  cases x with
  | true => exact p1.here r1
  | false => exact ⟨ow, io1, fr, m1, rp.ex x1 r1, p1⟩
/-- it gives truth values alone -/
def IsB (f : Fe) : Prop := ∀ fr m d m', f fr m = .ok d m' → ∃ b, d = .bl b
theorem post_of_tst {f : Fe} (hB : IsB f) {ow : Addr → Prop} {io : List Addr} {H : Hp} {σ : L2.St} {Q : Bool → Hp → Prop} {fr : Fr} {m : MH} (p : PostB S W ow io H σ Q (tst f fr m)) :
    Post S W ow io H σ (fun v H' => ∃ k, v = .bl k ∧ Q k H') (f fr m) := by
  unfold tst at p
  cases q : f fr m with
  | ok d m' =>
    obtain ⟨b, rfl⟩ := hB _ _ _ _ q
    rw [q] at p
    exact fun io' H' v x h hv => ⟨b, hv.of_bl, p io' H' x h⟩
  | exc x m' => rw [q] at p; exact p
  | bad => rw [q] at p; exact p
theorem cmpD_bl {o : CO} {x y z : D} (e : cmpD o x y = some z) : ∃ b, z = .bl b := by
  cases o with
  | eq => simp only [cmpD, Option.map_eq_some_iff] at e; obtain ⟨b, _, rfl⟩ := e; exact ⟨_, rfl⟩
  | ne => simp only [cmpD, Option.map_eq_some_iff] at e; obtain ⟨b, _, rfl⟩ := e; exact ⟨_, rfl⟩
  | lt => simp only [cmpD] at e; unfold ltD at e; split at e <;> cases e; exact ⟨_, rfl⟩
  | le => simp only [cmpD] at e; unfold leD at e; split at e <;> cases e; exact ⟨_, rfl⟩
  | gt => simp only [cmpD] at e; unfold ltD at e; split at e <;> cases e; exact ⟨_, rfl⟩
  | ge => simp only [cmpD] at e; unfold leD at e; split at e <;> cases e; exact ⟨_, rfl⟩
  | mem => simp only [cmpD, Option.map_eq_some_iff] at e; obtain ⟨b, _, rfl⟩ := e; exact ⟨_, rfl⟩
  | nmem => simp only [cmpD, Option.map_eq_some_iff] at e; obtain ⟨b, _, rfl⟩ := e; exact ⟨_, rfl⟩
theorem isB_cmp (o : CO) (fa fb : Fe) : IsB (fun fr m => (fa fr m).bind fun x m1 => (fb fr m1).bind fun y m2 => optR (cmpD o x y) m2) := by
  intro fr m d m' e
  cases q : fa fr m with
  | ok x m1 =>
    simp only [q, R.ok_bind] at e
    cases q2 : fb fr m1 with
    | ok y m2 =>
      simp only [q2, R.ok_bind] at e
      cases q3 : cmpD o x y with
      | none => rw [q3] at e; cases e
      | some z => rw [q3] at e; cases e; exact cmpD_bl q3
    | exc x m1 => simp only [q2, R.exc_bind] at e; cases e
    | bad => simp only [q2, R.bad_bind] at e; cases e
  | exc x m1 => simp only [q, R.exc_bind] at e; cases e
  | bad => simp only [q, R.bad_bind] at e; cases e
theorem isB_ch (o q : CO) (fa fb fc : Fe) : IsB (chF o q fa fb fc) := by
  intro fr m d m' e
  unfold chF at e
  cases q1 : fa fr m with
  | ok x m1 =>
    simp only [q1, R.ok_bind] at e
    cases q2 : fb fr m1 with
    | ok y m2 =>
      simp only [q2, R.ok_bind] at e
      split at e
      · cases q3 : fc fr m2 with
        | ok z m3 =>
          simp only [q3, R.ok_bind] at e
          cases q4 : cmpD q y z with
          | none => rw [q4] at e; cases e
          | some z => rw [q4] at e; cases e; exact cmpD_bl q4
        | exc x m1 => simp only [q3, R.exc_bind] at e; cases e
        | bad => simp only [q3, R.bad_bind] at e; cases e
      · cases e; exact ⟨_, rfl⟩
      · cases e
    | exc x m1 => simp only [q2, R.exc_bind] at e; cases e
    | bad => simp only [q2, R.bad_bind] at e; cases e
  | exc x m1 => simp only [q1, R.exc_bind] at e; cases e
  | bad => simp only [q1, R.bad_bind] at e; cases e
/-- a comparison as a test is its value's truth -/
theorem st_cmp (hu : X.A.units + 65 < cLine) (ov : Ov S X) (o : CO) (ha : SEo X S W a fa) (hb : SEo X S W b fb) (hm : behindInMarks (coOp o) b = false) :
    STt X S W (.Compare a [coOp o] [b] pos) (fun fr m => (fa fr m).bind fun x m1 => (fb fr m1).bind fun y m2 => optR (cmpD o x y) m2) := by
  obtain ⟨r, h, g⟩ := co_ok (S := S) (W := W) (X := X) hu ov o
  exact PT.imp (pt_cmpR h ha hb hm) fun σ H Q ⟨ow, io, fr, m, rp, p⟩ => op2i g ⟨ow, io, fr, m, rp, post_of_tst (isB_cmp o fa fb) p⟩
theorem st_chain (hu : X.A.units + 65 < cLine) (ov : Ov S X) (o q : CO) (ha : SEo X S W a fa) (hb : SEo X S W b fb) (hc : SEo X S W c fc) (hm : lastMarks [coOp o, coOp q] [b, c] = false) :
    STt X S W (.Compare a [coOp o, coOp q] [b, c] pos) (chF o q fa fb fc) := by
  obtain ⟨r, h, g⟩ := co_ok (S := S) (W := W) (X := X) hu ov o
  obtain ⟨r', h', g'⟩ := co_ok (S := S) (W := W) (X := X) hu ov q
  exact PT.imp (pt_chain h h' ha hb hc hm) fun σ H Q ⟨ow, io, fr, m, rp, p⟩ => chain_i _ _ g g' ⟨ow, io, fr, m, rp, post_of_tst (isB_ch o q fa fb fc) p⟩
def isNF (fa : Fe) : Fe := fun fr m => (fa fr m).bind fun x m1 => .ok (.bl (isNonD x)) m1
def notNF (fa : Fe) : Fe := fun fr m => (fa fr m).bind fun x m1 => .ok (.bl (!isNonD x)) m1
theorem isB_isN (fa : Fe) : IsB (isNF fa) := by
  intro fr m d m' e
  unfold isNF at e
  cases q : fa fr m with
  | ok x m1 => simp only [q, R.ok_bind] at e; cases e; exact ⟨_, rfl⟩
  | exc x m1 => simp only [q, R.exc_bind] at e; cases e
  | bad => simp only [q, R.bad_bind] at e; cases e
theorem isB_notN (fa : Fe) : IsB (notNF fa) := by
  intro fr m d m' e
  unfold notNF at e
  cases q : fa fr m with
  | ok x m1 => simp only [q, R.ok_bind] at e; cases e; exact ⟨_, rfl⟩
  | exc x m1 => simp only [q, R.exc_bind] at e; cases e
  | bad => simp only [q, R.bad_bind] at e; cases e
theorem st_isN {j : Nat} {p2 : Pos} (ha : SE X S W a fa) : STt X S W (.Compare a [.Is] [.Constant .none j p2] pos) (isNF fa) := by
  refine PT.imp (pt_cmp (pc_isN ha)) fun σ H Q ⟨ow, io, fr, m, rp, p⟩ => ?_
  have p' := post_of_tst (isB_isN fa) p
  unfold isNF at p'
  refine ⟨ow, io, fr, m, rp, p'.seq fun x m1 io1 H1 v x1 r1 v1 p1 => ?_⟩
  have p2 := p1.here r1 .mk_bl
  rw [← isN_rv v1.o] at p2
  exact p2
theorem st_notN {j : Nat} {p2 : Pos} (ha : SE X S W a fa) : STt X S W (.Compare a [.IsNot] [.Constant .none j p2] pos) (notNF fa) := by
  refine PT.imp (pt_cmp (pc_notN ha)) fun σ H Q ⟨ow, io, fr, m, rp, p⟩ => ?_
  have p' := post_of_tst (isB_notN fa) p
  unfold notNF at p'
  refine ⟨ow, io, fr, m, rp, p'.seq fun x m1 io1 H1 v x1 r1 v1 p1 => ?_⟩
  have p2 := p1.here r1 .mk_bl
  rw [← isN_rv v1.o] at p2
  exact p2
/-! if: a value, a test -/
def iteF' (fc fa fb : Fe) : Fe := fun fr m => (fc fr m).bind fun x m1 => match truD x with | some true => fa fr m1 | some false => fb fr m1 | none => .bad
theorem se_ite (hc : STt X S W c fc) (ha : SE X S W a fa) (hb : SE X S W b fb) : SE X S W (.IfExp c a b pos) (iteF' fc fa fb) := by
  refine PE.imp (pe_ifExp hc ha hb) fun σ H Q ⟨ow, io, fr, m, rp, p⟩ => ?_
  refine ⟨ow, io, fr, m, rp, ?_⟩
  unfold iteF' at p
  unfold tst
  cases q : fc fr m with
  | ok x m1 =>
    rw [q] at p
    simp only [R.ok_bind] at p ⊢
    cases e : truD x with
    | none => rw [e] at p; exact p.elim
    | some t =>
      rw [e] at p
      intro io1 H1 x1 r1
      cases t with
      | true => rw [if_pos rfl]; exact ⟨ow, io1, fr, m1, rp.ex x1 r1, p.move x1⟩
      | false => rw [if_neg (by decide)]; exact ⟨ow, io1, fr, m1, rp.ex x1 r1, p.move x1⟩
  | exc x m1 => rw [q] at p; exact p
  | bad => rw [q] at p; exact p
/-! argument lists, displays -/
def evsF : List Fe → Fes
  | [] => fun _ m => .ok [] m
  | f :: fs => fun fr m => (f fr m).bind fun x m1 => (evsF fs fr m1).bind fun xs m2 => .ok (x :: xs) m2
theorem sa_nil : PA X [] (tRs S W (evsF [])) := PA.imp pa_nil fun σ H Q ⟨ow, io, fr, m, rp, p⟩ => p io H [] (.refl _ _) rp.h .nil
theorem sa_cons {e : Expr} {es : List Expr} {f : Fe} {fs : List Fe} (h : SE X S W e f) (t : PA X es (tRs S W (evsF fs))) (hs : starEach (e :: es) X.env = (false, eval e X.env) :: starEach es X.env) :
    PA X (e :: es) (tRs S W (evsF (f :: fs))) := by
  refine PA.imp (pa_cons h t hs) fun σ H Q ⟨ow, io, fr, m, rp, p⟩ => ?_
  have p : Posts S W ow io H σ Q ((f fr m).bind fun x m1 => (evsF fs fr m1).bind fun xs m2 => .ok (x :: xs) m2) := p
  refine ⟨ow, io, fr, m, rp, p.seq fun x m1 io1 H1 v x1 r1 v1 p1 => ?_⟩
  refine ⟨ow, io1, fr, m1, rp.ex x1 r1, p1.seqs fun xs m2 io2 H2 vs x2 r2 v2 p2 => ?_⟩
  exact p2 io2 H2 _ (.refl _ _) r2 (.cons (v1.ex x2) v2)
theorem se_tup {es : List Expr} {k : Nat} {fs : Fes} (h : PA X es (tRs S W fs)) : SE X S W (.Tuple es k pos) (fun fr m => (fs fr m).bind fun ds m1 => if ds.length ≤ sizeLine then .ok (.tup ds) m1 else .bad) := by
  refine PE.imp (pe_tup h) fun σ H Q ⟨ow, io, fr, m, rp, p⟩ => ?_
  refine ⟨ow, io, fr, m, rp, p.seqs fun ds m1 io1 H1 vs x1 r1 v1 p1 => ?_⟩
  split at p1
  · rename_i hl
    rw [v1.length] at hl
    exact ⟨hl, fun q hq => p1.laid r1 hq (.mk_tup hq (notOwned (rp.ex x1 r1) hq) v1)⟩
  · exact p1.elim
theorem se_lst {es : List Expr} {fs : Fes} (h : PA X es (tRs S W fs)) : SE X S W (.List es pos) (fun fr m => (fs fr m).bind fun ds m1 => if ds.length ≤ sizeLine then .ok (.lst ds) m1 else .bad) := by
  refine PE.imp (pe_lst h) fun σ H Q ⟨ow, io, fr, m, rp, p⟩ => ?_
  refine ⟨ow, io, fr, m, rp, p.seqs fun ds m1 io1 H1 vs x1 r1 v1 p1 => ?_⟩
  split at p1
  · rename_i hl
    rw [v1.length] at hl
    exact ⟨hl, fun q hq => p1.laid r1 hq (.mk_lst hq (notOwned (rp.ex x1 r1) hq) v1)⟩
  · exact p1.elim
/-! items, slices, fields -/
theorem seqD_ok {ow : Addr → Prop} {io : List Addr} {H : Hp} {m : MH} {x : D} {v : V} {xs : List D} (h : RH S ow io H m) (hx : RVo S ow io H x v) (e : seqD x m = some xs) :
    ∃ a vs, v = .ref a ∧ (SqL S.K H a vs ∨ SqT S.K H a vs) ∧ RVs S ow io H xs vs := by
  unfold seqD at e
  split at e
  · cases e
    obtain ⟨p1, vs, rfl, h1, q1⟩ := hx.of_tup
    exact ⟨p1, vs, rfl, .inr h1, q1⟩
  · cases e
    obtain ⟨p1, vs, rfl, h1, q1⟩ := hx.of_lst
    exact ⟨p1, vs, rfl, .inl (.of h1), q1⟩
  · cases e
    obtain ⟨p1, vs, rfl, h1, q1⟩ := hx.of_fz
    exact ⟨p1, vs, rfl, .inl h1, q1⟩
  · split at e
    · rename_i em
      cases e
      obtain ⟨p1, rfl, e0, vs, h1, q1⟩ := hx.of_ref h em
      exact ⟨p1, vs, rfl, .inl (.of h1), q1⟩
    · cases e
  · cases e
theorem se_idx (ov : Ov S X) (ha : SEo X S W a fa) (hb : SE X S W b fb) (hs : PlainIx b) : SE X S W (.Subscript a b pos) (fun fr m => (fa fr m).bind fun x m1 => (fb fr m1).bind fun y m2 => optR (idxD x y m2) m2) := by
  refine op2 (g := fun x y m2 => optR (idxD x y m2) m2) (pe_ix (ix_seq) ha (se_o hb) hs) fun ow io H fr m σ x y v u Q rp hx hy p => ?_
  rw [ov.K]
  unfold idxD at p
  split at p
  · rename_i i
    cases hy.of_int
    split at p
    · rename_i z
      cases hx.of_str
      split at p
      · rename_i hz
        cases e : atI z.cps.toList i with
        | none => rw [e] at p; exact p.elim
        | some c =>
          rw [e] at p
          exact .inr (.inr ⟨z, i, c, rfl, rfl, hz, e, p.here rp.h .mk_str⟩)
      · exact p.elim
    · cases e : seqD x m with
      | none => rw [e] at p; exact p.elim
      | some xs =>
      rw [e] at p
      dsimp only at p
      obtain ⟨a, vs, rfl, hs, q1⟩ := seqD_ok rp.h hx e
      cases e : atI xs i with
      | none => rw [e] at p; exact p.elim
      | some d =>
        rw [e] at p
        obtain ⟨w, e1, q2⟩ := atI_rv q1 e
        rcases hs with hs | hs
        · exact .inl ⟨a, vs, i, w, rfl, rfl, hs, e1, p.here rp.h q2⟩
        · exact .inr (.inl ⟨a, vs, i, w, rfl, rfl, hs, e1, p.here rp.h q2⟩)
  · exact p.elim
end
end Mp
end
section
set_option Elab.async false
set_option linter.all false
set_option maxRecDepth 100000
set_option maxHeartbeats 2000000
/-! MpLstS: list(text). -/
namespace Mp
open PySem PySem.Spec PyProof.Rows L2
theorem vals_signs {x : Str} {its : List Value} (hl : its.length = x.cps.toList.length) (h : ∀ (j : Nat) (v : Value), its[j]? = some v → ∃ c t, x.cps[j]? = some c ∧ v = .str ⟨#[c]⟩ t) : Vals (x.cps.toList.map fun c => V.str ⟨#[c]⟩) its := by
  have key : ∀ (l : List Nat) (us : List Value), us.length = l.length → (∀ (j : Nat) (v : Value), us[j]? = some v → ∃ c t, l[j]? = some c ∧ v = .str ⟨#[c]⟩ t) → Vals (l.map fun c => V.str ⟨#[c]⟩) us := by
    intro l
    induction l with
    | nil =>
      intro us e _
      have : us = [] := List.eq_nil_of_length_eq_zero e
      subst this
      exact .nil
    | cons c l ih =>
      intro us e h
      cases us with
      | nil => simp at e
      | cons u us =>
        obtain ⟨c', t, e1, e2⟩ := h 0 u rfl
        simp at e1
        subst e1 e2
        exact .cons ⟨t, rfl⟩ (ih us (by simpa using e) fun j v hv => by
          obtain ⟨c', t', e1, e2⟩ := h (j + 1) v (by simpa using hv)
          exact ⟨c', t', by simpa using e1, e2⟩)
  refine key _ _ hl fun j v hv => ?_
  obtain ⟨c, t, e1, e2⟩ := h j v hv
  exact ⟨c, t, by rw [← e1]; simp, e2⟩
theorem call_listS {X : Cx} (hc : X.calm = true) : CallR X (.type "list") (fun xs H Q => ∃ z, xs = [.str z] ∧ z.length ≤ sizeLine ∧ ∀ l, H l = none → Q (.ref l) (upd H l (.lst (z.cps.toList.map fun c => V.str ⟨#[c]⟩)))) := by
  intro pins s σ H xs us Q I r h
  obtain ⟨z, rfl, hz, q⟩ := h
  obtain ⟨u, rfl, t, rfl⟩ := vals1 r
  refine call_list_str (hn := hz) (I.ok.hd hc) z t fun h' tk acc' c' hk hS' hacc => ?_
  have rv : Vals (z.cps.toList.map fun c => V.str ⟨#[c]⟩) acc'.toList := vals_signs (by have := hacc.1; simp at this ⊢; omega) fun j v hv => by
    obtain ⟨c, u, e1, e2⟩ := hacc.2 j v (by simpa using hv)
    exact ⟨c, u, e1, e2⟩
  refine ⟨.ref s.heap.objs.size, _, I.laid (t' := tk) hk (Nat.le_refl _) (show ObjOk X.prog X.w _ h' _ (.lst (z.cps.toList.map fun c => V.str ⟨#[c]⟩)) from ⟨?_, acc'.toList, c', rv, by simpa using hS'⟩), rfl, q _ (I.hok.fresh (Nat.le_refl _))⟩
  rw [List.length_map, Array.length_toList]
  exact hz
end Mp
end
section
set_option Elab.async false
set_option linter.all false
set_option maxRecDepth 100000
set_option maxHeartbeats 1000000
/-! MpSrt: sorted lists are told by their items. -/
namespace Mp
open PySem PySem.Spec PyProof.Rows L2
theorem insI_perm (x : Int) : ∀ ys : List Int, (insI x ys).Perm (x :: ys)
  | [] => .refl _
  | y :: ys => by
    unfold insI
    split
    · exact .refl _
    · exact ((insI_perm x ys).cons y).trans (.swap x y ys)
theorem srtI_perm : ∀ xs : List Int, (srtI xs).Perm xs
  | [] => .refl _
  | x :: xs => (insI_perm x (srtI xs)).trans ((srtI_perm xs).cons x)
theorem insI_sorted (x : Int) : ∀ {ys : List Int}, ys.Pairwise (· ≤ ·) → (insI x ys).Pairwise (· ≤ ·)
  | [], _ => by simp [insI]
  | y :: ys, h => by
    unfold insI
    split
    · rename_i hxy
      rw [List.pairwise_cons] at h ⊢
      refine ⟨fun z hz => ?_, List.pairwise_cons.mpr h⟩
      rcases List.mem_cons.mp hz with rfl | hz
      · exact hxy
      · exact Int.le_trans hxy (h.1 z hz)
    · rename_i hxy
      rw [List.pairwise_cons] at h ⊢
      refine ⟨fun z hz => ?_, insI_sorted x h.2⟩
      rcases List.mem_cons.mp ((insI_perm x ys).mem_iff.mp hz) with rfl | hz
      · omega
      · exact h.1 z hz
theorem srtI_sorted : ∀ xs : List Int, (srtI xs).Pairwise (· ≤ ·)
  | [] => List.Pairwise.nil
  | x :: xs => insI_sorted x (srtI_sorted xs)
theorem srtI_of {ns xs : List Int} (p : ns.Perm xs) (h : ns.Pairwise (· ≤ ·)) : ns = srtI xs :=
  (p.trans (srtI_perm xs).symm).eq_of_pairwise (fun a b _ _ h1 h2 => Int.le_antisymm h1 h2) h (srtI_sorted xs)
/-! texts -/
def leS (x y : Str) : Prop := ltCps y.cps.toList x.cps.toList = false
theorem ltC_asymm : ∀ {a b : List Nat}, ltCps a b = true → ltCps b a = false
  | [], [], h => by simp [ltCps] at h
  | [], _ :: _, _ => by simp [ltCps]
  | _ :: _, [], h => by simp [ltCps] at h
  | a :: r, b :: t, h => by
    unfold ltCps at h ⊢
    simp only [Bool.or_eq_true, decide_eq_true_eq, Bool.and_eq_true, beq_iff_eq] at h
    rcases h with h | ⟨rfl, h⟩
    · have : ¬ b < a := by omega
      have : b ≠ a := by omega
      simp [*]
    · simp [ltC_asymm h]
theorem ltC_total : ∀ {a b : List Nat}, ltCps a b = false → ltCps b a = false → a = b
  | [], [], _, _ => rfl
  | [], _ :: _, h, _ => by simp [ltCps] at h
  | _ :: _, [], _, h => by simp [ltCps] at h
  | a :: r, b :: t, h1, h2 => by
    unfold ltCps at h1 h2
    simp only [Bool.or_eq_false_iff, decide_eq_false_iff_not, Bool.and_eq_false_imp, beq_iff_eq] at h1 h2
    have e : a = b := by omega
    subst e
    rw [ltC_total (h1.2 rfl) (h2.2 rfl)]
theorem ltC_trans : ∀ {a b c : List Nat}, ltCps a b = true → ltCps b c = true → ltCps a c = true
  | [], [], _, h, _ => by simp [ltCps] at h
  | [], _ :: _, [], _, h => by simp [ltCps] at h
  | [], _ :: _, _ :: _, _, _ => by simp [ltCps]
  | _ :: _, [], _, h, _ => by simp [ltCps] at h
  | _ :: _, _ :: _, [], _, h => by simp [ltCps] at h
  | a :: r, b :: t, c :: u, h1, h2 => by
    unfold ltCps at h1 h2 ⊢
    simp only [Bool.or_eq_true, decide_eq_true_eq, Bool.and_eq_true, beq_iff_eq] at h1 h2 ⊢
    rcases h1 with h1 | ⟨rfl, h1⟩
    · rcases h2 with h2 | ⟨rfl, h2⟩
      · exact .inl (by omega)
      · exact .inl h1
    · rcases h2 with h2 | ⟨rfl, h2⟩
      · exact .inl h2
      · exact .inr ⟨rfl, ltC_trans h1 h2⟩
theorem leS_trans {x y z : Str} (h1 : leS x y) (h2 : leS y z) : leS x z := by
  unfold leS at *
  cases e : ltCps z.cps.toList x.cps.toList with
  | false => rfl
  | true =>
    cases e2 : ltCps x.cps.toList y.cps.toList with
    | true => rw [ltC_trans e e2] at h2; cases h2
    | false =>
      have := ltC_total e2 h1
      rw [this] at e
      rw [e] at h2
      cases h2
theorem str_ext {x y : Str} (h : x.cps.toList = y.cps.toList) : x = y := by
  obtain ⟨a⟩ := x
  obtain ⟨b⟩ := y
  have : a = b := Array.ext' h
  rw [this]
theorem leS_antisymm {x y : Str} (h1 : leS x y) (h2 : leS y x) : x = y := str_ext (ltC_total h2 h1)
theorem insS_perm (x : Str) : ∀ ys : List Str, (insS x ys).Perm (x :: ys)
  | [] => .refl _
  | y :: ys => by
    unfold insS
    split
    · exact ((insS_perm x ys).cons y).trans (.swap x y ys)
    · exact .refl _
theorem srtS_perm : ∀ xs : List Str, (srtS xs).Perm xs
  | [] => .refl _
  | x :: xs => (insS_perm x (srtS xs)).trans ((srtS_perm xs).cons x)
theorem insS_sorted (x : Str) : ∀ {ys : List Str}, ys.Pairwise leS → (insS x ys).Pairwise leS
  | [], _ => by simp [insS]
  | y :: ys, h => by
    unfold insS
    split
    · rename_i hxy
      rw [List.pairwise_cons] at h ⊢
      refine ⟨fun z hz => ?_, insS_sorted x h.2⟩
      rcases List.mem_cons.mp ((insS_perm x ys).mem_iff.mp hz) with rfl | hz
      · exact ltC_asymm hxy
      · exact h.1 z hz
    · rename_i hxy
      have hxy : leS x y := by unfold leS; simpa using hxy
      rw [List.pairwise_cons] at h ⊢
      refine ⟨fun z hz => ?_, List.pairwise_cons.mpr h⟩
      rcases List.mem_cons.mp hz with rfl | hz
      · exact hxy
      · exact leS_trans hxy (h.1 z hz)
theorem srtS_sorted : ∀ xs : List Str, (srtS xs).Pairwise leS
  | [] => List.Pairwise.nil
  | x :: xs => insS_sorted x (srtS_sorted xs)
theorem risingS_pw : ∀ {xs : List Str} {p : Str}, risingS p xs = true → (p :: xs).Pairwise leS
  | [], _, _ => by simp
  | x :: xs, p, h => by
    unfold risingS at h
    rw [Bool.and_eq_true] at h
    have i := risingS_pw h.2
    have hpx : leS p x := by unfold leS; simpa using h.1
    rw [List.pairwise_cons]
    refine ⟨fun z hz => ?_, i⟩
    rcases List.mem_cons.mp hz with rfl | hz
    · exact hpx
    · exact leS_trans hpx ((List.pairwise_cons.mp i).1 z hz)
theorem sortedS_pw {xs : List Str} (h : sortedS xs = true) : xs.Pairwise leS := by
  cases xs with
  | nil => exact List.Pairwise.nil
  | cons x r => exact risingS_pw h
theorem srtS_of {ns xs : List Str} (p : ns.Perm xs) (h : sortedS ns = true) : ns = srtS xs :=
  (p.trans (srtS_perm xs).symm).eq_of_pairwise (fun a b _ _ h1 h2 => leS_antisymm h1 h2) (sortedS_pw h) (srtS_sorted xs)
end Mp
end
section
set_option Elab.async false
set_option linter.all false
set_option maxRecDepth 100000
set_option maxHeartbeats 1000000
/-! MpCalls: calls of defs and of built-ins. -/
namespace Mp
open PySem PySem.Spec PyProof.Rows L2

/-! ### no star -/
def nst : Expr → Bool
  | .Starred .. => false
  | _ => true
theorem starEach_ns {e : Expr} {es : List Expr} {env : Env} (h : nst e = true) : starEach (e :: es) env = (false, eval e env) :: starEach es env := by
  cases e <;> first | rfl | cases h
theorem stars_any {pos : Pos} {env : Env} : ∀ {es : List Expr}, es.all nst = true → (backTo pos (starEach es env)).any (·.1) = false
  | [], _ => rfl
  | e :: es, h => by
    rw [List.all_cons, Bool.and_eq_true] at h
    rw [starEach_ns h.1]
    show (false || (backTo pos (starEach es env)).any (·.1)) = false
    rw [stars_any h.2]
    rfl
theorem kws_some {pos : Pos} {env : Env} : ∀ {kws : List Keyword} {ks : List Str}, kws.map (·.arg) = ks.map some → (backToKw pos (keywordEach kws env)).all (·.1.isSome) = true ∧ (backToKw pos (keywordEach kws env)).filterMap (·.1) = ks ∧ (backToKw pos (keywordEach kws env)).any (·.1.isNone) = false
  | [], [], _ => ⟨rfl, rfl, rfl⟩
  | [], _ :: _, h => by cases h
  | _ :: _, [], h => by cases h
  | ⟨nm, e, p⟩ :: kws, k :: ks, h => by
    rw [List.map_cons, List.map_cons, List.cons.injEq] at h
    obtain ⟨h1, h2⟩ := h
    have h1 : nm = some k := h1
    subst h1
    obtain ⟨a1, a2, a3⟩ := kws_some (pos := pos) (env := env) h2
    refine ⟨?_, ?_, ?_⟩
    · show (true && (backToKw pos (keywordEach kws env)).all (·.1.isSome)) = true
      rw [a1]; rfl
    · show k :: (backToKw pos (keywordEach kws env)).filterMap (·.1) = k :: ks
      rw [a2]
    · show (false || (backToKw pos (keywordEach kws env)).any (·.1.isNone)) = false
      rw [a3]; rfl

/-! ### a def's promise from its meaning -/
def spOf (S : Sta) (n : Nat) (f : List D → MH → R D) : Sp := fun vs H Q E => ∃ ow io ds m, RH S ow io H m ∧ (∀ a, ow a → ¬ NT H a) ∧ RVs S ow io H ds vs ∧ ds.length = n ∧ Post S (fun c d _ H' => E c d H') ow io H [] Q (f ds m)
/-- the def called x, n parameters, keeps f's promise at level k -/
def CalOk (S : Sta) (k : Nat) (x : Str) (n : Nat) (f : List D → MH → R D) : Prop :=
  ∃ (fa : Addr) (fd : FuncData) (ps : List Str), S.mg x = some (.ref fa) ∧ PySem.W.keepIn S.K (.ref fa) = true ∧ ps.length = n ∧ Binds S.K fd ps [] ∧ FnOk S.P S.w S.K S.mg S.base (L2.CX S.P S.w) k fa fd ps (spOf S n f)
/-- .. with n values by place and the keywords ks, put in place by b -/
def CalKOk (S : Sta) (k : Nat) (x : Str) (n : Nat) (ks : List Str) (b : List D → List D → Option (List D)) (f : List D → MH → R D) : Prop :=
  ∃ (fa : Addr) (fd : FuncData) (ps : List Str) (g : List Value → List Value → List Value) (gV : List V → List V → List V), S.mg x = some (.ref fa) ∧ PySem.W.keepIn S.K (.ref fa) = true ∧ KBn S.K fd ps n ks g gV ∧
    (∀ ow io H ds zs vs us as, RVs S ow io H ds vs → RVs S ow io H zs us → b ds zs = some as → ds.length = n ∧ zs.length = ks.length ∧ RVs S ow io H as (gV vs us)) ∧ (∀ ds zs as, b ds zs = some as → as.length = ps.length) ∧ FnOk S.P S.w S.K S.mg S.base (L2.CX S.P S.w) k fa fd ps (spOf S ps.length f)
theorem Post.wish {S : Sta} {W : WX} {ow : Addr → Prop} {io : List Addr} {H : Hp} {σ : L2.St} {Q : VK} {r : R D} (p : Post S W ow io H σ Q r) : Post S (fun c d _ H' => W c d σ H') ow io H [] Q r := by
  cases r with
  | ok d m => exact p
  | exc x m => exact p
  | bad => exact p
section
variable {X : Cx} {S : Sta} {W : WX} {x : Str} {p pos : Pos} {es : List Expr} {fs : Fes}
theorem fnok_over {k fa : Nat} {fd : FuncData} {ps : List Str} {sp : Sp} (ov : Ov S X) (F : FnOk S.P S.w S.K S.mg S.base (L2.CX S.P S.w) k fa fd ps sp) : FnOk X.prog X.w X.K X.mg X.base (L2.CX X.prog X.w) k fa fd ps sp := by
  rw [ov.P, ov.w, ov.K, ov.mg, ov.base]; exact F
theorem key_call {k n : Nat} {f : List D → MH → R D} {σ : L2.St} {H : Hp} {Q : VK} {ow : Addr → Prop} {io : List Addr} {fr : Fr} {m : MH} (rp : Rp S ow io H fr m σ) (hl : ∀ fr m ds m', fs fr m = .ok ds m' → ds.length = n)
    (pp : Post S W ow io H σ Q ((fs fr m).bind fun ds m1 => f ds m1)) : Posts S W ow io H σ (fun vs H1 => spOf S n f vs H1 Q (fun c d H' => W c d σ H')) (fs fr m) := by
  cases q : fs fr m with
  | ok ds m1 =>
    rw [q] at pp
    have pp : Post S W ow io H σ Q (f ds m1) := pp
    exact fun io1 H1 vs x1 r1 v1 => ⟨ow, io1, ds, m1, r1, (rp.ex x1 r1).o, v1, hl _ _ _ _ q, (pp.move x1).wish⟩
  | exc y m1 => rw [q] at pp; exact pp
  | bad => rw [q] at pp; exact pp
theorem se_call0 {k : Nat} {f : List D → MH → R D} (ov : Ov S X) (C : CalOk S k x 0 f) (hr : Room k X.A) (tk : Takes X W) (hg : Gl X x) (hdb : (x == ("__debug__" : Str)) = false) :
    SE X S W (.Call (.Name x p) [] [] pos) (fun _ m => f [] m) := by
  obtain ⟨fa, fd, ps, hm, hk, hps, hb, F⟩ := C
  have F := fnok_over ov F
  rw [← ov.mg] at hm
  rw [← ov.K] at hk hb
  refine ⟨fun pins s σ H Q I h => ?_⟩
  refine wpAny_Call_Name_kw (ld_glob I hg hm ?_ hdb)
  obtain ⟨ow, io, fr, m, rp, pp⟩ := h
  exact PySem.W.callWith_K0 I.kIn hk (run_fnS (us := []) F hr hb (passAt tk σ) I .nil ⟨ow, io, [], m, rp.h, rp.o, .nil, rfl, pp.wish⟩)
theorem se_call {k n : Nat} {f : List D → MH → R D} {e : Expr} (ov : Ov S X) (C : CalOk S k x n f) (hr : Room k X.A) (tk : Takes X W) (hg : Gl X x) (ha : PA X (e :: es) (tRs S W fs)) (hn : (e :: es).all nst = true)
    (hdb : (x == ("__debug__" : Str)) = false) (hl : ∀ fr m ds m', fs fr m = .ok ds m' → ds.length = n) :
    SE X S W (.Call (.Name x p) (e :: es) [] pos) (fun fr m => (fs fr m).bind fun ds m1 => f ds m1) := by
  obtain ⟨fa, fd, ps, hm, hk, hps, hb, F⟩ := C
  have F := fnok_over ov F
  rw [← ov.mg] at hm
  rw [← ov.K] at hk hb
  refine ⟨fun pins s σ H Q I h => ?_⟩
  refine wpAny_Call_Name_kw (ld_glob I hg hm ?_ hdb)
  obtain ⟨ow, io, fr, m, rp, pp⟩ := h
  rw [List.all_cons, Bool.and_eq_true] at hn
  refine PySem.W.callWith_K (h₀ := X.base) I.ok.mod.kin hk (thn (ha.run pos pins s σ H _ I ⟨ow, io, fr, m, rp, key_call (k := k) rp hl pp⟩) fun us s1 ⟨vs, H1, I1, r, q⟩ => ⟨I1.kIn, ?_⟩) (starEach_ns hn.1) (stars_any hn.2)
  exact run_fnS F hr hb (passAt tk σ) I1 r q
/-! with keywords -/
theorem key_callK {k n : Nat} {ks : List Str} {ps : List Str} {b : List D → List D → Option (List D)} {gV : List V → List V → List V} {f : List D → MH → R D} {σ : L2.St} {H : Hp} {Q : VK} {ow : Addr → Prop} {io : List Addr} {fr : Fr} {m : MH} {ds : List D} {vs : List V} {gs : Fes}
    (hB : ∀ ow io H ds zs vs us as, RVs S ow io H ds vs → RVs S ow io H zs us → b ds zs = some as → ds.length = n ∧ zs.length = ks.length ∧ RVs S ow io H as (gV vs us))
    (hps : ∀ ds zs as, b ds zs = some as → as.length = ps.length)
    (rp : Rp S ow io H fr m σ) (hv : RVs S ow io H ds vs) (pp : Post S W ow io H σ Q ((gs fr m).bind fun zs m2 => match b ds zs with | some as => f as m2 | none => .bad)) :
    Posts S W ow io H σ (fun us H1 => vs.length = n ∧ us.length = ks.length ∧ spOf S ps.length f (gV vs us) H1 Q (fun c d H' => W c d σ H')) (gs fr m) := by
  cases q : gs fr m with
  | ok zs m1 =>
    rw [q] at pp
    have pp : Post S W ow io H σ Q (match b ds zs with | some as => f as m1 | none => .bad) := pp
    intro io1 H1 us x1 r1 v1
    cases e : b ds zs with
    | none => rw [e] at pp; exact pp.elim
    | some as =>
      rw [e] at pp
      obtain ⟨l1, l2, q1⟩ := hB ow io1 H1 ds zs vs us as (hv.ex x1) v1 e
      refine ⟨by rw [← (hv.ex x1).length]; exact l1, by rw [← v1.length]; exact l2, ow, io1, as, m1, r1, (rp.ex x1 r1).o, q1, hps _ _ _ e, (pp.move x1).wish⟩
  | exc y m1 => rw [q] at pp; exact pp
  | bad => rw [q] at pp; exact pp
theorem run_fnNS {k n fa : Nat} {fd : FuncData} {ps ks : List Str} {sp : Sp} {g : List Value → List Value → List Value} {gV : List V → List V → List V} {E : L2.St → XK} {pins : List (Addr × Obj)} {s : Shared} {σ : L2.St} {H : Hp} {Q : VK} {us ws : List Value} {vs zs : List V}
    (F : FnOk X.prog X.w X.K X.mg X.base (L2.CX X.prog X.w) k fa fd ps sp) (hr : Room k X.A) (hb : KBn X.K fd ps n ks g gV) (hx : PassesAt (L2.CX X.prog X.w) X σ (E σ))
    (I : Inv X pins σ H s) (r : Vals vs us) (rz : Vals zs ws) (l1 : vs.length = n) (l2 : zs.length = ks.length) (h : sp (gV vs zs) H Q (E σ)) : wpAny (model X.prog X.w) X.A (call (.ref fa) us (ks.zip ws)) (EP X pins σ Q) X.xe s := by
  have r2 := hb.rel r rz
  refine wpAny_call (codeAny_mono (F.run X.A X.stack s H ⟨us, ks.zip ws⟩ (g us ws) (gV vs zs) Q (E σ) hr I.env0 (hb.to s us ws I.kIn (r.length.symm.trans l1) (rz.length.symm.trans l2)) r2 h) fun r s' hq => ?_)
  cases r with
  | error e => exact hx pins H s e s' I hq
  | ok fl =>
    cases fl with
    | ret u => exact I.after hq
    | next => exact False.elim hq
    | brk => exact False.elim hq
    | cont => exact False.elim hq
/-- the keywords' values -/
theorem sk_nil : PK X [] (tRs S W (evsF [])) := ⟨fun pos pins s σ H Q I ⟨ow, io, fr, m, rp, p⟩ => pk_nil.run pos pins s σ H Q I (p io H [] (.refl _ _) rp.h .nil)⟩
theorem sk_cons {nm : Option Str} {kp : Pos} {e : Expr} {kws : List Keyword} {f : Fe} {gs : List Fe} (h : SE X S W e f) (t : PK X kws (tRs S W (evsF gs))) : PK X (⟨nm, e, kp⟩ :: kws) (tRs S W (evsF (f :: gs))) := by
  refine ⟨fun pos pins s σ H Q I ⟨ow, io, fr, m, rp, p⟩ => (pk_cons h t).run pos pins s σ H Q I ?_⟩
  have p : Posts S W ow io H σ Q ((f fr m).bind fun x m1 => (evsF gs fr m1).bind fun xs m2 => .ok (x :: xs) m2) := p
  refine ⟨ow, io, fr, m, rp, p.seq fun x m1 io1 H1 v x1 r1 v1 p1 => ?_⟩
  refine ⟨ow, io1, fr, m1, rp.ex x1 r1, p1.seqs fun xs m2 io2 H2 vs x2 r2 v2 p2 => ?_⟩
  exact p2 io2 H2 _ (.refl _ _) r2 (.cons (v1.ex x2) v2)
theorem se_callK {k n : Nat} {ks : List Str} {b : List D → List D → Option (List D)} {f : List D → MH → R D} {gs : Fes} {kws : List Keyword} (ov : Ov S X) (C : CalKOk S k x n ks b f) (hr : Room k X.A) (tk : Takes X W) (hg : Gl X x)
    (ha : PA X es (tRs S W fs)) (hkw : PK X kws (tRs S W gs)) (hks : kws.map (·.arg) = ks.map some) (hn : es.all nst = true) (hdb : (x == ("__debug__" : Str)) = false) (h0 : es = [] → fs = fun _ m => .ok [] m) :
    SE X S W (.Call (.Name x p) es kws pos) (fun fr m => (fs fr m).bind fun ds m1 => (gs fr m1).bind fun zs m2 => match b ds zs with | some as => f as m2 | none => .bad) := by
  obtain ⟨fa, fd, ps, g, gV, hm, hk, hb, hB, hps, F⟩ := C
  have F := fnok_over ov F
  rw [← ov.mg] at hm
  rw [← ov.K] at hk hb
  obtain ⟨a1, a2, a3⟩ := kws_some (pos := pos) (env := X.env) hks
  refine ⟨fun pins s σ H Q I h => ?_⟩
  refine wpAny_Call_Name_kw (ld_glob I hg hm ?_ hdb)
  obtain ⟨ow, io, fr, m, rp, pp⟩ := h
  cases es with
  | nil =>
    rw [h0 rfl] at pp
    have pp : Post S W ow io H σ Q ((gs fr m).bind fun zs m2 => match b [] zs with | some as => f as m2 | none => .bad) := pp
    have key := key_callK (ps := ps) (k := k) hB hps rp RVs.nil pp
    refine PySem.W.callWith_KW0 (h₀ := X.base) I.ok.mod.kin hk a1 (thn (hkw.run pos pins s σ H _ I ⟨ow, io, fr, m, rp, key⟩) fun ws s1 ⟨zs, H1, I1, rz, l1, l2, q⟩ => ⟨I1.kIn, ?_⟩) (by rw [a3]; rfl)
    rw [a2]
    exact run_fnNS (us := []) (vs := []) (E := fun σ c d H' => W c d σ H') F hr hb (passAt tk σ) I1 .nil rz l1 l2 q
  | cons e es =>
    rw [List.all_cons, Bool.and_eq_true] at hn
    have key : Posts S W ow io H σ (fun vs H1 => tRs S W gs σ H1 (fun us H2 => vs.length = n ∧ us.length = ks.length ∧ spOf S ps.length f (gV vs us) H2 Q (fun c d H' => W c d σ H'))) (fs fr m) :=
      pp.seqs fun ds m1 io1 H1 vs x1 r1 v1 p1 => ⟨ow, io1, fr, m1, rp.ex x1 r1, key_callK (ps := ps) (k := k) hB hps (rp.ex x1 r1) v1 p1⟩
    refine PySem.W.callWith_KW (h₀ := X.base) I.ok.mod.kin hk a1 (thn (ha.run pos pins s σ H _ I ⟨ow, io, fr, m, rp, key⟩) fun us s1 ⟨vs, H1, I1, r, q⟩ => thn (hkw.run pos pins s1 σ H1 _ I1 q) fun ws s2 ⟨zs, H2, I2, rz, l1, l2, q2⟩ => ⟨I2.kIn, ?_⟩)
      (by rw [a3, starEach_ns hn.1]; show ((false || (backTo pos (starEach es X.env)).any (·.1)) || false) = false; rw [stars_any hn.2]; rfl) (starEach_ns hn.1)
    rw [a2]
    exact run_fnNS (E := fun σ c d H' => W c d σ H') F hr hb (passAt tk σ) I2 r rz l1 l2 q2
/-! ### built-ins -/
def blName : Bl → Str
  | .len => "len" | .int_ => "int" | .abs => "abs" | .all => "all" | .any => "any" | .list => "list" | .tuple => "tuple" | .str => "str" | .sum => "sum" | .max2 => "max" | .min2 => "min" | .sorted => "sorted"
theorem blsD_rv {ow : Addr → Prop} {io : List Addr} {H : Hp} : ∀ {ds : List D} {bs : List Bool} {vs : List V}, blsD ds = some bs → RVs S ow io H ds vs → vs = bs.map V.bl
  | [], _, _, e, h => by unfold blsD at e; cases e; unfold RVs at h; exact h
  | d :: ds, _, _, e, h => by
    unfold RVs at h
    obtain ⟨v, r, rfl, h1, h2⟩ := h
    cases d with
    | bl b =>
      simp only [blsD, Option.map_eq_some_iff] at e
      obtain ⟨bs, e1, rfl⟩ := e
      rw [h1.of_bl, blsD_rv e1 h2]
      rfl
    | _ => cases e
/-! operands -/
def RVso (S : Sta) (ow : Addr → Prop) (io : List Addr) (H : Hp) : List D → List V → Prop
  | [], vs => vs = []
  | d :: ds, vs => ∃ v r, vs = v :: r ∧ RVo S ow io H d v ∧ RVso S ow io H ds r
theorem RVs.so {ow : Addr → Prop} {io : List Addr} {H : Hp} : ∀ {ds : List D} {vs : List V}, RVs S ow io H ds vs → RVso S ow io H ds vs
  | [], _, h => by unfold RVs at h; exact h
  | d :: ds, _, h => by
    unfold RVs at h
    obtain ⟨v, r, rfl, h1, h2⟩ := h
    exact ⟨v, r, rfl, h1.o, RVs.so h2⟩
def PostsO (S : Sta) (W : WX) (ow : Addr → Prop) (io : List Addr) (H : Hp) (σ : L2.St) (Q : List V → Hp → Prop) : R (List D) → Prop
  | .ok ds m' => ∀ io' H' vs, Ex io H io' H' → RH S ow io' H' m' → RVso S ow io' H' ds vs → Q vs H'
  | .exc x m' => ∀ io' H' dx fs, Ex io H io' H' → RH S ow io' H' m' → H' dx = some (.xd fs) → dx ∉ io' → ¬ ow dx → RFs S ow io' H' x.ns x.ds fs → W (.ref (S.ca x.c)) (some dx) σ H'
  | .bad => False
def tRso (S : Sta) (W : WX) (f : Fes) : TA := fun σ H Q => ∃ ow io fr m, Rp S ow io H fr m σ ∧ PostsO S W ow io H σ Q (f fr m)
theorem Post.seqsO {ow : Addr → Prop} {io : List Addr} {H : Hp} {σ : L2.St} {Q : VK} {r : R (List D)} {k : List D → MH → R D} {Q1 : List V → Hp → Prop} (p : Post S W ow io H σ Q (r.bind k))
    (st : ∀ x m1 io1 H1 v, Ex io H io1 H1 → RH S ow io1 H1 m1 → RVso S ow io1 H1 x v → Post S W ow io1 H1 σ Q (k x m1) → Q1 v H1) : PostsO S W ow io H σ Q1 r := by
  cases r with
  | ok d m' => exact fun io' H' v y h q => st d m' io' H' v y h q (p.move y)
  | exc e m' => exact p
  | bad => exact p
theorem sao_nil : PA X [] (tRso S W (evsF [])) := PA.imp pa_nil fun σ H Q ⟨ow, io, fr, m, rp, p⟩ => p io H [] (.refl _ _) rp.h rfl
theorem PostsO.move {ow : Addr → Prop} {io io1 : List Addr} {H H1 : Hp} {σ : L2.St} {Q : List V → Hp → Prop} {r : R (List D)} (p : PostsO S W ow io H σ Q r) (x : Ex io H io1 H1) : PostsO S W ow io1 H1 σ Q r := by
  cases r with
  | ok d m' => exact fun io' H' v y h q => p io' H' v (x.trans y) h q
  | exc e m' => exact fun io' H' dx fs y => p io' H' dx fs (x.trans y)
  | bad => exact p
theorem sao_cons {e : Expr} {es : List Expr} {f : Fe} {fs : List Fe} (h : SEo X S W e f) (t : PA X es (tRso S W (evsF fs))) (hs : starEach (e :: es) X.env = (false, eval e X.env) :: starEach es X.env) :
    PA X (e :: es) (tRso S W (evsF (f :: fs))) := by
  refine PA.imp (pa_cons h t hs) fun σ H Q ⟨ow, io, fr, m, rp, p⟩ => ?_
  have p : PostsO S W ow io H σ Q ((f fr m).bind fun x m1 => (evsF fs fr m1).bind fun xs m2 => .ok (x :: xs) m2) := p
  refine ⟨ow, io, fr, m, rp, ?_⟩
  cases q : f fr m with
  | bad => rw [q] at p; exact p
  | exc x m1 => rw [q] at p; exact p
  | ok x m1 =>
    rw [q] at p
    intro io1 H1 v x1 r1 v1
    have p1 := p.move x1
    dsimp only [R.ok_bind] at p1
    refine ⟨ow, io1, fr, m1, rp.ex x1 r1, ?_⟩
    cases q2 : evsF fs fr m1 with
    | bad => rw [q2] at p1; exact p1
    | exc y m2 => rw [q2] at p1; exact p1
    | ok xs m2 =>
      rw [q2] at p1
      intro io2 H2 vs x2 r2 v2
      exact p1 io2 H2 (v :: vs) x2 r2 ⟨v, vs, rfl, v1.ex x2, v2⟩
/-- what a built-in asks and gives -/
def BlR (X : Cx) (S : Sta) (W : WX) (b : Bl) (r : List V → Hp → VK → Prop) : Prop :=
  ∀ ow io H fr m σ ds vs Q, Rp S ow io H fr m σ → RVso S ow io H ds vs → Post S W ow io H σ Q (optR (bltD b ds m) m) → r vs H Q
theorem RVso.one {ow : Addr → Prop} {io : List Addr} {H : Hp} {x : D} {vs : List V} (h : RVso S ow io H [x] vs) : ∃ v, vs = [v] ∧ RVo S ow io H x v := by
  obtain ⟨v, r, rfl, h1, h2⟩ := h
  cases h2
  exact ⟨v, rfl, h1⟩
theorem RVso.two {ow : Addr → Prop} {io : List Addr} {H : Hp} {x y : D} {vs : List V} (h : RVso S ow io H [x, y] vs) : ∃ v u, vs = [v, u] ∧ RVo S ow io H x v ∧ RVo S ow io H y u := by
  obtain ⟨v, r, rfl, h1, h2⟩ := h
  obtain ⟨u, rfl, h3⟩ := h2.one
  exact ⟨v, u, rfl, h1, h3⟩
theorem RVs.one {ow : Addr → Prop} {io : List Addr} {H : Hp} {x : D} {vs : List V} (h : RVs S ow io H [x] vs) : ∃ v, vs = [v] ∧ RV S ow io H x v := by
  unfold RVs at h
  obtain ⟨v, r, rfl, h1, h2⟩ := h
  unfold RVs at h2
  subst h2
  exact ⟨v, rfl, h1⟩
inductive BlK (X : Cx) (S : Sta) (W : WX) (b : Bl) : Prop where
  | fn (id : String) (r : List V → Hp → VK → Prop) (hc : CallR X (.builtin id) r) (hv : bootBuiltins (blName b) = some (.builtin id)) (h : BlR X S W b r)
  | ty (T : String) (r : List V → Hp → VK → Prop) (hc : CallR X (.type T) r) (hv : bootBuiltins (blName b) = some (.type T)) (h : BlR X S W b r)
theorem intsD_rv {ow : Addr → Prop} {io : List Addr} {H : Hp} : ∀ {ds : List D} {ns : List Int} {vs : List V}, intsD ds = some ns → RVs S ow io H ds vs → vs = ns.map V.int
  | [], _, _, e, h => by unfold intsD at e; cases e; unfold RVs at h; exact h
  | d :: ds, _, _, e, h => by
    unfold RVs at h
    obtain ⟨v, r, rfl, h1, h2⟩ := h
    cases d with
    | int b =>
      simp only [intsD, Option.map_eq_some_iff] at e
      obtain ⟨bs, e1, rfl⟩ := e
      rw [h1.of_int, intsD_rv e1 h2]
      rfl
    | _ => cases e
theorem RVs.two {ow : Addr → Prop} {io : List Addr} {H : Hp} {x y : D} {vs : List V} (h : RVs S ow io H [x, y] vs) : ∃ v u, vs = [v, u] ∧ RV S ow io H x v ∧ RV S ow io H y u := by
  unfold RVs at h
  obtain ⟨v, r, rfl, h1, h2⟩ := h
  obtain ⟨u, rfl, h3⟩ := h2.one
  exact ⟨v, u, rfl, h1, h3⟩
theorem mk_ints0 {ow : Addr → Prop} {io : List Addr} {H : Hp} : ∀ ns : List Int, RVs S ow io H (ns.map D.int) (ns.map V.int)
  | [] => .nil
  | n :: ns => .cons .mk_int (mk_ints0 ns)
theorem mk_strs0 {ow : Addr → Prop} {io : List Addr} {H : Hp} : ∀ ns : List Str, RVs S ow io H (ns.map D.str) (ns.map V.str)
  | [] => .nil
  | n :: ns => .cons .mk_str (mk_strs0 ns)
theorem keyS_map : ∀ {ks : List Key} {ys : List Str}, keyS ks = some ys → ks = ys.map Sum.inr
  | [], _, h => by cases h; rfl
  | .inr x :: r, ys, h => by
    unfold keyS at h
    obtain ⟨zs, e, rfl⟩ := Option.map_eq_some_iff.mp h
    rw [keyS_map e]
    rfl
  | .inl _ :: _, _, h => by cases h
theorem keyI_map : ∀ {ks : List Key} {ys : List Int}, keyI ks = some ys → ks = ys.map Sum.inl
  | [], _, h => by cases h; rfl
  | .inl x :: r, ys, h => by
    unfold keyI at h
    obtain ⟨zs, e, rfl⟩ := Option.map_eq_some_iff.mp h
    rw [keyI_map e]
    rfl
  | .inr _ :: _, _, h => by cases h
theorem rvs_signs {ow : Addr → Prop} {io : List Addr} {H : Hp} : ∀ l : List Nat, RVs S ow io H (l.map fun c => D.str ⟨#[c]⟩) (l.map fun c => V.str ⟨#[c]⟩)
  | [] => .nil
  | _ :: l => .cons .mk_str (rvs_signs l)
theorem rvs_keys {ow : Addr → Prop} {io : List Addr} {H : Hp} : ∀ kvs : List (Key × V), RVs S ow io H (kvs.map (kyD ∘ fun kv => kv.1)) (kvs.map fun kv => kV kv.1)
  | [] => .nil
  | (.inl _, _) :: l => .cons .mk_int (rvs_keys l)
  | (.inr _, _) :: l => .cons .mk_str (rvs_keys l)
theorem bl_ok (ov : Ov S X) (hc : X.calm = true) (b : Bl) : BlK X S W b := by
  cases b with
  | len =>
    refine .fn "len" _ (call_len_seq.or call_len_str) (by decide +kernel) fun ow io H fr m σ ds vs Q rp hv p => ?_
    simp only [bltD] at p
    unfold lenB at p
    split at p
    · rename_i x
      obtain ⟨v, rfl, h1⟩ := hv.one
      cases e : lenD x m with
      | none => rw [e] at p; exact p.elim
      | some n =>
        rw [e] at p
        have q := p.here rp.h .mk_int
        unfold lenD at e
        split at e
        · split at e
          · cases e
            rename_i hl
            cases h1.of_str
            exact .inr ⟨_, rfl, hl, q⟩
          · cases e
        · rw [Option.map_eq_some_iff] at e
          obtain ⟨xs, e1, e2⟩ := e
          obtain ⟨a, us, rfl, hs, q1⟩ := seqD_ok rp.h h1 e1
          refine .inl ⟨a, us, rfl, by rw [ov.K]; exact hs, ?_⟩
          rw [← q1.length, e2]
          exact q
    · exact p.elim
  | int_ =>
    refine .ty "int" _ call_int1 (by decide +kernel) fun ow io H fr m σ ds vs Q rp hv p => ?_
    simp only [bltD] at p
    unfold intB at p
    split at p
    · obtain ⟨v, rfl, h1⟩ := hv.one
      cases h1.of_int
      exact .inl ⟨_, rfl, p.here rp.h .mk_int⟩
    · obtain ⟨v, rfl, h1⟩ := hv.one
      cases h1.of_bl
      exact .inr ⟨_, rfl, p.here rp.h .mk_int⟩
    · exact p.elim
  | abs =>
    refine .fn "abs" _ call_abs (by decide +kernel) fun ow io H fr m σ ds vs Q rp hv p => ?_
    simp only [bltD] at p
    unfold absB at p
    split at p
    · obtain ⟨v, rfl, h1⟩ := hv.one
      cases h1.of_int
      exact ⟨_, rfl, p.here rp.h .mk_int⟩
    · exact p.elim
  | all =>
    refine .fn "all" _ (cr_all hc) (by decide +kernel) fun ow io H fr m σ ds vs Q rp hv p => ?_
    simp only [bltD] at p
    unfold allB at p
    split at p
    · rename_i xs
      obtain ⟨v, rfl, h1⟩ := hv.one
      obtain ⟨a, us, rfl, ha, q1⟩ := h1.of_lst
      cases e : blsD xs with
      | none => rw [e] at p; exact p.elim
      | some bs =>
        rw [e] at p
        rw [blsD_rv e q1] at ha
        exact ⟨a, bs, rfl, .of ha, p.here rp.h .mk_bl⟩
    · exact p.elim
  | any =>
    refine .fn "any" _ (cr_any hc) (by decide +kernel) fun ow io H fr m σ ds vs Q rp hv p => ?_
    simp only [bltD] at p
    unfold anyB at p
    split at p
    · rename_i xs
      obtain ⟨v, rfl, h1⟩ := hv.one
      obtain ⟨a, us, rfl, ha, q1⟩ := h1.of_lst
      cases e : blsD xs with
      | none => rw [e] at p; exact p.elim
      | some bs =>
        rw [e] at p
        rw [blsD_rv e q1] at ha
        exact ⟨a, bs, rfl, .of ha, p.here rp.h .mk_bl⟩
    · exact p.elim
  | list =>
    refine .ty "list" _ (call_list_of.or ((call_listS hc).or (call_listD hc))) (by decide +kernel) fun ow io H fr m σ ds vs Q rp hv p => ?_
    simp only [bltD] at p
    unfold listB at p
    split at p
    · rename_i x
      obtain ⟨v, rfl, h1⟩ := hv.one
      split at p
      · split at p
        · rename_i z hz
          cases h1.of_str
          exact .inr (.inl ⟨_, rfl, hz, fun l hl => p.laid rp.h hl (.mk_lst hl (notOwned rp hl) (rvs_signs _))⟩)
        · exact p.elim
      · obtain ⟨a, kvs, rfl, hs, q1, q2⟩ := h1.of_dct
        subst q1
        refine .inr (.inr ⟨a, kvs, rfl, .inl hs, fun l hl => p.laid rp.h hl (.mk_lst hl (notOwned rp hl) ?_)⟩)
        rw [List.map_map]
        exact rvs_keys kvs
      · cases e : seqD x m with
        | none => rw [e] at p; exact p.elim
        | some xs =>
          rw [e] at p
          obtain ⟨a, us, rfl, hs, q1⟩ := seqD_ok rp.h h1 e
          exact .inl ⟨a, us, rfl, by rw [ov.K]; exact hs, fun l hl => p.laid rp.h hl (.mk_lst hl (notOwned rp hl) q1)⟩
    · exact p.elim
  | tuple =>
    refine .ty "tuple" _ call_tuple_of (by decide +kernel) fun ow io H fr m σ ds vs Q rp hv p => ?_
    simp only [bltD] at p
    unfold tupleB at p
    split at p
    · obtain ⟨v, rfl, h1⟩ := hv.one
      have h2 := h1
      obtain ⟨a, us, rfl, ha, q1⟩ := h1.of_tup
      exact ⟨a, us, rfl, .inr ⟨by rw [ov.K]; exact ha, p.here rp.h h2⟩⟩
    · obtain ⟨v, rfl, h1⟩ := hv.one
      obtain ⟨a, us, rfl, ha, q1⟩ := h1.of_lst
      exact ⟨a, us, rfl, .inl ⟨.of ha, fun l hl => p.laid rp.h hl (.mk_tup hl (notOwned rp hl) q1)⟩⟩
    · obtain ⟨v, rfl, h1⟩ := hv.one
      obtain ⟨a, us, rfl, ha, q1⟩ := h1.of_fz
      exact ⟨a, us, rfl, .inl ⟨by rw [ov.K]; exact ha, fun l hl => p.laid rp.h hl (.mk_tup hl (notOwned rp hl) q1)⟩⟩
    · rename_i n
      obtain ⟨v, rfl, h1⟩ := hv.one
      split at p
      · rename_i xs em
        obtain ⟨a, rfl, e0, vs, hp, q1⟩ := RV.of_ref (show RV S ow io H (.ref n) v from h1) rp.h em
        exact ⟨a, vs, rfl, .inl ⟨.of hp, fun l hl => p.laid rp.h hl (.mk_tup hl (notOwned rp hl) q1)⟩⟩
      · exact p.elim
    · exact p.elim
  | str =>
    refine .ty "str" _ call_str_int (by decide +kernel) fun ow io H fr m σ ds vs Q rp hv p => ?_
    simp only [bltD] at p
    unfold strB at p
    split at p
    · split at p
      · rename_i hl
        obtain ⟨v, rfl, h1⟩ := hv.one
        cases h1.of_int
        exact ⟨_, rfl, hl, p.here rp.h .mk_str⟩
      · exact p.elim
    · exact p.elim
  | sum =>
    refine .fn "sum" _ (cr_sum hc) (by decide +kernel) fun ow io H fr m σ ds vs Q rp hv p => ?_
    simp only [bltD] at p
    unfold sumB at p
    split at p
    · rename_i xs
      obtain ⟨v, rfl, h1⟩ := hv.one
      obtain ⟨a, us, rfl, ha, q1⟩ := h1.of_lst
      cases e : intsD xs with
      | none => rw [e] at p; exact p.elim
      | some bs =>
        rw [e] at p
        rw [intsD_rv e q1] at ha
        exact ⟨a, bs, rfl, .of ha, p.here rp.h .mk_int⟩
    · exact p.elim
  | max2 =>
    refine .fn "max" _ (call_max2 hc) (by decide +kernel) fun ow io H fr m σ ds vs Q rp hv p => ?_
    simp only [bltD] at p
    unfold maxB at p
    split at p
    · obtain ⟨v, u, rfl, h1, h2⟩ := hv.two
      cases h1.of_int; cases h2.of_int
      exact ⟨_, _, rfl, p.here rp.h .mk_int⟩
    · exact p.elim
  | min2 =>
    refine .fn "min" _ (call_min2 hc) (by decide +kernel) fun ow io H fr m σ ds vs Q rp hv p => ?_
    simp only [bltD] at p
    unfold minB at p
    split at p
    · obtain ⟨v, u, rfl, h1, h2⟩ := hv.two
      cases h1.of_int; cases h2.of_int
      exact ⟨_, _, rfl, p.here rp.h .mk_int⟩
    · exact p.elim
  | sorted =>
    refine .fn "sorted" _ (CallR.or cr_sortedI (CallR.or (call_sortedD hc) (call_sortedDI hc))) (by decide +kernel) fun ow io H fr m σ ds vs Q rp hv p => ?_
    simp only [bltD] at p
    unfold sortB at p
    split at p
    · rename_i xs
      obtain ⟨v, rfl, h1⟩ := hv.one
      obtain ⟨a, us, rfl, ha, q1⟩ := h1.of_lst
      cases e : intsD xs with
      | none => rw [e] at p; exact p.elim
      | some ns =>
        rw [e] at p
        rw [intsD_rv e q1] at ha
        refine .inl ⟨a, ns, rfl, .inl (.inl ha), fun ns' q hp hs hq => ?_⟩
        rw [srtI_of hp hs]
        exact p.laid rp.h hq (.mk_lst hq (notOwned rp hq) (mk_ints0 _))
    · rename_i ks xs
      obtain ⟨v, rfl, h1⟩ := hv.one
      have h1 : RV S ow io H (.dct ks xs) v := h1
      unfold RV at h1
      obtain ⟨a, kvs, rfl, hH, hk, _⟩ := h1
      split at p
      · rename_i hl
        cases e : keyS ks with
        | some ys =>
          rw [e] at p
          have hks := keyS_map e
          refine .inr (.inl ⟨a, kvs, ys, rfl, .of hH.1, by rw [hk, hks], by rw [hks, List.length_map] at hl; exact hl, fun ns' q hp hs hq => ?_⟩)
          rw [srtS_of hp hs]
          exact p.laid rp.h hq (.mk_lst hq (notOwned rp hq) (mk_strs0 _))
        | none =>
          rw [e] at p
          dsimp only at p
          cases e2 : keyI ks with
          | none => rw [e2] at p; exact p.elim
          | some ns =>
            rw [e2] at p
            have hks := keyI_map e2
            refine .inr (.inr ⟨a, kvs, ns, rfl, .of hH.1, by rw [hk, hks], by rw [hks, List.length_map] at hl; exact hl, fun ns' q hp hs hq => ?_⟩)
            rw [srtI_of hp hs]
            exact p.laid rp.h hq (.mk_lst hq (notOwned rp hq) (mk_ints0 _))
      · exact p.elim
    · exact p.elim
theorem se_blt {b : Bl} {e : Expr} (ov : Ov S X) (hc : X.calm = true) (hg : Gl X (blName b)) (hm : S.mg (blName b) = none) (ha : PA X (e :: es) (tRso S W fs)) (hn : (e :: es).all nst = true) (hd : (blName b == ("__debug__" : Str)) = false) (hnm : blName b ≠ "__name__") :
    SE X S W (.Call (.Name (blName b) p) (e :: es) [] pos) (fun fr m => (fs fr m).bind fun ds m1 => optR (bltD b ds m1) m1) := by
  rw [List.all_cons, Bool.and_eq_true] at hn
  rw [← ov.mg] at hm
  cases bl_ok (W := W) ov hc b with
  | fn id r hr hv h =>
    refine PE.imp (pe_callB hr hg hm hv ha hnm hd (starEach_ns hn.1) (stars_any hn.2)) fun σ H Q ⟨ow, io, fr, m, rp, p⟩ => ?_
    exact ⟨ow, io, fr, m, rp, p.seqsO fun ds m1 io1 H1 vs x1 r1 v1 p1 => h ow io1 H1 fr m1 σ ds vs Q (rp.ex x1 r1) v1 p1⟩
  | ty T r hr hv h =>
    refine PE.imp (pe_callTy hr hg hm hv ha hnm hd (starEach_ns hn.1) (stars_any hn.2)) fun σ H Q ⟨ow, io, fr, m, rp, p⟩ => ?_
    exact ⟨ow, io, fr, m, rp, p.seqsO fun ds m1 io1 H1 vs x1 r1 v1 p1 => h ow io1 H1 fr m1 σ ds vs Q (rp.ex x1 r1) v1 p1⟩
end
end Mp
end
section
set_option Elab.async false
set_option linter.all false
set_option maxRecDepth 100000
set_option maxHeartbeats 1000000
/-! MpZip0: zip of a list, a tuple or an ascii text with another one, at the library's level. -/
namespace Mp.Zp
open PySem
open PySem.Sem (wp)
/-- what is walked: a list, a tuple, a text -/
inductive Src where
  | l (a : Addr) | t (a : Addr) | s (x : Str) (tk : Tok)
def Src.ad (d : Addr) : Src → Addr
  | .l a => a
  | .t a => a
  | .s _ _ => d
def SIt (h : Heap) : Src → Addr → Nat → Prop
  | .l a, it, i => h.IsListIter it a i
  | .t a, it, i => h.IsTupleIter it a i
  | .s x tk, it, i => h.IsStrIter it "str_ascii_iterator" x tk i
def SIs (h : Heap) : Src → Array Value → Prop
  | .l a, its => h.IsList a its
  | .t a, its => h.IsTuple a its
  | .s x _, its => its.size = x.cps.size ∧ x.cps.all (· < 128) = true
def SV : Src → Array Value → Nat → Value → Prop
  | .s x _, _, i, v => ∃ c u, x.cps[i]? = some c ∧ v = .str ⟨#[c]⟩ u
  | _, its, i, v => its[i]? = some v
theorem SIt.at {h h' : Heap} {src : Src} {it : Addr} {i : Nat} (q : SIt h src it i) (f : ∀ o, h.get? it = some o → h'.get? it = some o) : SIt h' src it i := by
  cases src with
  | l a => exact Heap.IsListIter.at q f
  | t a => obtain ⟨o, e, r⟩ := q; exact ⟨o, f _ e, r⟩
  | s x tk => obtain ⟨o, e, r⟩ := q; exact ⟨o, f _ e, r⟩
theorem SIt.extBut {h h' : Heap} {src : Src} {it d : Addr} {i : Nat} (q : SIt h src it i) (x : Heap.ExtBut d h h') (n : it ≠ d) : SIt h' src it i := q.at fun o e => x _ _ n e
theorem SIs.extBut {h h' : Heap} {src : Src} {dm d : Addr} {its : Array Value} (q : SIs h src its) (x : Heap.ExtBut d h h') (n : src.ad dm ≠ d) : SIs h' src its := by
  cases src with
  | l a => exact Heap.IsList.extBut q x n
  | t a => exact Heap.IsTuple.extBut q x n
  | s x tk => exact q
theorem SIt.obj {h : Heap} {src : Src} {it : Addr} {i : Nat} (q : SIt h src it i) : ∃ o, h.get? it = some o ∧ ∀ v, o.data ≠ .cell v := by
  cases src with
  | l a => obtain ⟨o, e, _, d⟩ := q; exact ⟨o, e, fun v q => by rw [d] at q; cases q⟩
  | t a => obtain ⟨o, e, _, d⟩ := q; exact ⟨o, e, fun v q => by rw [d] at q; cases q⟩
  | s x tk => obtain ⟨o, e, _, d⟩ := q; exact ⟨o, e, fun v q => by rw [d] at q; cases q⟩
section
variable {prog : Program} {w : World} {A : Around} {E : Value → Shared → Prop} {s : Shared}
theorem nextOf_item {it : Addr} {src : Src} {i : Nat} {its : Array Value} {Q : Value → Shared → Prop} (hit : SIt s.heap src it i) (hl : SIs s.heap src its) (hx : i < its.size)
    (hQ : ∀ v h' t', SV src its i v → SIt h' src it (i + 1) → Heap.SameBut it s.heap h' → Q v { s with heap := h', toks := t' }) : wpAny (model prog w) A (Builtin.SmallTypes.nextOf (.ref it)) Q E s := by
  cases src with
  | l a => exact wpAny_nextOf_list_item hit hl (Array.getElem?_eq_getElem hx) fun h' h1 h2 => hQ _ h' s.toks (Array.getElem?_eq_getElem hx) h1 h2
  | t a => exact RZ.nextOf_tuple_item hit hl (Array.getElem?_eq_getElem hx) fun h' h1 h2 => hQ _ h' s.toks (Array.getElem?_eq_getElem hx) h1 h2
  | s x tk =>
    have hxc : i < x.cps.size := by have := hl.1; omega
    have hx' : x.cps[i]? = some x.cps[i] := Array.getElem?_eq_getElem hxc
    obtain ⟨o, ho, hc, hd⟩ := id hit
    unfold Builtin.SmallTypes.nextOf
    refine wpAny_bind (wpAny_callSpecial?_slot (name := Str.ofString "__next__") (Heap.IsStrIter.typeIs hit) F.slot_str_ascii_iterator_next
      (wpAny_call_entry F.slot_str_ascii_iterator_next (Heap.IsStrIter.typeIs hit) F.entry_str_ascii_iterator_next ?_ (F.args_str_ascii_iterator_next_1 _)))
    show wpAny _ _ (field (.ref it) 0 >>= _) _ _ s
    refine wpAny_bind (wpAny_field ho hd (x := .str x tk) rfl ?_)
    show wpAny _ _ (field (.ref it) 1 >>= _) _ _ s
    refine wpAny_bind (wpAny_field ho hd (x := .int i 0) rfl ?_)
    simp only [Int.toNat_natCast, hx']
    refine wpAny_bind (wpAny_setField ho hd (by simp) (wpAny_bind (wpAny_mkStr (wpAny_pure ⟨_, rfl, wpAny_pure (hQ _ _ _ ⟨_, _, hx', rfl⟩ ?_ (Heap.SameBut.update ..))⟩) (by show 1 ≤ sizeLine; decide))))
    exact ⟨_, Heap.get?_update_self _ ho (Obj.isFreed_of_fields (Obj.data_mapFields hd _)), (Obj.cls_mapFields ..).trans hc, by
      rw [Obj.data_mapFields hd]; simp [rawInt]⟩
theorem nextOf_end {it : Addr} {src : Src} {i : Nat} {its : Array Value} {Q : Value → Shared → Prop} (hh : A.handled = none) (hit : SIt s.heap src it i) (hl : SIs s.heap src its) (hx : its.size ≤ i)
    (hE : ∀ h' e, Heap.ExtBut it s.heap h' → (∃ o, h'.get? e = some o ∧ o.cls = .type "StopIteration") → E (.ref e) { s with heap := h' }) : wpAny (model prog w) A (Builtin.SmallTypes.nextOf (.ref it)) Q E s := by
  cases src with
  | l a => exact wpAny_nextOf_list_end hh hit hl (Array.getElem?_eq_none hx) hE
  | t a => exact RZ.nextOf_tuple_end hh hit hl (Array.getElem?_eq_none hx) hE
  | s x tk =>
    have hx' : x.cps[i]? = none := Array.getElem?_eq_none (by have := hl.1; omega)
    obtain ⟨o, ho, hc, hd⟩ := id hit
    unfold Builtin.SmallTypes.nextOf
    refine wpAny_bind (wpAny_callSpecial?_slot (name := Str.ofString "__next__") (Heap.IsStrIter.typeIs hit) F.slot_str_ascii_iterator_next
      (wpAny_call_entry F.slot_str_ascii_iterator_next (Heap.IsStrIter.typeIs hit) F.entry_str_ascii_iterator_next ?_ (F.args_str_ascii_iterator_next_1 _)))
    show wpAny _ _ (field (.ref it) 0 >>= _) _ _ s
    refine wpAny_bind (wpAny_field ho hd (x := .str x tk) rfl ?_)
    show wpAny _ _ (field (.ref it) 1 >>= _) _ _ s
    refine wpAny_bind (wpAny_field ho hd (x := .int i 0) rfl ?_)
    simp only [Int.toNat_natCast, hx']
    refine wpAny_bind (wpAny_rule (wpAny_bind (wpAny_setField ho hd (by simp) (wpAny_bind (wpAny_letGo ?_)))))
    show wpAny _ _ (newExc (.type "StopIteration") [] >>= _) _ _ _
    refine wpAny_bind ?_
    simp only [newExc, newTuple]
    refine wpAny_bind (wpAny_newObj_type ?_ (by size_fits))
    refine wpAny_bind (m := firstArgMember _ _) (wpAny_of_eq (a := Value.none) (by first | rfl | (simp only [firstArgMember]; rfl)) ?_)
    refine wpAny_newObj_type ?_ (by size_fits)
    simp only [raiseNew]
    refine wpAny_bind (wpAny_handled ?_)
    first | rw [show A.in1.handled = none from hh] | rw [hh]
    refine wpAny_bind (wpAny_pure (wpAny_throw ?_))
    exact hE _ _ (((Heap.SameBut.update ..).extBut.push _).push _) ⟨_, Heap.get?_push_size _ rfl, rfl⟩
theorem zipG_next_item {z TI TO i1 i2 dm : Addr} {c1 c2 : Src} {k1 k2 : Nat} {xs ys : Array Value} {a b : Value} {Q : Value → Shared → Prop} (D : ZipApart z TI TO i1 i2 (c1.ad dm) (c2.ad dm))
    (hz : IsZip s.heap z TI TO .none) (hTI : IsPair s.heap TI (.ref i1) (.ref i2)) (hTO : IsPair s.heap TO a b)
    (h1 : SIt s.heap c1 i1 k1) (h2 : SIt s.heap c2 i2 k2) (hl1 : SIs s.heap c1 xs) (hl2 : SIs s.heap c2 ys) (hx : k1 < xs.size) (hy : k2 < ys.size)
    (hQ : ∀ x y h' t', SV c1 xs k1 x → SV c2 ys k2 y → IsZip h' z TI TO (rawInt s.heap.objs.size) → IsPair h' TO x y → SIt h' c1 i1 (k1 + 1) → SIt h' c2 i2 (k2 + 1) → IsPair h' s.heap.objs.size x y → h'.objs.size = s.heap.objs.size + 1 →
      (∀ c o, c ≠ z → c ≠ TO → c ≠ i1 → c ≠ i2 → s.heap.get? c = some o → h'.get? c = some o) → Q (.ref s.heap.objs.size) { s with heap := h', toks := t' }) :
    wpAny (model prog w) A (Builtin.«zip.__next__» ⟨[.ref z], []⟩) (fun fin s' => ∃ v, fin = .done (.ret v) ∧ Q v s') E s := by
  show wpAny _ _ (field (.ref z) 2 >>= _) _ _ _
  refine wpAny_bind (wpAny_field hz rfl (x := .bool false) rfl ?_)
  show wpAny _ _ (field (.ref z) 3 >>= _) _ _ _
  refine wpAny_bind (wpAny_field hz rfl (x := .ref TI) rfl ?_)
  refine wpAny_bind (wpAny_seqItems hTI rfl ?_)
  show wpAny _ _ (Builtin.SmallTypes.ownedTupleIsFree (.ref z) >>= _) _ _ _
  refine wpAny_bind ?_
  unfold Builtin.SmallTypes.ownedTupleIsFree
  refine wpAny_bind (wpAny_field hz rfl (x := .none) rfl (wpAny_pure ?_))
  simp only [if_true]
  refine wpAny_bind (wpAny_rule ?_)
  refine wpAny_bind (wpAny_field hz rfl (x := .ref TO) rfl ?_)
  refine wpAny_bind (wpAny_setField_rec hz (by simp) fun h₁ hz₁ hs₁ => ?_)
  replace hz₁ : IsZip h₁ z TI TO .ellipsis := hz₁
  refine wpAny_bind ?_
  simp only [List.zipIdx_cons, List.zipIdx_nil, List.forIn_cons, List.forIn_nil]

  refine wpAny_bind (wpAny_bind (wpAny_onRaise ?_))
  show wpAny _ _ (Builtin.SmallTypes.nextOf (.ref i1) >>= _) _ _ _
  refine wpAny_bind (nextOf_item (h1.extBut hs₁.extBut D.i1z) (hl1.extBut hs₁.extBut D.l1z) hx fun x h₂ t₂ hx1 h1₂ hs₂ => wpAny_pure ?_)
  have hTO₂ : IsPair h₂ TO a b := hs₂.extBut _ _ D.TOi1 (hs₁.extBut _ _ D.TOz hTO)
  refine wpAny_bind (wpAny_seqItems hTO₂ rfl ?_)
  refine wpAny_bind (wpAny_updateSeq_pair hTO₂ fun h₃ hTO₃ hs₃ => ?_)
  replace hTO₃ : IsPair h₃ TO x b := hTO₃
  refine wpAny_bind (wpAny_letGo (wpAny_pure ?_))

  refine wpAny_bind (wpAny_bind (wpAny_onRaise ?_))
  show wpAny _ _ (Builtin.SmallTypes.nextOf (.ref i2) >>= _) _ _ _
  refine wpAny_bind (nextOf_item (((h2.extBut hs₁.extBut D.i2z).extBut hs₂.extBut D.i12.symm).extBut hs₃.extBut D.TOi2.symm)
    (((hl2.extBut hs₁.extBut D.l2z).extBut hs₂.extBut D.l2i1).extBut hs₃.extBut D.l2TO) hy fun y h₄ t₄ hy1 h2₄ hs₄ => wpAny_pure ?_)
  have hTO₄ : IsPair h₄ TO x b := hs₄.extBut _ _ D.TOi2 hTO₃
  refine wpAny_bind (wpAny_seqItems hTO₄ rfl ?_)
  refine wpAny_bind (wpAny_updateSeq_pair hTO₄ fun h₅ hTO₅ hs₅ => ?_)
  replace hTO₅ : IsPair h₅ TO x y := hTO₅
  refine wpAny_bind (wpAny_letGo (wpAny_pure (wpAny_pure ?_)))

  refine wpAny_bind (wpAny_seqItems hTO₅ rfl ?_)
  refine wpAny_bind (wpAny_newTuple ?_)
  have hsz : h₅.objs.size = s.heap.objs.size := by rw [hs₅.1, hs₄.1, hs₃.1, hs₂.1, hs₁.1]
  have hz₅ : IsZip h₅ z TI TO .ellipsis := hs₅.extBut _ _ D.TOz.symm (hs₄.extBut _ _ D.i2z.symm (hs₃.extBut _ _ D.TOz.symm (hs₂.extBut _ _ D.i1z.symm hz₁)))
  have hk₅ : ∀ c o, c ≠ z → c ≠ TO → c ≠ i1 → c ≠ i2 → s.heap.get? c = some o → h₅.get? c = some o := fun c o c1 c2 c3 c4 e =>
    hs₅.extBut _ _ c2 (hs₄.extBut _ _ c4 (hs₃.extBut _ _ c2 (hs₂.extBut _ _ c3 (hs₁.extBut _ _ c1 e))))
  have h1₅ : SIt h₅ c1 i1 (k1 + 1) := ((h1₂.extBut hs₃.extBut D.TOi1.symm).extBut hs₄.extBut D.i12).extBut hs₅.extBut D.TOi1.symm
  have h2₅ : SIt h₅ c2 i2 (k2 + 1) := h2₄.extBut hs₅.extBut D.TOi2.symm
  have hzlt : z < h₅.objs.size := Heap.lt_size hz₅
  have hTOlt : TO < h₅.objs.size := Heap.lt_size hTO₅
  have hi1lt : i1 < h₅.objs.size := by obtain ⟨_, e, _⟩ := h1₅.obj; exact Heap.lt_size e
  have hi2lt : i2 < h₅.objs.size := by obtain ⟨_, e, _⟩ := h2₅.obj; exact Heap.lt_size e
  show wpAny _ _ (Builtin.SmallTypes.ownedTupleHandOut (.ref z) (.ref h₅.objs.size) >>= _) _ _ _
  refine wpAny_bind ?_
  unfold Builtin.SmallTypes.ownedTupleHandOut
  have hz₆ : IsZip (h₅.push { cls := .type "tuple", data := .seq #[x, y] }) z TI TO .ellipsis := Heap.get?_push_of_some _ hz₅
  refine wpAny_bind (wpAny_setField_rec hz₆ (by simp) fun h₇ hz₇ hs₇ => ?_)
  replace hz₇ : IsZip h₇ z TI TO (rawInt h₅.objs.size) := hz₇
  refine wpAny_setField_rec hz₇ (by simp) fun h₈ hz₈ hs₈ => ?_
  replace hz₈ : IsZip h₈ z TI TO (rawInt h₅.objs.size) := hz₈
  have up : ∀ c o, c ≠ z → h₅.get? c = some o → h₈.get? c = some o := fun c o c1 e => hs₈.extBut _ _ c1 (hs₇.extBut _ _ c1 (Heap.get?_push_of_some _ e))
  have hT₈ : IsPair h₈ h₅.objs.size x y := hs₈.extBut _ _ (Nat.ne_of_gt hzlt) (hs₇.extBut _ _ (Nat.ne_of_gt hzlt) (Heap.get?_push_size _ rfl))
  have hz8 : h₈.objs.size = h₅.objs.size + 1 := by rw [hs₈.1, hs₇.1, Heap.size_push]
  rw [hsz] at hz₈ hT₈ hz8
  refine wpAny_pure ⟨_, rfl, ?_⟩
  show Q (.ref h₅.objs.size) _
  rw [hsz]
  exact hQ x y h₈ _ hx1 hy1 hz₈ (up _ _ D.TOz hTO₅) (h1₅.at fun o e => up _ o D.i1z e) (h2₅.at fun o e => up _ o D.i2z e) hT₈ hz8 fun c o c1 c2 c3 c4 e => up c o c1 (hk₅ c o c1 c2 c3 c4 e)

theorem zipG_next_end {z TI TO i1 i2 dm : Addr} {c1 c2 : Src} {k1 k2 : Nat} {xs ys : Array Value} {a b : Value} {Q : Fin → Shared → Prop} (hh : A.handled = none) (D : ZipApart z TI TO i1 i2 (c1.ad dm) (c2.ad dm))
    (hz : IsZip s.heap z TI TO .none) (hTI : IsPair s.heap TI (.ref i1) (.ref i2)) (hTO : IsPair s.heap TO a b)
    (h1 : SIt s.heap c1 i1 k1) (h2 : SIt s.heap c2 i2 k2) (hl1 : SIs s.heap c1 xs) (hl2 : SIs s.heap c2 ys) (hend : xs.size ≤ k1 ∨ ys.size ≤ k2)
    (hE : ∀ h' t' e, (∀ c o, c ≠ z → c ≠ TO → c ≠ i1 → c ≠ i2 → s.heap.get? c = some o → h'.get? c = some o) → (∃ o, h'.get? e = some o ∧ o.cls = .type "StopIteration") → E (.ref e) { s with heap := h', toks := t' }) :
    wpAny (model prog w) A (Builtin.«zip.__next__» ⟨[.ref z], []⟩) Q E s := by
  show wpAny _ _ (field (.ref z) 2 >>= _) _ _ _
  refine wpAny_bind (wpAny_field hz rfl (x := .bool false) rfl ?_)
  show wpAny _ _ (field (.ref z) 3 >>= _) _ _ _
  refine wpAny_bind (wpAny_field hz rfl (x := .ref TI) rfl ?_)
  refine wpAny_bind (wpAny_seqItems hTI rfl ?_)
  show wpAny _ _ (Builtin.SmallTypes.ownedTupleIsFree (.ref z) >>= _) _ _ _
  refine wpAny_bind ?_
  unfold Builtin.SmallTypes.ownedTupleIsFree
  refine wpAny_bind (wpAny_field hz rfl (x := .none) rfl (wpAny_pure ?_))
  simp only [if_true]
  refine wpAny_bind (wpAny_rule ?_)
  refine wpAny_bind (wpAny_field hz rfl (x := .ref TO) rfl ?_)
  refine wpAny_bind (wpAny_setField_rec hz (by simp) fun h₁ hz₁ hs₁ => ?_)
  replace hz₁ : IsZip h₁ z TI TO .ellipsis := hz₁
  refine wpAny_bind ?_
  simp only [List.zipIdx_cons, List.zipIdx_nil, List.forIn_cons, List.forIn_nil]
  refine wpAny_bind (wpAny_bind (wpAny_onRaise ?_))
  show wpAny _ _ (Builtin.SmallTypes.nextOf (.ref i1) >>= _) _ _ _
  rcases Nat.lt_or_ge k1 xs.size with hx | hx
  rotate_left
  ·
    refine wpAny_bind (nextOf_end hh (h1.extBut hs₁.extBut D.i1z) (hl1.extBut hs₁.extBut D.l1z) hx fun h₂ e hs₂ he => ?_)
    obtain ⟨oe, hoe, hce⟩ := he
    have hz₂ : IsZip h₂ z TI TO .ellipsis := hs₂ _ _ D.i1z.symm hz₁
    have hez : e ≠ z := fun x => by subst x; rw [hz₂] at hoe; cases hoe; simp at hce
    refine wpAny_setField_rec hz₂ (by simp) fun h₃ _ hs₃ => hE h₃ _ e (fun c o c1 _ c3 _ x => hs₃.extBut _ _ c1 (hs₂ _ _ c3 (hs₁.extBut _ _ c1 x))) ⟨oe, hs₃.extBut _ _ hez hoe, hce⟩
  ·
    have hy : ys.size ≤ k2 := by omega
    refine wpAny_bind (nextOf_item (h1.extBut hs₁.extBut D.i1z) (hl1.extBut hs₁.extBut D.l1z) hx fun x h₂ t₂ hx1 h1₂ hs₂ => wpAny_pure ?_)
    have hTO₂ : IsPair h₂ TO a b := hs₂.extBut _ _ D.TOi1 (hs₁.extBut _ _ D.TOz hTO)
    refine wpAny_bind (wpAny_seqItems hTO₂ rfl ?_)
    refine wpAny_bind (wpAny_updateSeq_pair hTO₂ fun h₃ hTO₃ hs₃ => ?_)
    refine wpAny_bind (wpAny_letGo (wpAny_pure ?_))
    refine wpAny_bind (wpAny_bind (wpAny_onRaise ?_))
    show wpAny _ _ (Builtin.SmallTypes.nextOf (.ref i2) >>= _) _ _ _
    refine wpAny_bind (nextOf_end hh (((h2.extBut hs₁.extBut D.i2z).extBut hs₂.extBut D.i12.symm).extBut hs₃.extBut D.TOi2.symm)
      (((hl2.extBut hs₁.extBut D.l2z).extBut hs₂.extBut D.l2i1).extBut hs₃.extBut D.l2TO) hy fun h₄ e hs₄ he => ?_)
    obtain ⟨oe, hoe, hce⟩ := he
    have hz₄ : IsZip h₄ z TI TO .ellipsis := hs₄ _ _ D.i2z.symm (hs₃.extBut _ _ D.TOz.symm (hs₂.extBut _ _ D.i1z.symm hz₁))
    have hez : e ≠ z := fun x => by subst x; rw [hz₄] at hoe; cases hoe; simp at hce
    refine wpAny_setField_rec hz₄ (by simp) fun h₅ _ hs₅ => hE h₅ _ e (fun c o c1 c2 c3 c4 x => hs₅.extBut _ _ c1 (hs₄ _ _ c4 (hs₃.extBut _ _ c2 (hs₂.extBut _ _ c3 (hs₁.extBut _ _ c1 x))))) ⟨oe, hs₅.extBut _ _ hez hoe, hce⟩

theorem pyNext_zipG_item {z TI TO i1 i2 dm : Addr} {c1 c2 : Src} {k1 k2 : Nat} {xs ys : Array Value} {a b : Value} {Q : Option Value → Shared → Prop} (D : ZipApart z TI TO i1 i2 (c1.ad dm) (c2.ad dm))
    (hz : IsZip s.heap z TI TO .none) (hTI : IsPair s.heap TI (.ref i1) (.ref i2)) (hTO : IsPair s.heap TO a b)
    (h1 : SIt s.heap c1 i1 k1) (h2 : SIt s.heap c2 i2 k2) (hl1 : SIs s.heap c1 xs) (hl2 : SIs s.heap c2 ys) (hx : k1 < xs.size) (hy : k2 < ys.size)
    (hQ : ∀ x y h' t', SV c1 xs k1 x → SV c2 ys k2 y → IsZip h' z TI TO (rawInt s.heap.objs.size) → IsPair h' TO x y → SIt h' c1 i1 (k1 + 1) → SIt h' c2 i2 (k2 + 1) → IsPair h' s.heap.objs.size x y → h'.objs.size = s.heap.objs.size + 1 →
      (∀ c o, c ≠ z → c ≠ TO → c ≠ i1 → c ≠ i2 → s.heap.get? c = some o → h'.get? c = some o) → Q (some (.ref s.heap.objs.size)) { s with heap := h', toks := t' }) :
    wpAny (model prog w) A (pyNext (.ref z)) Q E s := by
  have hT : s.TypeIs (.ref z) "zip" := ⟨_, hz, rfl⟩
  unfold pyNext
  exact wpAny_bind (wpAny_attempt (wpAny_callSpecial?_slot (name := Str.ofString "__next__") hT F.slot_zip_next
    (wpAny_call_entry F.slot_zip_next hT F.entry_zip_next
      (zipG_next_item D hz hTI hTO h1 h2 hl1 hl2 hx hy fun x y h' t' q1 q2 a1 a2 a3 a4 a5 a6 a7 => wpAny_pure (hQ x y h' t' q1 q2 a1 a2 a3 a4 a5 a6 a7)) (F.args_zip_next_1 _))))

theorem pyNext_zipG_end {z TI TO i1 i2 dm : Addr} {c1 c2 : Src} {k1 k2 : Nat} {xs ys : Array Value} {a b : Value} {Q : Option Value → Shared → Prop} (hh : A.handled = none) (D : ZipApart z TI TO i1 i2 (c1.ad dm) (c2.ad dm))
    (hz : IsZip s.heap z TI TO .none) (hTI : IsPair s.heap TI (.ref i1) (.ref i2)) (hTO : IsPair s.heap TO a b)
    (h1 : SIt s.heap c1 i1 k1) (h2 : SIt s.heap c2 i2 k2) (hl1 : SIs s.heap c1 xs) (hl2 : SIs s.heap c2 ys) (hend : xs.size ≤ k1 ∨ ys.size ≤ k2)
    (hQ : ∀ h' t', (∀ c o, c ≠ z → c ≠ TO → c ≠ i1 → c ≠ i2 → s.heap.get? c = some o → h'.get? c = some o) → Q none { s with heap := h', toks := t' }) : wpAny (model prog w) A (pyNext (.ref z)) Q E s := by
  have hT : s.TypeIs (.ref z) "zip" := ⟨_, hz, rfl⟩
  unfold pyNext
  refine wpAny_bind (wpAny_attempt (wpAny_callSpecial?_slot (name := Str.ofString "__next__") hT F.slot_zip_next
    (wpAny_call_entry F.slot_zip_next hT F.entry_zip_next (zipG_next_end hh D hz hTI hTO h1 h2 hl1 hl2 hend fun h' t' e hk he => ?_) (F.args_zip_next_1 _))))
  obtain ⟨o, ho, hc⟩ := he
  refine wpAny_bind (wpAny_isInstance (T := "StopIteration") (b := true) ⟨o, ho, hc⟩ isSubtype_stop ?_)
  exact wpAny_pure (hQ _ _ hk)
end
/-- the new iterator of a source -/
def Src.itO : Src → Obj
  | .l a => { cls := .type "list_iterator", data := .fields #[.ref a, .int 0 0] }
  | .t a => { cls := .type "tuple_iterator", data := .fields #[.ref a, .int 0 0] }
  | .s x tk => { cls := .type "str_ascii_iterator", data := .fields #[.str x tk, .int 0 0] }
def Src.val : Src → Value
  | .l a => .ref a
  | .t a => .ref a
  | .s x tk => .str x tk
theorem itO_free (c : Src) : c.itO.isFreed = false := by cases c <;> rfl
theorem itO_at {h : Heap} {c : Src} {it : Addr} (e : h.get? it = some c.itO) : SIt h c it 0 := by cases c <;> exact ⟨_, e, rfl, rfl⟩
theorem SIs.push {h : Heap} {c : Src} {its : Array Value} {o : Obj} (q : SIs h c its) : SIs (h.push o) c its := by
  cases c with
  | l a => exact Heap.IsList.push q _
  | t a => exact Heap.IsTuple.push q _
  | s x tk => exact q
section
variable {prog : Program} {w : World} {A : Around} {E : Value → Shared → Prop} {s : Shared}
theorem pyIter_src {c : Src} {its : Array Value} {Q : Value → Shared → Prop} (hl : SIs s.heap c its) (h : Q (.ref s.heap.objs.size) { s with heap := s.heap.push c.itO }) : wpAny (model prog w) A (pyIter c.val) Q E s := by
  cases c with
  | l a => exact wpAny_pyIter_list hl h
  | t a => exact wpAny_pyIter_tuple hl h
  | s x tk => exact wpAny_pyIter_ascii hl.2 h
end
abbrev zH1 (h : Heap) (c1 : Src) : Heap := h.push c1.itO
abbrev zH2 (h : Heap) (c1 c2 : Src) : Heap := (zH1 h c1).push c2.itO
abbrev zH3 (h : Heap) (c1 c2 : Src) : Heap := (zH2 h c1 c2).push { cls := .type "tuple", data := .seq #[.ref h.objs.size, .ref (zH1 h c1).objs.size] }
abbrev zH4 (h : Heap) (c1 c2 : Src) : Heap := (zH3 h c1 c2).push { cls := .type "tuple", data := .seq #[.none, .none] }
abbrev zH5 (h : Heap) (c1 c2 : Src) : Heap := (zH4 h c1 c2).push { cls := .type "zip", data := .fields #[.none, .bool false, .bool false, .ref (zH2 h c1 c2).objs.size, .ref (zH3 h c1 c2).objs.size] }
theorem meets_zipG (c1 c2 : Src) (xs ys : Array Value) :
    Meets (Builtin.«zip.__new__» ⟨[.type "zip", c1.val, c2.val], []⟩) (fun _ R s => SIs s.heap c1 xs ∧ SIs s.heap c2 ys ∧
      R (.ok (.ret (.ref (zH4 s.heap c1 c2).objs.size))) { s with heap := zH5 s.heap c1 c2 }) :=
  .of_wp fun prog w A R s h => by
    obtain ⟨hp, g, d, tk, os⟩ := s; obtain ⟨hl1, hl2, h⟩ := h
    have hsub := sub_zip
    have hL1 : SIs (Shared.heap ⟨hp, g, d, tk, os⟩) c1 xs := hl1
    have hL2 : SIs (Shared.heap ⟨hp.push c1.itO, g, d, tk, os⟩) c2 ys := SIs.push hl2
    wp_walk using pyIter_src hL1, pyIter_src hL2
    exact ⟨_, rfl, h⟩
section
variable {prog : Program} {w : World} {A : Around} {E : Value → Shared → Prop} {s : Shared}
theorem call_zipG {c1 c2 : Src} {xs ys : Array Value} {Q : Value → Shared → Prop} (hl1 : SIs s.heap c1 xs) (hl2 : SIs s.heap c2 ys)
    (h : ∀ h', IsZip h' (s.heap.objs.size + 4) (s.heap.objs.size + 2) (s.heap.objs.size + 3) .none → IsPair h' (s.heap.objs.size + 2) (.ref s.heap.objs.size) (.ref (s.heap.objs.size + 1)) →
      IsPair h' (s.heap.objs.size + 3) .none .none → SIt h' c1 s.heap.objs.size 0 → SIt h' c2 (s.heap.objs.size + 1) 0 → h'.objs.size = s.heap.objs.size + 5 →
      (∀ c o, s.heap.get? c = some o → h'.get? c = some o) → Q (.ref (s.heap.objs.size + 4)) { s with heap := h' }) :
    wpAny (model prog w) A (call (.type "zip") [c1.val, c2.val]) Q E s := by
  refine callType_new F.called_zip (by decide) (F.typeCall_zip_2 _ _) (F.newCall_zip_2 _ _) (fun obj => F.args_object_init_3 obj _ _) F.entry_zip_new
    (meets_zipG c1 c2 xs ys) ⟨hl1, hl2, ?_⟩
  have z1 : (zH1 s.heap c1).objs.size = s.heap.objs.size + 1 := Heap.size_push ..
  have z2 : (zH2 s.heap c1 c2).objs.size = s.heap.objs.size + 2 := by rw [Heap.size_push, z1]
  have z3 : (zH3 s.heap c1 c2).objs.size = s.heap.objs.size + 3 := by rw [Heap.size_push, z2]
  have z4 : (zH4 s.heap c1 c2).objs.size = s.heap.objs.size + 4 := by rw [Heap.size_push, z3]
  have z5 : (zH5 s.heap c1 c2).objs.size = s.heap.objs.size + 5 := by rw [Heap.size_push, z4]
  have g5 : (zH5 s.heap c1 c2).get? (zH4 s.heap c1 c2).objs.size = some _ := Heap.get?_push_size _ rfl
  have g4 : (zH5 s.heap c1 c2).get? (zH3 s.heap c1 c2).objs.size = some _ := Heap.get?_push_of_some _ (Heap.get?_push_size _ rfl)
  have g3 : (zH5 s.heap c1 c2).get? (zH2 s.heap c1 c2).objs.size = some _ := Heap.get?_push_of_some _ (Heap.get?_push_of_some _ (Heap.get?_push_size _ rfl))
  have g2 : (zH5 s.heap c1 c2).get? (zH1 s.heap c1).objs.size = some c2.itO := Heap.get?_push_of_some _ (Heap.get?_push_of_some _ (Heap.get?_push_of_some _ (Heap.get?_push_size _ (itO_free c2))))
  have g1 : (zH5 s.heap c1 c2).get? s.heap.objs.size = some c1.itO := Heap.get?_push_of_some _ (Heap.get?_push_of_some _ (Heap.get?_push_of_some _ (Heap.get?_push_of_some _ (Heap.get?_push_size _ (itO_free c1)))))
  show _ ∧ _
  rw [z2, z3, z4] at g5
  rw [z1, z2] at g3
  rw [z3] at g4
  rw [z1] at g2
  rw [z4]
  exact ⟨⟨_, g5, rfl⟩, h _ g5 g3 g4 (itO_at g1) (itO_at g2) z5 fun c o x =>
    Heap.get?_push_of_some _ (Heap.get?_push_of_some _ (Heap.get?_push_of_some _ (Heap.get?_push_of_some _ (Heap.get?_push_of_some _ x))))⟩
end
end Mp.Zp
end
section
set_option Elab.async false
set_option linter.all false
set_option maxRecDepth 100000
set_option maxHeartbeats 1000000
/-! MpZip: zip of a list, a tuple or an ascii text with another one, as an iterable. -/
namespace Mp.Zp
open PySem PySem.Spec PyProof.Rows L2
inductive VS where
  | l (a : Addr) | t (a : Addr) | s (x : Str)
def VS.val : VS → V
  | .l a => .ref a
  | .t a => .ref a
  | .s x => .str x
def VS.src (tk : Tok) : VS → Src
  | .l a => .l a
  | .t a => .t a
  | .s x => .s x tk
theorem VS.rel {a : VS} {u : Value} (h : RelV a.val u) : ∃ t, u = (a.src t).val := by
  cases a with
  | l a => exact ⟨0, h⟩
  | t a => exact ⟨0, h⟩
  | s x => obtain ⟨t, rfl⟩ := h; exact ⟨t, rfl⟩
def IS (K : PySem.W.Frag) (H : Hp) : VS → List V → Prop
  | .l a, xs => SqL K H a xs
  | .t a, xs => SqT K H a xs
  | .s x, xs => x.cps.all (· < 128) = true ∧ xs = x.cps.toList.map fun c => V.str ⟨#[c]⟩
theorem IS.of {X : Cx} {pins : List (Addr × Obj)} {σ : L2.St} {H : Hp} {s : Shared} (I : Inv X pins σ H s) {v : VS} {xs : List V} (tk : Tok) (h : IS X.K H v xs) :
    ∃ its : Array Value, SIs s.heap (v.src tk) its ∧ its.size = xs.length ∧ ∀ i x u, xs[i]? = some x → SV (v.src tk) its i u → RelV x u := by
  cases v with
  | l a =>
    obtain ⟨its, rv, p, _⟩ := I.list h
    refine ⟨its.toArray, p.isList, by rw [List.size_toArray, rv.length], fun i x u e hu => ?_⟩
    obtain ⟨u', e1, q⟩ := rv.get e
    have hu : its.toArray[i]? = some u := hu
    have : its[i]? = some u := by simpa using hu
    rw [e1] at this
    cases this
    exact q
  | t a =>
    obtain ⟨its, rv, p, _⟩ := I.tuple h
    refine ⟨its.toArray, p, by rw [List.size_toArray, rv.length], fun i x u e hu => ?_⟩
    obtain ⟨u', e1, q⟩ := rv.get e
    have hu : its.toArray[i]? = some u := hu
    have : its[i]? = some u := by simpa using hu
    rw [e1] at this
    cases this
    exact q
  | s x =>
    obtain ⟨h1, rfl⟩ := h
    refine ⟨x.cps.map fun _ => Value.none, ⟨by simp, h1⟩, by simp, fun i y u e hu => ?_⟩
    obtain ⟨c, t, e1, rfl⟩ := hu
    have e2 : (x.cps.toList.map fun c => V.str ⟨#[c]⟩)[i]? = some y := e
    rw [List.getElem?_map, Array.getElem?_toList, e1] at e2
    cases e2
    exact ⟨t, rfl⟩
theorem IS.inj {X : Cx} {pins : List (Addr × Obj)} {σ : L2.St} {H : Hp} {s : Shared} (I : Inv X pins σ H s) {v : VS} {xs ys : List V} (h : IS X.K H v xs) (h' : IS X.K H v ys) : xs = ys := by
  cases v with
  | l a => exact I.list_inj h h'
  | t a => exact I.tuple_inj h h'
  | s x => rw [h.2, h'.2]
def ItzG (K : PySem.W.Frag) (a b : VS) : It :=
  ⟨fun i H => ∃ (xs ys : List V) (x y : V), IS K H a xs ∧ IS K H b ys ∧ xs[i]? = some x ∧ ys[i]? = some y,
    fun i H v H' => ∃ T x y, v = .ref T ∧ H T = none ∧ H' = upd H T (.tup [x, y]) ∧ (∀ xs, IS K H a xs → xs[i]? = some x) ∧ ∀ ys, IS K H b ys → ys[i]? = some y,
    fun i H => ∃ xs ys : List V, IS K H a xs ∧ IS K H b ys ∧ (xs.length ≤ i ∨ ys.length ≤ i)⟩
theorem turn_zipG {P : Program} {w : World} {K : PySem.W.Frag} {elts : List Expr} {kk : Nat} {tpos : Pos} {a b : VS} {t1 t2 : Tok} {z TI TO i1 i2 dm : Addr} (D : ZipApart z TI TO i1 i2 ((a.src t1).ad dm) ((b.src t2).ad dm)) :
    Turn P w K (.Tuple elts kk tpos) (ItzG K a b) [z, TI, TO, i1, i2] z (fun i h => IsZip h z TI TO .none ∧ IsPair h TI (.ref i1) (.ref i2) ∧ (∃ x y, IsPair h TO x y) ∧ SIt h (a.src t1) i1 i ∧ SIt h (b.src t2) i2 i) where
  mem := by simp
  obj := fun i h st c hc => by
    obtain ⟨hz, hTI, ⟨x, y, hTO⟩, s1, s2⟩ := st
    obtain ⟨o1, e1, d1⟩ := s1.obj
    obtain ⟨o2, e2, d2⟩ := s2.obj
    have e' : c = z ∨ c = TI ∨ c = TO ∨ c = i1 ∨ c = i2 := by simpa using hc
    rcases e' with q | q | q | q | q
    · rw [q]; exact ⟨_, hz, fun v q => nomatch q⟩
    · rw [q]; exact ⟨_, hTI, fun v q => nomatch q⟩
    · rw [q]; exact ⟨_, hTO, fun v q => nomatch q⟩
    · rw [q]; exact ⟨o1, e1, d1⟩
    · rw [q]; exact ⟨o2, e2, d2⟩
  keep := fun i h h' st k => by
    obtain ⟨hz, hTI, ⟨x, y, hTO⟩, h1, h2⟩ := st
    exact ⟨k z (by simp) _ hz, k TI (by simp) _ hTI, ⟨x, y, k TO (by simp) _ hTO⟩, h1.at fun o q => k i1 (by simp) o q, h2.at fun o q => k i2 (by simp) o q⟩
  item := by
    intro X hP hw hK hc i pins s σ H E I hf st hg
    subst hP hw hK
    obtain ⟨hz, hTI, ⟨x0, y0, hTO⟩, h1, h2⟩ := st
    obtain ⟨xs, ys, x, y, hqx, hqy, hx, hy⟩ := hg
    obtain ⟨its, p1, l1, r1⟩ := IS.of I t1 hqx
    obtain ⟨its2, p2, l2, r2⟩ := IS.of I t2 hqy
    have hzl : z < s.heap.objs.size := Heap.lt_size hz
    have g1 : i < its.size := by rw [l1]; exact (List.getElem?_eq_some_iff.mp hx).1
    have g2 : i < its2.size := by rw [l2]; exact (List.getElem?_eq_some_iff.mp hy).1
    refine pyNext_zipG_item D hz hTI hTO h1 h2 p1 p2 g1 g2 fun u u2 h' t' q1 q2 z' TO' h1' h2' hT hsz hk => ?_
    have ru := r1 i x u hx q1
    have ru2 := r2 i y u2 hy q2
    refine ⟨_, rfl, wpAny_letOwnedTupleGo_zip (s := { s with heap := h', toks := t' }) z' fun h'' z'' sb => ?_⟩
    have hT2 : h''.get? s.heap.objs.size = some { cls := .type "tuple", data := .seq #[u, u2] } := (sb.2 _ (Nat.ne_of_gt hzl)).trans hT
    have new : ObjOk X.prog X.w (upd H s.heap.objs.size (.tup [x, y])) h'' s.heap.objs.size (.tup [x, y]) :=
      ⟨by show 2 ≤ sizeLine; decide, [u, u2], .cons ru (.cons ru2 .nil), ⟨_, hT2, rfl, _, rfl⟩⟩
    have I1 : Inv X pins σ (upd H s.heap.objs.size (.tup [x, y])) { s with heap := h'', toks := t' } :=
      I.turnedNew (t' := t') (ch := [z, TI, TO, i1, i2]) (fun c o hb q => (sb.2 c (fun q' => hb (by simp [q']))).trans (hk c o (fun q' => hb (by simp [q'])) (fun q' => hb (by simp [q'])) (fun q' => hb (by simp [q'])) (fun q' => hb (by simp [q'])) q)) hf (Nat.le_refl _) new
    refine ⟨.ref s.heap.objs.size, _, I1, rfl, ⟨_, x, y, rfl, I.hok.fresh (Nat.le_refl _), rfl, fun l hl => by rw [IS.inj I hl hqx]; exact hx, fun l hl => by rw [IS.inj I hl hqy]; exact hy⟩, ⟨z'', ?_, ⟨u, u2, ?_⟩, ?_, ?_⟩, fun c hcm => ?_⟩
    · exact (sb.2 _ D.TIz).trans (hk _ _ D.TIz D.TITO D.TIi1 D.TIi2 hTI)
    · exact (sb.2 _ D.TOz).trans TO'
    · exact h1'.at fun o q => (sb.2 _ D.i1z).trans q
    · exact h2'.at fun o q => (sb.2 _ D.i2z).trans q
    · have hlt : c < s.heap.objs.size := by
        have e' : c = z ∨ c = TI ∨ c = TO ∨ c = i1 ∨ c = i2 := by simpa using hcm
        rcases e' with q | q | q | q | q
        · rw [q]; exact hzl
        · rw [q]; exact Heap.lt_size hTI
        · rw [q]; exact Heap.lt_size hTO
        · rw [q]; obtain ⟨_, e1, _⟩ := h1.obj; exact Heap.lt_size e1
        · rw [q]; obtain ⟨_, e2, _⟩ := h2.obj; exact Heap.lt_size e2
      rw [upd_ne (Nat.ne_of_lt hlt)]
      exact (hf c hcm).1
  done := by
    intro X hP hw hK hc i pins s σ H E I hf st hg
    subst hP hw hK
    obtain ⟨hz, hTI, ⟨x0, y0, hTO⟩, h1, h2⟩ := st
    obtain ⟨xs, ys, hqx, hqy, hend⟩ := hg
    obtain ⟨its, p1, l1, r1⟩ := IS.of I t1 hqx
    obtain ⟨its2, p2, l2, r2⟩ := IS.of I t2 hqy
    have he : its.size ≤ i ∨ its2.size ≤ i := by omega
    exact pyNext_zipG_end (I.ok.hd hc) D hz hTI hTO h1 h2 p1 p2 he fun h' t' hk => ⟨rfl, I.turnedL (t' := t') (ch := [z, TI, TO, i1, i2]) (fun c o hb q =>
      hk c o (fun q' => hb (by simp [q'])) (fun q' => hb (by simp [q'])) (fun q' => hb (by simp [q'])) (fun q' => hb (by simp [q'])) q) hf⟩
  self := fun A i s Q E st h => wpAny_pyIter_zip st.1 h
def iZipG (K : PySem.W.Frag) (ta : TA) : TI := fun σ H R => ta σ H fun vs H1 => ∃ a b xs ys, vs = [a.val, b.val] ∧ IS K H1 a xs ∧ IS K H1 b ys ∧ R (ItzG K a b) H1
theorem IS.lt {X : Cx} {pins : List (Addr × Obj)} {σ : L2.St} {H : Hp} {s : Shared} (I : Inv X pins σ H s) {v : VS} {xs : List V} {tk : Tok} {d : Addr} (hd : d < s.heap.objs.size) (h : IS X.K H v xs) : (v.src tk).ad d < s.heap.objs.size := by
  cases v with
  | l a =>
    obtain ⟨its, rv, p, _⟩ := I.list h
    exact p.lt
  | t a =>
    obtain ⟨its, rv, p, _⟩ := I.tuple h
    obtain ⟨o1, ho1, _⟩ := id p
    exact Heap.lt_size ho1
  | s x => exact hd
theorem pi_zipG {X : Cx} {e e2 : Expr} {ta : TA} {p pos tpos : Pos} {elts : List Expr} {kk : Nat} (hg : Gl X "zip") (hm : X.mg "zip" = none) (ha : PA X [e, e2] ta)
    (hs : starEach [e, e2] X.env = (false, eval e X.env) :: starEach [e2] X.env) (hpl : (backTo pos (starEach [e2] X.env)).any (·.1) = false) :
    PI X (.Tuple elts kk tpos) (.Call (.Name "zip" p) [e, e2] [] pos) (iZipG X.K ta) := by
  refine ⟨fun pins s σ H R I h => ?_⟩
  refine Call_ (ld_blt I hg hm PyProof.Rows.boot_zip (PyProof.Rows.callWith_type1 (thn (ha.run pos pins s σ H _ I h) fun us s1 ⟨vs, H1, I1, r1, q1⟩ => ?_) hs hpl))
  obtain ⟨a, b, xs, ys, ex, hqx, hqy, q⟩ := q1
  subst ex
  cases r1 with
  | cons r rr =>
    cases rr with
    | cons r' rr =>
      cases rr
      have fresh5 : ∀ c, c ∈ [s1.heap.objs.size + 4, s1.heap.objs.size + 2, s1.heap.objs.size + 3, s1.heap.objs.size, s1.heap.objs.size + 1] → FpOk X pins H1 c := fun c hcm => by
        have e' : c = s1.heap.objs.size + 4 ∨ c = s1.heap.objs.size + 2 ∨ c = s1.heap.objs.size + 3 ∨ c = s1.heap.objs.size ∨ c = s1.heap.objs.size + 1 := by simpa using hcm
        have hle : s1.heap.objs.size ≤ c := by
          rcases e' with z | z | z | z | z
          · rw [z]; exact Nat.le_add_right _ _
          · rw [z]; exact Nat.le_add_right _ _
          · rw [z]; exact Nat.le_add_right _ _
          · rw [z]; exact Nat.le_refl _
          · rw [z]; exact Nat.le_add_right _ _
        exact I1.fpOk hle (I1.hok.fresh hle)
      have hd : X.env.locals < s1.heap.objs.size := by
        obtain ⟨m, hn, _⟩ := I1.loc
        exact hn.lt
      rename_i u u2
      obtain ⟨t1, rfl⟩ := VS.rel r
      obtain ⟨t2, rfl⟩ := VS.rel r'
      obtain ⟨its, p1, _, _⟩ := IS.of I1 t1 hqx
      obtain ⟨its2, p2, _, _⟩ := IS.of I1 t2 hqy
      refine call_zipG p1 p2 fun h' hz hTI hTO h1 h2 hsz hk => wpAny_pyIter_zip hz ?_
      have I2 : Inv X pins σ H1 { s1 with heap := h' } := I1.kept (t' := s1.toks) hk
      exact ⟨s1.heap.objs.size + 4, [s1.heap.objs.size + 4, s1.heap.objs.size + 2, s1.heap.objs.size + 3, s1.heap.objs.size, s1.heap.objs.size + 1], _, _, H1, rfl, I2,
        turn_zipG (dm := X.env.locals) (PySem.W.ktu_apart s1.heap.objs.size _ _ (IS.lt I1 hd hqx) (IS.lt I1 hd hqy)), ⟨hz, hTI, ⟨_, _, hTO⟩, h1, h2⟩, fresh5, q⟩
end Mp.Zp
end
section
set_option Elab.async false
set_option linter.all false
set_option maxRecDepth 100000
set_option maxHeartbeats 1000000
/-! MpEnum0: enumerate of a list, a tuple or an ascii text, at the library's level. -/
namespace Mp.Zp
open PySem
open PySem.Sem (wp)
section
variable {prog : Program} {w : World} {A : Around} {E : Value → Shared → Prop} {s : Shared}
theorem enumG_next_item {e it : Addr} {c : Src} {i : Nat} {items : Array Value} {old : Value} {Q : Value → Shared → Prop}
    (he : IsEnum s.heap e it i old) (hit : SIt s.heap c it i) (hl : SIs s.heap c items) (hx : i < items.size) (hne : e ≠ it)
    (hQ : ∀ x h' t', SV c items i x → IsEnumOut h' e it ((i : Int) + 1) x s.heap.objs.size → SIt h' c it (i + 1) →
      h'.get? s.heap.objs.size = some { cls := .type "tuple", data := .seq #[.int i t', x] } → h'.objs.size = s.heap.objs.size + 1 →
      (∀ b o, b ≠ e → b ≠ it → s.heap.get? b = some o → h'.get? b = some o) → Q (.ref s.heap.objs.size) { s with heap := h', toks := t' + 1 }) :
    wpAny (model prog w) A (Builtin.«enumerate.__next__» ⟨[.ref e], []⟩) (fun fin s' => ∃ v, fin = .done (.ret v) ∧ Q v s') E s := by
  obtain ⟨hp, g, d, tk0, os⟩ := s
  show wpAny _ _ (field (.ref e) 2 >>= _) _ _ _
  refine wpAny_bind (wpAny_field he rfl (x := .ref it) rfl ?_)
  refine wpAny_bind (nextOf_item hit hl hx fun x h₁ tk hx1 hit₁ hs₁ => ?_)
  replace hs₁ : Heap.SameBut it hp h₁ := hs₁
  have he₁ : IsEnum h₁ e it i old := (hs₁.2 e hne).trans he
  show wpAny _ _ (field (.ref e) 3 >>= _) _ _ ⟨h₁, g, d, tk, os⟩
  refine wpAny_bind (wpAny_field he₁ rfl (x := rawInt i) rfl ?_)
  show wpAny _ _ (field (.ref e) 4 >>= _) _ _ ⟨h₁, g, d, tk, os⟩
  refine wpAny_bind (wpAny_field he₁ rfl (x := .none) rfl ?_)
  show wpAny _ _ (mkInt i >>= _) _ _ ⟨h₁, g, d, tk, os⟩
  refine wpAny_bind (wpAny_mkInt ?_)
  show wpAny _ _ (setField (.ref e) 3 (rawInt ((i : Int) + 1)) >>= _) _ _ ⟨h₁, g, d, tk + 1, os⟩
  refine wpAny_bind (wpAny_setField_rec he₁ (by simp) fun h₂ he₂ hs₂ => ?_)
  replace hs₂ : Heap.SameBut e h₁ h₂ := hs₂
  replace he₂ : IsEnum h₂ e it ((i : Int) + 1) old := he₂
  show wpAny _ _ (setField (.ref e) 4 .none >>= _) _ _ ⟨h₂, g, d, tk + 1, os⟩
  refine wpAny_bind (wpAny_setField_rec he₂ (by simp) fun h₃ he₃ hs₃ => ?_)
  replace hs₃ : Heap.SameBut e h₂ h₃ := hs₃
  replace he₃ : IsEnum h₃ e it ((i : Int) + 1) old := he₃
  show wpAny _ _ (newTuple [.int i tk, x] >>= _) _ _ ⟨h₃, g, d, tk + 1, os⟩
  refine wpAny_bind (wpAny_newTuple ?_)
  have he₄ : IsEnum (h₃.push { cls := .type "tuple", data := .seq #[.int i tk, x] }) e it ((i : Int) + 1) old := Heap.get?_push_of_some _ he₃
  generalize hh₄ : h₃.push { cls := .type "tuple", data := .seq #[.int i tk, x] } = h₄ at he₄
  have hsz : h₃.objs.size = hp.objs.size := by rw [hs₃.1, hs₂.1, hs₁.1]
  have hel : e < hp.objs.size := Heap.lt_size he
  have ht₄ : h₄.get? hp.objs.size = some { cls := .type "tuple", data := .seq #[.int i tk, x] } := by rw [← hh₄, ← hsz]; exact Heap.get?_push_size _ rfl
  have hz₄ : h₄.objs.size = hp.objs.size + 1 := by rw [← hh₄, Heap.size_push, hsz]
  have hk₄ : ∀ b o, b ≠ e → b ≠ it → hp.get? b = some o → h₄.get? b = some o := fun b o hbe hbi hb => by
    rw [← hh₄]; exact Heap.get?_push_of_some _ (hs₃.extBut b o hbe (hs₂.extBut b o hbe (hs₁.extBut b o hbi hb)))
  have hit₄ : SIt h₄ c it (i + 1) := by
    rw [← hh₄]; exact ((hit₁.extBut hs₂.extBut (Ne.symm hne)).extBut hs₃.extBut (Ne.symm hne)).at fun o ho => Heap.get?_push_of_some _ ho
  show wpAny _ _ (Builtin.SmallTypes.ownedTupleIsFree (.ref e) >>= _) _ _ ⟨h₄, g, d, tk + 1, os⟩
  rw [hsz]
  clear hh₄ he₃ hs₃ he₂ hs₂ he₁ hs₁ hit₁ hsz h₃ h₂ h₁
  refine wpAny_bind ?_
  · unfold Builtin.SmallTypes.ownedTupleIsFree
    refine wpAny_bind (wpAny_field he₄ rfl (x := .none) rfl (wpAny_pure ?_))
    simp only [if_true]
    refine wpAny_bind (wpAny_rule ?_)
    refine wpAny_bind (wpAny_field he₄ rfl (x := old) rfl ?_)
    refine wpAny_bind (wpAny_setField_rec he₄ (by simp) fun h₅ he₅ hs₅ => ?_)
    replace hs₅ : Heap.SameBut e h₄ h₅ := hs₅
    replace he₅ : IsEnum h₅ e it ((i : Int) + 1) x := he₅
    show wpAny _ _ (Builtin.SmallTypes.ownedTupleHandOut (.ref e) (.ref hp.objs.size) >>= _) _ _ ⟨h₅, g, d, tk + 1, os⟩
    refine wpAny_bind ?_
    · unfold Builtin.SmallTypes.ownedTupleHandOut
      refine wpAny_bind (wpAny_setField_rec he₅ (by simp) fun h₆ he₆ hs₆ => ?_)
      replace hs₆ : Heap.SameBut e h₅ h₆ := hs₆
      replace he₆ : IsEnumOut h₆ e it ((i : Int) + 1) x hp.objs.size := he₆
      refine wpAny_setField_rec he₆ (by simp) fun h₇ he₇ hs₇ => ?_
      replace hs₇ : Heap.SameBut e h₆ h₇ := hs₇
      replace he₇ : IsEnumOut h₇ e it ((i : Int) + 1) x hp.objs.size := he₇
      refine wpAny_bind (wpAny_letGo (wpAny_pure ⟨_, rfl, hQ x h₇ tk hx1 he₇ ?_ ?_ ?_ ?_⟩))
      · exact ((hit₄.extBut hs₅.extBut (Ne.symm hne)).extBut hs₆.extBut (Ne.symm hne)).extBut hs₇.extBut (Ne.symm hne)
      · exact hs₇.extBut _ _ (Nat.ne_of_gt hel) (hs₆.extBut _ _ (Nat.ne_of_gt hel) (hs₅.extBut _ _ (Nat.ne_of_gt hel) ht₄))
      · rw [hs₇.1, hs₆.1, hs₅.1, hz₄]
      · exact fun b o hbe hbi hb => hs₇.extBut b o hbe (hs₆.extBut b o hbe (hs₅.extBut b o hbe (hk₄ b o hbe hbi hb)))

theorem pyNext_enumG_item {e it : Addr} {c : Src} {i : Nat} {items : Array Value} {old : Value} {Q : Option Value → Shared → Prop}
    (he : IsEnum s.heap e it i old) (hit : SIt s.heap c it i) (hl : SIs s.heap c items) (hx : i < items.size) (hne : e ≠ it)
    (hQ : ∀ x h' t', SV c items i x → IsEnumOut h' e it ((i : Int) + 1) x s.heap.objs.size → SIt h' c it (i + 1) →
      h'.get? s.heap.objs.size = some { cls := .type "tuple", data := .seq #[.int i t', x] } → h'.objs.size = s.heap.objs.size + 1 →
      (∀ b o, b ≠ e → b ≠ it → s.heap.get? b = some o → h'.get? b = some o) → Q (some (.ref s.heap.objs.size)) { s with heap := h', toks := t' + 1 }) :
    wpAny (model prog w) A (pyNext (.ref e)) Q E s := by
  have hT : s.TypeIs (.ref e) "enumerate" := ⟨_, he, rfl⟩
  unfold pyNext
  exact wpAny_bind (wpAny_attempt (wpAny_callSpecial?_slot (name := Str.ofString "__next__") hT F.slot_enumerate_next
    (wpAny_call_entry F.slot_enumerate_next hT F.entry_enumerate_next
      (enumG_next_item he hit hl hx hne fun x h' t' q a b c d k => wpAny_pure (hQ x h' t' q a b c d k)) (F.args_enumerate_next_1 _))))

theorem pyNext_enumG_end {e it : Addr} {c : Src} {i : Nat} {items : Array Value} {old : Value} {Q : Option Value → Shared → Prop} (hh : A.handled = none)
    (he : IsEnum s.heap e it i old) (hit : SIt s.heap c it i) (hl : SIs s.heap c items) (hx : items.size ≤ i)
    (hQ : ∀ h', Heap.ExtBut it s.heap h' → Q none { s with heap := h' }) : wpAny (model prog w) A (pyNext (.ref e)) Q E s := by
  have hT : s.TypeIs (.ref e) "enumerate" := ⟨_, he, rfl⟩
  unfold pyNext
  refine wpAny_bind (wpAny_attempt (wpAny_callSpecial?_slot (name := Str.ofString "__next__") hT F.slot_enumerate_next
    (wpAny_call_entry F.slot_enumerate_next hT F.entry_enumerate_next ?_ (F.args_enumerate_next_1 _))))
  show wpAny _ _ (field (.ref e) 2 >>= _) _ _ _
  refine wpAny_bind (wpAny_field he rfl (x := .ref it) rfl ?_)
  refine wpAny_bind (nextOf_end hh hit hl hx fun h' x he' hx' => ?_)
  obtain ⟨o, ho, hc⟩ := hx'
  refine wpAny_bind (wpAny_isInstance (T := "StopIteration") (b := true) ⟨o, ho, hc⟩ isSubtype_stop ?_)
  exact wpAny_pure (hQ _ he')
end
theorem meets_enumG (c : Src) (its : Array Value) :
    Meets (Builtin.«enumerate.__new__» ⟨[.type "enumerate", c.val], []⟩) (fun _ R s => SIs s.heap c its ∧
      R (.ok (.ret (.ref (s.heap.push c.itO).objs.size)))
        { s with heap := (s.heap.push c.itO).push { cls := .type "enumerate", data := .fields #[.none, .bool false, .ref s.heap.objs.size, rawInt 0, .none, .none] } }) :=
  .of_wp fun prog w A R s h => by
    obtain ⟨hp, g, d, tk, os⟩ := s; obtain ⟨hl, h⟩ := h
    have hsub := sub_enumerate
    have hL : SIs (Shared.heap ⟨hp, g, d, tk, os⟩) c its := hl
    wp_walk
    refine wpAny_stack_any fun st => wpAny_pure ?_
    split
    · rename_i c0 _ _ _ _ _
      cases (c0 == Value.type "enumerate")
      · wp_walk using pyIter_src hL
        exact ⟨_, rfl, h⟩
      · wp_walk using pyIter_src hL
        exact ⟨_, rfl, h⟩
    · wp_walk using pyIter_src hL
      exact ⟨_, rfl, h⟩
section
variable {prog : Program} {w : World} {A : Around} {E : Value → Shared → Prop} {s : Shared}
theorem call_enumG {c : Src} {items : Array Value} {Q : Value → Shared → Prop} (hL : SIs s.heap c items)
    (h : ∀ h', IsEnum h' (s.heap.objs.size + 1) s.heap.objs.size 0 .none → SIt h' c s.heap.objs.size 0 → h'.objs.size = s.heap.objs.size + 2 →
      (∀ b o, s.heap.get? b = some o → h'.get? b = some o) → Q (.ref (s.heap.objs.size + 1)) { s with heap := h' }) :
    wpAny (model prog w) A (call (.type "enumerate") [c.val]) Q E s := by
  refine callType_new F.called_enumerate (by decide) (F.typeCall_enumerate_1 _) (F.newCall_enumerate_1 _) (fun obj => F.args_object_init_2 obj _) F.entry_enumerate_new
    (meets_enumG c items) ⟨hL, ?_⟩
  have hz : (s.heap.push c.itO).objs.size = s.heap.objs.size + 1 := Heap.size_push ..
  show _ ∧ _
  rw [hz]
  have he : IsEnum ((s.heap.push c.itO).push
      { cls := .type "enumerate", data := .fields #[.none, .bool false, .ref s.heap.objs.size, rawInt 0, .none, .none] }) (s.heap.objs.size + 1) s.heap.objs.size 0 .none := by
    have := Heap.get?_push_size (s.heap.push c.itO)
      (o := { cls := .type "enumerate", data := .fields #[.none, .bool false, .ref s.heap.objs.size, rawInt 0, .none, .none] }) rfl
    rw [hz] at this; exact this
  refine ⟨⟨_, he, rfl⟩, h _ he (itO_at (Heap.get?_push_of_some _ (Heap.get?_push_size _ (itO_free c)))) (by rw [Heap.size_push, hz]) fun b o x => Heap.get?_push_of_some _ (Heap.get?_push_of_some _ x)⟩
end
end Mp.Zp
end
section
set_option Elab.async false
set_option linter.all false
set_option maxRecDepth 100000
set_option maxHeartbeats 1000000
/-! MpEnum: enumerate of a list, a tuple or an ascii text, as an iterable. -/
namespace Mp.Zp
open PySem PySem.Spec PyProof.Rows L2
def IteG (K : PySem.W.Frag) (a : VS) : It :=
  ⟨fun i H => ∃ (xs : List V) (x : V), IS K H a xs ∧ xs[i]? = some x, fun i H v H' => ∃ T x, v = .ref T ∧ H T = none ∧ H' = upd H T (.tup [.int (i : Nat), x]) ∧ ∀ xs, IS K H a xs → xs[i]? = some x, fun i H => ∃ xs : List V, IS K H a xs ∧ xs.length ≤ i⟩
theorem turn_enumG {P : Program} {w : World} {K : PySem.W.Frag} {elts : List Expr} {kk : Nat} {tpos : Pos} {t1 : Tok} (a : VS) (e it : Addr) :
    Turn P w K (.Tuple elts kk tpos) (IteG K a) [e, it] e (fun i h => (∃ old, IsEnum h e it ((i : Nat) : Int) old) ∧ SIt h (a.src t1) it i ∧ e ≠ it) where
  mem := by simp
  obj := fun i h st b hb => by
    obtain ⟨⟨old, he⟩, s1, _⟩ := st
    obtain ⟨o, ho, hd⟩ := s1.obj
    have e' : b = e ∨ b = it := by simpa using hb
    rcases e' with z | z
    · rw [z]; exact ⟨_, he, fun v q => nomatch q⟩
    · rw [z]; exact ⟨o, ho, hd⟩
  keep := fun i h h' st k => let ⟨⟨old, he⟩, hi, hne⟩ := st; ⟨⟨old, k e (by simp) _ he⟩, hi.at fun o q => k it (by simp) o q, hne⟩
  item := by
    intro X hP hw hK hc i pins s σ H E I hf st hg
    subst hP hw hK
    obtain ⟨⟨old, he⟩, hit, hne⟩ := st
    obtain ⟨xs, x, hq, hx⟩ := hg
    obtain ⟨its, p, l1, r1⟩ := IS.of I t1 hq
    have hel : e < s.heap.objs.size := Heap.lt_size he
    have hil : it < s.heap.objs.size := by obtain ⟨_, q, _⟩ := hit.obj; exact Heap.lt_size q
    refine pyNext_enumG_item he hit p (by rw [l1]; exact (List.getElem?_eq_some_iff.mp hx).1) hne fun u h' t' hu ho hit' hT hsz hk => ?_
    have ru := r1 i x u hx hu
    refine ⟨_, rfl, wpAny_letOwnedTupleGo_enum (s := { s with heap := h', toks := t' + 1 }) ho fun h'' he' sb => ?_⟩
    have hT2 : h''.get? s.heap.objs.size = some { cls := .type "tuple", data := .seq #[.int i t', u] } := (sb.2 _ (Nat.ne_of_gt hel)).trans hT
    have new : ObjOk X.prog X.w (upd H s.heap.objs.size (.tup [.int (i : Nat), x])) h'' s.heap.objs.size (.tup [.int (i : Nat), x]) :=
      ⟨by show 2 ≤ sizeLine; decide, [.int i t', u], .cons ⟨_, rfl⟩ (.cons ru .nil), ⟨_, hT2, rfl, _, rfl⟩⟩
    have I1 : Inv X pins σ (upd H s.heap.objs.size (.tup [.int (i : Nat), x])) { s with heap := h'', toks := t' + 1 } :=
      I.turnedNew (ch := [e, it]) (fun b ob hb q => (sb.2 b (fun z => hb (by simp [z]))).trans (hk b ob (fun z => hb (by simp [z])) (fun z => hb (by simp [z])) q)) hf (Nat.le_refl _) new
    refine ⟨.ref s.heap.objs.size, _, I1, rfl, ⟨_, x, rfl, I.hok.fresh (Nat.le_refl _), rfl, fun ys hy => by rw [IS.inj I hy hq]; exact hx⟩, ⟨⟨u, ?_⟩, hit'.at fun o q => (sb.2 it (Ne.symm hne)).trans q, hne⟩, fun b hb => ?_⟩
    · have e1 : ((i + 1 : Nat) : Int) = (i : Int) + 1 := by omega
      rw [e1]; exact he'
    · have hb' : b < s.heap.objs.size := by
        have e' : b = e ∨ b = it := by simpa using hb
        rcases e' with z | z
        · rw [z]; exact hel
        · rw [z]; exact hil
      rw [upd_ne (Nat.ne_of_lt hb')]
      exact (hf b hb).1
  done := by
    intro X hP hw hK hc i pins s σ H E I hf st hg
    subst hP hw hK
    obtain ⟨⟨old, he⟩, hit, hne⟩ := st
    obtain ⟨xs, hq, hx⟩ := hg
    obtain ⟨its, p, l1, r1⟩ := IS.of I t1 hq
    obtain ⟨f0, f1, f2, f3, f4, f5⟩ := hf it (by simp)
    exact pyNext_enumG_end (I.ok.hd hc) he hit p (by omega) fun h' eb => ⟨rfl, I.turned (t' := s.toks) (fun b o hb q => eb b o hb q) f0 f1 f3 f4 f5⟩
  self := fun A i s Q E st h => let ⟨⟨_, he⟩, _⟩ := st; wpAny_pyIter_enum he h
def iEnumG (K : PySem.W.Frag) (ta : TA) : TI := fun σ H R => ta σ H fun vs H1 => ∃ a xs, vs = [a.val] ∧ IS K H1 a xs ∧ R (IteG K a) H1
theorem pi_enumG {X : Cx} {e : Expr} {ta : TA} {p pos tpos : Pos} {elts : List Expr} {kk : Nat} (hg : Gl X "enumerate") (hm : X.mg "enumerate" = none) (ha : PA X [e] ta) (hs : starEach [e] X.env = [(false, eval e X.env)]) :
    PI X (.Tuple elts kk tpos) (.Call (.Name "enumerate" p) [e] [] pos) (iEnumG X.K ta) := by
  refine ⟨fun pins s σ H R I h => ?_⟩
  refine Call_ (ld_blt I hg hm boot_enumerate (PyProof.Rows.callWith_type1 (thn (ha.run pos pins s σ H _ I h) fun us s1 ⟨vs, H1, I1, r1, q1⟩ => ?_) hs rfl))
  obtain ⟨a, xs, ex, hq, q⟩ := q1
  subst ex
  cases r1 with
  | cons r rr =>
    cases rr
    rename_i u
    obtain ⟨t1, rfl⟩ := VS.rel r
    obtain ⟨its, p', _, _⟩ := IS.of I1 t1 hq
    refine call_enumG p' fun h' he hit hsz hk => wpAny_pyIter_enum he ?_
    have I2 : Inv X pins σ H1 { s1 with heap := h' } := I1.kept (t' := s1.toks) hk
    refine ⟨s1.heap.objs.size + 1, [s1.heap.objs.size + 1, s1.heap.objs.size], _, _, H1, rfl, I2, turn_enumG (t1 := t1) a (s1.heap.objs.size + 1) s1.heap.objs.size, ⟨⟨.none, he⟩, hit, Nat.succ_ne_self _⟩, fun b hb => ?_, q⟩
    have e' : b = s1.heap.objs.size + 1 ∨ b = s1.heap.objs.size := by simpa using hb
    have hle : s1.heap.objs.size ≤ b := by
      rcases e' with z | z
      · rw [z]; exact Nat.le_add_right _ _
      · rw [z]; exact Nat.le_refl _
    exact I1.fpOk hle (I1.hok.fresh hle)
end Mp.Zp
end
section
set_option Elab.async false
set_option linter.all false
set_option maxRecDepth 100000
set_option maxHeartbeats 1000000
/-! MpLoops: targets, what is walked, comprehensions. -/
namespace Mp
open PySem PySem.Spec PyProof.Rows L2

section
variable {S : Sta} {ow : Addr → Prop} {io : List Addr} {H : Hp} {fr fr' : Fr} {σ σ' : L2.St}
theorem RF.set {i : Nat} {d : Sl} {v : V} (h : RF S ow io H fr σ) (q : RSl S ow io H d v) : RF S ow io H (fr.set i (some d)) (σ.set i (some v)) := by
  refine ⟨by rw [List.length_set, List.length_set]; exact h.1, fun j e hj => ?_⟩
  by_cases hij : i = j
  · subst hij
    by_cases hl : i < fr.length
    · rw [List.getElem?_set_self hl] at hj
      cases hj
      exact ⟨v, by rw [List.getElem?_set_self (Nat.lt_of_lt_of_le hl h.1)], q⟩
    · rw [List.getElem?_eq_none (by rw [List.length_set]; omega)] at hj
      cases hj
  · rw [List.getElem?_set_ne hij] at hj ⊢
    exact h.2 j e hj
/-- the slots outside are as they were -/
def Off (is : List Nat) (σ σ' : L2.St) : Prop := σ'.length = σ.length ∧ ∀ j, j ∉ is → σ'[j]? = σ[j]?
theorem Off.refl (is : List Nat) (σ : L2.St) : Off is σ σ := ⟨rfl, fun _ _ => rfl⟩
theorem Off.trans {is : List Nat} {σ σ1 σ2 : L2.St} (a : Off is σ σ1) (b : Off is σ1 σ2) : Off is σ σ2 := ⟨b.1.trans a.1, fun j h => (b.2 j h).trans (a.2 j h)⟩
theorem Off.mono {is js : List Nat} {σ σ1 : L2.St} (a : Off is σ σ1) (h : ∀ i ∈ is, i ∈ js) : Off js σ σ1 := ⟨a.1, fun j hj => a.2 j fun z => hj (h j z)⟩
theorem wipe_get {σ : L2.St} {j : Nat} : ∀ vs : List Nat, (wipe σ vs)[j]? = if j ∈ vs ∧ j < σ.length then some none else σ[j]?
  | [] => by simp [wipe]
  | v :: vs => by
    unfold wipe
    by_cases hv : v = j
    · subst hv
      by_cases hl : v < σ.length
      · rw [List.getElem?_set_self (by rw [wipe_length]; exact hl), if_pos ⟨List.mem_cons_self, hl⟩]
      · rw [List.getElem?_eq_none (by rw [List.length_set, wipe_length]; omega), if_neg (by omega), List.getElem?_eq_none (by omega)]
    · rw [List.getElem?_set_ne hv, wipe_get vs]
      have : (j ∈ v :: vs ∧ j < σ.length) ↔ (j ∈ vs ∧ j < σ.length) := by
        rw [List.mem_cons]
        constructor
        · rintro ⟨h | h, l⟩
          · exact absurd h.symm hv
          · exact ⟨h, l⟩
        · rintro ⟨h, l⟩; exact ⟨.inr h, l⟩
      simp only [this]
theorem Off.wipe {vs : List Nat} (h : Off vs σ σ') : L2.wipe σ' vs = L2.wipe σ vs := by
  apply List.ext_getElem?
  intro j
  rw [wipe_get, wipe_get, h.1]
  by_cases hj : j ∈ vs ∧ j < σ.length
  · rw [if_pos hj, if_pos hj]
  · rw [if_neg hj, if_neg hj]
    by_cases hv : j ∈ vs
    · have : ¬ j < σ.length := fun l => hj ⟨hv, l⟩
      rw [List.getElem?_eq_none (by rw [h.1]; omega), List.getElem?_eq_none (by omega)]
    · exact h.2 j hv
theorem RF.wipe {vs : List Nat} (h : RF S ow io H fr σ) : RF S ow io H (wipeF fr vs) (L2.wipe σ vs) := by
  induction vs with
  | nil => exact h
  | cons v vs ih =>
    refine ⟨by unfold wipeF L2.wipe; rw [List.length_set, List.length_set]; exact ih.1, fun j e hj => ?_⟩
    unfold wipeF at hj
    unfold L2.wipe
    by_cases hv : v = j
    · subst hv
      by_cases hl : v < (wipeF fr vs).length
      · rw [List.getElem?_set_self hl] at hj; cases hj
      · rw [List.getElem?_eq_none (by rw [List.length_set]; omega)] at hj; cases hj
    · rw [List.getElem?_set_ne hv] at hj ⊢
      exact ih.2 j e hj
end

/-! ### targets -/
def gR (S : Sta) (t : Tg) : TG := fun v σ H Q => ∃ ow io d fr fr', RV S ow io H d v ∧ RF S ow io H fr σ ∧ tgD t d fr = some fr' ∧ ∀ σ', RF S ow io H fr' σ' → Off (slots t) σ σ' → Q σ' H
def gRs (S : Sta) (ts : List Tg) : TGs := fun vs σ H Q => ∃ ow io ds fr fr', RVs S ow io H ds vs ∧ RF S ow io H fr σ ∧ tgDs ts ds fr = some fr' ∧ ∀ σ', RF S ow io H fr' σ' → Off (slotss ts) σ σ' → Q σ' H
theorem PG.imp {X : Cx} {e : Expr} {t t' : TG} (h : PG X e t) (i : ∀ v σ H Q, t' v σ H Q → t v σ H Q) : PG X e t' := ⟨fun pins s σ H v u Q I r q => h.run pins s σ H v u Q I r (i _ _ _ _ q)⟩
theorem PGs.imp {X : Cx} {e : List Expr} {t t' : TGs} (h : PGs X e t) (i : ∀ v σ H Q, t' v σ H Q → t v σ H Q) : PGs X e t' := ⟨fun pins s σ H v u Q I r q => h.run pins s σ H v u Q I r (i _ _ _ _ q)⟩
section
variable {X : Cx} {S : Sta} {pos : Pos}
theorem sg_name {i : Nat} {x : Str} (hN : X.N.Nodup) (hi : X.N[i]? = some x) (hx : Loc X.env.scope x) (hf : X.fn x = true ∨ X.env.scope.names.lookup x = some .local) : PG X (.Name x pos) (gR S (.nm i)) := by
  refine PG.imp (pg_name hN hi hx hf) fun v σ H Q ⟨ow, io, d, fr, fr', hv, hr, ht, q⟩ => ?_
  unfold tgD at ht
  cases ht
  refine q _ (hr.set (d := .val d) hv) ⟨List.length_set, fun j hj => ?_⟩
  unfold slots at hj
  rw [List.getElem?_set_ne (fun e => hj (by rw [e]; exact List.mem_singleton.mpr rfl))]
theorem sgs_nil : PGs X [] (gRs S []) := by
  refine PGs.imp pgs_nil fun vs σ H Q ⟨ow, io, ds, fr, fr', hv, hr, ht, q⟩ => ?_
  cases ds with
  | nil =>
    unfold tgDs at ht
    cases ht
    unfold RVs at hv
    exact ⟨hv, q σ hr (.refl _ _)⟩
  | cons d ds => unfold tgDs at ht; cases ht
theorem sgs_cons {e : Expr} {es : List Expr} {t : Tg} {ts : List Tg} (h1 : PG X e (gR S t)) (h2 : PGs X es (gRs S ts)) (hs : (assignEach (e :: es) X.env).map (·.2) = assign e X.env :: (assignEach es X.env).map (·.2)) : PGs X (e :: es) (gRs S (t :: ts)) := by
  refine PGs.imp (pgs_cons h1 h2 hs) fun vs σ H Q ⟨ow, io, ds, fr, fr', hv, hr, ht, q⟩ => ?_
  cases ds with
  | nil => unfold tgDs at ht; cases ht
  | cons d ds =>
    unfold RVs at hv
    obtain ⟨v, r, rfl, v1, v2⟩ := hv
    unfold tgDs at ht
    cases e1 : tgD t d fr with
    | none => rw [e1] at ht; cases ht
    | some fr1 =>
      rw [e1] at ht
      refine ⟨v, r, rfl, ow, io, d, fr, fr1, v1, hr, e1, fun σ1 hr1 o1 => ?_⟩
      refine ⟨ow, io, ds, fr1, fr', v2, hr1, ht, fun σ2 hr2 o2 => q σ2 hr2 ?_⟩
      unfold slotss
      exact (o1.mono fun i hi => List.mem_append_left _ hi).trans (o2.mono fun i hi => List.mem_append_right _ hi)
theorem tgDs_len : ∀ {ts : List Tg} {ds : List D} {fr fr' : Fr}, tgDs ts ds fr = some fr' → ds.length = ts.length
  | [], [], _, _, _ => rfl
  | [], _ :: _, _, _, h => by unfold tgDs at h; cases h
  | _ :: _, [], _, _, h => by unfold tgDs at h; cases h
  | t :: ts, d :: ds, fr, _, h => by
    unfold tgDs at h
    cases e : tgD t d fr with
    | none => rw [e] at h; cases h
    | some f1 => rw [e] at h; rw [List.length_cons, List.length_cons, tgDs_len h]
theorem sg_tup {es : List Expr} {k : Nat} {ts : List Tg} (ov : Ov S X) (hc : X.calm = true) (h : PGs X es (gRs S ts)) (hn : (assignEach es X.env).length = ts.length) (hst : (assignEach es X.env).findIdx? (·.1) = none) : PG X (.Tuple es k pos) (gR S (.tup ts)) := by
  refine ⟨fun pins s σ H v u Q I r ⟨ow, io, d, fr, fr', hv, hr, ht, q⟩ => ?_⟩
  cases d with
  | lst ds =>
    obtain ⟨a, vs, rfl, h1, h2⟩ := hv.of_lst
    unfold tgD at ht
    refine (L2.pg_lst hc h hn hst).run pins s σ H _ _ Q I r ⟨a, vs, rfl, .inl (.inl h1), by rw [← h2.length]; exact tgDs_len ht, ow, io, ds, fr, fr', h2, hr, ht, fun σ' h3 h4 => q σ' h3 ?_⟩
    unfold slots
    exact h4
  | tup ds =>
    obtain ⟨a, vs, rfl, h1, h2⟩ := hv.of_tup
    unfold tgD at ht
    refine (pg_tup hc h hn hst).run pins s σ H _ _ Q I r ⟨a, vs, rfl, by rw [ov.K]; exact h1, by rw [← h2.length]; exact tgDs_len ht, ow, io, ds, fr, fr', h2, hr, ht, fun σ' h3 h4 => q σ' h3 ?_⟩
    unfold slots
    exact h4
  | _ => unfold tgD at ht; cases ht
end

/-! ### what is walked -/
structure JOk (S : Sta) (ow : Addr → Prop) (io : List Addr) (H : Hp) (J : It) (xs : List D) : Prop where
  go : ∀ i ow' io' H', i < xs.length → Ey ow io H ow' io' H' → J.go i H'
  stop : ∀ ow' io' H', Ey ow io H ow' io' H' → J.stop xs.length H'
  yld : ∀ i ow' io' H' x H2, i < xs.length → Ey ow io H ow' io' H' → J.yld i H' x H2 → ∃ d, xs[i]? = some d ∧
    ((H2 = H' ∧ RV S ow' io' H' d x) ∨ ∃ T vs ds, H' T = none ∧ H2 = upd H' T (.tup vs) ∧ x = .ref T ∧ d = .tup ds ∧ RVs S ow' io' H' ds vs)
def PostI (S : Sta) (W : WX) (ow : Addr → Prop) (io : List Addr) (H : Hp) (σ : L2.St) (Q : It → Hp → Prop) : R (List D) → Prop
  | .ok xs m' => ∀ io' H' J, Ex io H io' H' → RH S ow io' H' m' → JOk S ow io' H' J xs → Q J H'
  | .exc x m' => ∀ io' H' dx fs, Ex io H io' H' → RH S ow io' H' m' → H' dx = some (.xd fs) → dx ∉ io' → ¬ ow dx → RFs S ow io' H' x.ns x.ds fs → W (.ref (S.ca x.c)) (some dx) σ H'
  | .bad => False
def tI (S : Sta) (W : WX) (f : Fes) : TI := fun σ H R => ∃ ow io fr m, Rp S ow io H fr m σ ∧ PostI S W ow io H σ R (f fr m)
theorem PI.imp {X : Cx} {tg e : Expr} {t t' : TI} (h : PI X tg e t) (i : ∀ σ H Q, t' σ H Q → t σ H Q) : PI X tg e t' := ⟨fun pins s σ H Q I q => h.run pins s σ H Q I (i _ _ _ q)⟩
/-- the items of a value -/
def itF (f : Fe) : Fes := fun fr m => (f fr m).bind fun x m1 => match itemsD x with | some xs => .ok xs m1 | none => .bad
section
variable {X : Cx} {S : Sta} {W : WX} {tg a b : Expr} {fa fb : Fe} {pos : Pos}
theorem PostI.seq {ow : Addr → Prop} {io : List Addr} {H : Hp} {σ : L2.St} {r : R D} {k : D → MH → R (List D)} {Q : It → Hp → Prop} {Q1 : VK} (p : PostI S W ow io H σ Q (r.bind k))
    (st : ∀ x m1 io1 H1 v, Ex io H io1 H1 → RH S ow io1 H1 m1 → RV S ow io1 H1 x v → PostI S W ow io1 H1 σ Q (k x m1) → Q1 v H1) : Post S W ow io H σ Q1 r := by
  cases r with
  | ok d m' =>
    intro io' H' v y h q
    refine st d m' io' H' v y h q ?_
    have p : PostI S W ow io H σ Q (k d m') := p
    cases e : k d m' with
    | ok xs m2 => rw [e] at p; exact fun io2 H2 J x1 => p io2 H2 J (y.trans x1)
    | exc z m2 => rw [e] at p; exact fun io2 H2 dx fs x1 => p io2 H2 dx fs (y.trans x1)
    | bad => rw [e] at p; exact p
  | exc e m' => exact p
  | bad => exact p
theorem SqL.ey {K : PySem.W.Frag} {ow ow' : Addr → Prop} {io io' : List Addr} {H H' : Hp} {a : Addr} {vs : List V} (x : Ey ow io H ow' io' H') (h : Sil ow io H a (.lst vs) ∨ KLst K a vs) : SqL K H' a vs := h.imp (fun z => (Sil.ey (o := .lst vs) x True.intro z).1) id
theorem SqT.ey {K : PySem.W.Frag} {ow ow' : Addr → Prop} {io io' : List Addr} {H H' : Hp} {a : Addr} {vs : List V} (x : Ey ow io H ow' io' H') (h : Sil ow io H a (.tup vs) ∨ KTup K a vs) : SqT K H' a vs := h.imp (fun z => (Sil.ey (o := .tup vs) x True.intro z).1) id
theorem jok_list {ow : Addr → Prop} {io : List Addr} {H : Hp} {a : Addr} {vs : List V} {xs : List D} (h : Sil ow io H a (.lst vs) ∨ KLst S.K a vs) (q : RVs S ow io H xs vs) : JOk S ow io H (Itl S.K a) xs where
  go := fun i ow' io' H' hi x => by
    rw [q.length] at hi
    exact ⟨vs, vs[i], SqL.ey x h, by simp [hi]⟩
  stop := fun ow' io' H' x => ⟨vs, SqL.ey x h, by rw [q.length]; exact Nat.le_refl _⟩
  yld := fun i ow' io' H' v H2 hi x y => by
    have e1 := y.2 vs (SqL.ey x h)
    obtain ⟨w, e2, q2⟩ := (q.ey x).get (List.getElem?_eq_getElem hi)
    rw [e1] at e2
    cases e2
    exact ⟨xs[i], List.getElem?_eq_getElem hi, .inl ⟨y.1, q2⟩⟩
theorem jok_tup {ow : Addr → Prop} {io : List Addr} {H : Hp} {a : Addr} {vs : List V} {xs : List D} (h : Sil ow io H a (.tup vs) ∨ KTup S.K a vs) (q : RVs S ow io H xs vs) : JOk S ow io H (Itt S.K a) xs where
  go := fun i ow' io' H' hi x => by
    rw [q.length] at hi
    exact ⟨vs, vs[i], SqT.ey x h, by simp [hi]⟩
  stop := fun ow' io' H' x => ⟨vs, SqT.ey x h, by rw [q.length]; exact Nat.le_refl _⟩
  yld := fun i ow' io' H' v H2 hi x y => by
    have e1 := y.2 vs (SqT.ey x h)
    obtain ⟨w, e2, q2⟩ := (q.ey x).get (List.getElem?_eq_getElem hi)
    rw [e1] at e2
    cases e2
    exact ⟨xs[i], List.getElem?_eq_getElem hi, .inl ⟨y.1, q2⟩⟩
theorem jok_range {ow : Addr → Prop} {io : List Addr} {H : Hp} {lo : Int} {n : Nat} : JOk S ow io H (Itr lo n) ((List.range n).map fun (k : Nat) => .int (lo + (k : Int))) where
  go := fun i ow' io' H' hi x => by
    rw [List.length_map, List.length_range] at hi
    exact hi
  stop := fun ow' io' H' x => by
    rw [List.length_map, List.length_range]
    exact Nat.le_refl n
  yld := fun i ow' io' H' v H2 hi x y => by
    rw [List.length_map, List.length_range] at hi
    refine ⟨.int (lo + (i : Int)), by simp [hi], .inl ⟨y.1, ?_⟩⟩
    rw [y.2]
    exact .mk_int
theorem jok_str {ow : Addr → Prop} {io : List Addr} {H : Hp} {z : Str} : JOk S ow io H (Its z) (z.cps.toList.map fun c => .str ⟨#[c]⟩) where
  go := fun i ow' io' H' hi x => by
    rw [List.length_map, Array.length_toList] at hi
    exact hi
  stop := fun ow' io' H' x => by
    rw [List.length_map, Array.length_toList]
    exact Nat.le_refl _
  yld := fun i ow' io' H' v H2 hi x y => by
    obtain ⟨e, c, e1, e2⟩ := y
    refine ⟨.str ⟨#[c]⟩, by simp [e1], .inl ⟨e, ?_⟩⟩
    rw [e2]
    exact .mk_str
/-- a list, a tuple, a text -/
def iAny (K : PySem.W.Frag) (tl : TE) : TI := fun σ H R => tl σ H fun x H1 => (∃ a, x = .ref a ∧ (∃ xs, SqL K H1 a xs) ∧ R (Itl K a) H1) ∨ (∃ a, x = .ref a ∧ (∃ xs, SqT K H1 a xs) ∧ R (Itt K a) H1) ∨ (∃ z, x = .str z ∧ R (Its z) H1)
theorem pi_any {X : Cx} {tg l : Expr} {tl : TE} (hl : PE X l tl) : PI X tg l (iAny X.K tl) := by
  refine ⟨fun pins s σ H R I h => ?_⟩
  refine thn (hl.run pins s σ H _ I h) fun v s1 ⟨y, H1, I1, r1, q⟩ => ?_
  rcases q with ⟨a, rfl, ⟨xs, hq⟩, q⟩ | ⟨a, rfl, ⟨xs, hq⟩, q⟩ | ⟨x, rfl, q⟩
  · cases r1
    obtain ⟨its, rv, p, hz⟩ := I1.list hq
    refine wpAny_pyIter_list p.isList ?_
    refine ⟨s1.heap.objs.size, [s1.heap.objs.size], _, _, H1, rfl, I1.kept (t' := s1.toks) fun b o e => Heap.get?_push_of_some _ e, turn_list a _, ⟨_, Heap.get?_push_size _ rfl, rfl, rfl⟩, fun b hb => ?_, q⟩
    have e : b = s1.heap.objs.size := by simpa using hb
    subst e
    exact I1.fpOk (Nat.le_refl _) (I1.hok.fresh (Nat.le_refl _))
  · cases r1
    obtain ⟨its, rv, p, hz⟩ := I1.tuple hq
    refine wpAny_pyIter_tuple (show s1.heap.IsTuple a its.toArray from p) ?_
    refine ⟨s1.heap.objs.size, [s1.heap.objs.size], _, _, H1, rfl, I1.kept (t' := s1.toks) fun b o e => Heap.get?_push_of_some _ e, turn_tuple a _, ⟨_, Heap.get?_push_size _ rfl, rfl, rfl⟩, fun b hb => ?_, q⟩
    have e : b = s1.heap.objs.size := by simpa using hb
    subst e
    exact I1.fpOk (Nat.le_refl _) (I1.hok.fresh (Nat.le_refl _))
  · obtain ⟨t, rfl⟩ := r1
    cases ha : x.cps.all (· < 128)
    · exact wpAny_pyIter_wide ha (pi_one (tk := s1.toks) I1 _ (turn_str _ x t "str_iterator" (.inr rfl)) ⟨_, Heap.get?_push_size _ rfl, rfl, rfl⟩ q)
    · exact wpAny_pyIter_ascii ha (pi_one (tk := s1.toks) I1 _ (turn_str _ x t "str_ascii_iterator" (.inl rfl)) ⟨_, Heap.get?_push_size _ rfl, rfl, rfl⟩ q)
/-- what the items of a value stand on -/
theorem items_rv {ow : Addr → Prop} {io : List Addr} {H : Hp} {x : D} {v : V} {xs : List D} (hx : RV S ow io H x v) (e : itemsD x = some xs) :
    (∃ a vs, v = .ref a ∧ (Sil ow io H a (.lst vs) ∨ KLst S.K a vs) ∧ RVs S ow io H xs vs) ∨ (∃ a vs, v = .ref a ∧ (Sil ow io H a (.tup vs) ∨ KTup S.K a vs) ∧ RVs S ow io H xs vs) ∨ ∃ z, v = .str z ∧ xs = z.cps.toList.map fun c => .str ⟨#[c]⟩ := by
  cases x with
  | str z => cases e; cases hx.of_str; exact .inr (.inr ⟨z, rfl, rfl⟩)
  | tup ys =>
    cases e
    unfold RV at hx
    obtain ⟨a, vs, e, r, q⟩ := hx
    exact .inr (.inl ⟨a, vs, e, r, q⟩)
  | lst ys =>
    cases e
    unfold RV at hx
    obtain ⟨a, vs, e, r, q⟩ := hx
    exact .inl ⟨a, vs, e, .inl ⟨.inl r.1, r.2⟩, q⟩
  | fz ys =>
    cases e
    unfold RV at hx
    obtain ⟨a, vs, e, r, q⟩ := hx
    exact .inl ⟨a, vs, e, r, q⟩
  | _ => cases e
theorem si_val (ov : Ov S X) (h : SE X S W a fa) : PI X tg a (tI S W (itF fa)) := by
  refine PI.imp (pi_any h) fun σ H Q ⟨ow, io, fr, m, rp, p⟩ => ?_
  refine ⟨ow, io, fr, m, rp, p.seq fun x m1 io1 H1 v x1 r1 v1 p1 => ?_⟩
  cases e : itemsD x with
  | none => rw [e] at p1; exact p1.elim
  | some xs =>
    rw [e] at p1
    rw [ov.K]
    rcases items_rv v1 e with ⟨b, vs, rfl, h1, q1⟩ | ⟨b, vs, rfl, h1, q1⟩ | ⟨z, rfl, rfl⟩
    · exact .inl ⟨b, rfl, ⟨vs, SqL.ey (.refl _ _ _) h1⟩, p1 io1 H1 _ (.refl _ _) r1 (jok_list h1 q1)⟩
    · exact .inr (.inl ⟨b, rfl, ⟨vs, SqT.ey (.refl _ _ _) h1⟩, p1 io1 H1 _ (.refl _ _) r1 (jok_tup h1 q1)⟩)
    · exact .inr (.inr ⟨z, rfl, p1 io1 H1 _ (.refl _ _) r1 jok_str⟩)
/-! range -/
def rng1F (fb : Fe) : Fes := fun fr m => (fb fr m).bind fun y m1 => match rngD (.int 0) y with | some xs => .ok xs m1 | none => .bad
def rng2F (fa fb : Fe) : Fes := fun fr m => (fa fr m).bind fun x m1 => (fb fr m1).bind fun y m2 => match rngD x y with | some xs => .ok xs m2 | none => .bad
theorem rngD_ok {x y : D} {xs : List D} (e : rngD x y = some xs) : ∃ i j, x = .int i ∧ y = .int j ∧ (-(2 ^ 62) ≤ i ∧ i < 2 ^ 62 ∧ -(2 ^ 62) ≤ j ∧ j < 2 ^ 62) ∧ xs = (List.range (j - i).toNat).map fun (n : Nat) => .int (i + (n : Int)) := by
  unfold rngD at e
  split at e
  · unfold rngI at e
    split at e
    · rename_i h
      cases e
      exact ⟨_, _, rfl, rfl, h, rfl⟩
    · cases e
  · cases e
theorem si_rng1 {p : Pos} (hg : Gl X "range") (hm : X.mg "range" = none) (h : SE X S W b fb) (hn : nst b = true) : PI X tg (.Call (.Name "range" p) [b] [] pos) (tI S W (rng1F fb)) := by
  refine PI.imp (pi_range1 hg hm (pa_cons h pa_nil (starEach_ns hn)) (starEach_ns hn)) fun σ H Q ⟨ow, io, fr, m, rp, p⟩ => ?_
  refine ⟨ow, io, fr, m, rp, p.seq fun y m1 io1 H1 v x1 r1 v1 p1 => ?_⟩
  cases e : rngD (.int 0) y with
  | none => rw [e] at p1; exact p1.elim
  | some xs =>
    rw [e] at p1
    obtain ⟨i, j, e1, rfl, h4, rfl⟩ := rngD_ok e
    cases e1
    cases v1.of_int
    refine ⟨j, rfl, h4.2.2.1, h4.2.2.2, p1 io1 H1 _ (.refl _ _) r1 ?_⟩
    have z := jok_range (S := S) (ow := ow) (io := io1) (H := H1) (lo := 0) (n := j.toNat)
    rw [Int.sub_zero]
    exact z
theorem si_rng2 {p : Pos} (hg : Gl X "range") (hm : X.mg "range" = none) (ha : SE X S W a fa) (hb : SE X S W b fb) (hn : nst a = true) (hn2 : nst b = true) : PI X tg (.Call (.Name "range" p) [a, b] [] pos) (tI S W (rng2F fa fb)) := by
  refine PI.imp (pi_range2 hg hm (pa_cons ha (pa_cons hb pa_nil (starEach_ns hn2)) (starEach_ns hn)) (by rw [starEach_ns hn, starEach_ns hn2]; rfl) (starEach_ns hn2)) fun σ H Q ⟨ow, io, fr, m, rp, p⟩ => ?_
  refine ⟨ow, io, fr, m, rp, p.seq fun x m1 io1 H1 v x1 r1 v1 p1 => ?_⟩
  refine ⟨ow, io1, fr, m1, rp.ex x1 r1, p1.seq fun y m2 io2 H2 u x2 r2 u2 p2 => ?_⟩
  cases e : rngD x y with
  | none => rw [e] at p2; exact p2.elim
  | some xs =>
    rw [e] at p2
    obtain ⟨i, j, rfl, rfl, h4, rfl⟩ := rngD_ok e
    cases v1.of_int
    cases u2.of_int
    exact ⟨i, j, rfl, h4, p2 io2 H2 _ (.refl _ _) r2 jok_range⟩
def zipF (fa fb : Fe) : Fes := fun fr m => (fa fr m).bind fun x m1 => (fb fr m1).bind fun y m2 => match zipD x y with | some xs => .ok xs m2 | none => .bad
theorem IS.ey {ow ow' : Addr → Prop} {io io' : List Addr} {H H' : Hp} {xs : List D} {x : D} {v : V} (hv : RV S ow io H x v) (e : zitD x = some xs) : ∃ (z : Zp.VS) (vs : List V), v = z.val ∧ RVs S ow io H xs vs ∧ ∀ ow' io' H', Ey ow io H ow' io' H' → Zp.IS S.K H' z vs := by
  cases x with
  | str z =>
    have e : (if z.cps.all (· < 128) = true then some (z.cps.toList.map fun c => D.str ⟨#[c]⟩) else none) = some xs := e
    split at e
    · rename_i ha
      cases e
      cases hv.of_str
      refine ⟨.s z, z.cps.toList.map fun c => V.str ⟨#[c]⟩, rfl, ?_, fun _ _ _ _ => ⟨ha, rfl⟩⟩
      generalize z.cps.toList = l
      induction l with
      | nil => exact .nil
      | cons c l ih => exact .cons .mk_str ih
    · cases e
  | tup ys =>
    cases e
    unfold RV at hv
    obtain ⟨a, vs, rfl, r, q⟩ := hv
    exact ⟨.t a, vs, rfl, q, fun _ _ _ x => SqT.ey x r⟩
  | lst ys =>
    cases e
    unfold RV at hv
    obtain ⟨a, vs, rfl, r, q⟩ := hv
    exact ⟨.l a, vs, rfl, q, fun _ _ _ x => SqL.ey x (.inl ⟨.inl r.1, r.2⟩)⟩
  | fz ys =>
    cases e
    unfold RV at hv
    obtain ⟨a, vs, rfl, r, q⟩ := hv
    exact ⟨.l a, vs, rfl, q, fun _ _ _ x => SqL.ey x r⟩
  | _ => cases e
theorem si_zip {p tpos : Pos} {elts : List Expr} {kk : Nat} (ov : Ov S X) (hg : Gl X "zip") (hm : X.mg "zip" = none) (ha : SE X S W a fa) (hb : SE X S W b fb) (hn : nst a = true) (hn2 : nst b = true) :
    PI X (.Tuple elts kk tpos) (.Call (.Name "zip" p) [a, b] [] pos) (tI S W (zipF fa fb)) := by
  refine PI.imp (Zp.pi_zipG hg hm (pa_cons ha (pa_cons hb pa_nil (starEach_ns hn2)) (starEach_ns hn)) (starEach_ns hn) (by rw [starEach_ns hn2]; rfl)) fun σ H Q ⟨ow, io, fr, m, rp, p⟩ => ?_
  refine ⟨ow, io, fr, m, rp, p.seq fun x m1 io1 H1 v x1 r1 v1 p1 => ?_⟩
  refine ⟨ow, io1, fr, m1, rp.ex x1 r1, p1.seq fun y m2 io2 H2 u x2 r2 u2 p2 => ?_⟩
  rw [ov.K]
  have v1 := v1.ex x2
  unfold zipD at p2
  cases ex : zitD x with
  | none => rw [ex] at p2; exact p2.elim
  | some xs =>
  cases ey : zitD y with
  | none => rw [ex, ey] at p2; exact p2.elim
  | some ys =>
    rw [ex, ey] at p2
    have fin : ∀ {J}, JOk S ow io2 H2 J ((xs.zip ys).map pairD) → Q J H2 := fun j => p2 io2 H2 _ (.refl _ _) r2 j
    obtain ⟨z1, vs, rfl, q1, h1⟩ := IS.ey (ow' := ow) (io' := io2) (H' := H2) v1 ex
    obtain ⟨z2, us, rfl, q2, h2⟩ := IS.ey (ow' := ow) (io' := io2) (H' := H2) u2 ey
    refine ⟨z1, z2, vs, us, rfl, h1 _ _ _ (.refl _ _ _), h2 _ _ _ (.refl _ _ _), fin ⟨fun i ow' io' H' hi x => ?_, fun ow' io' H' x => ?_, fun i ow' io' H' w H3 hi x y => ?_⟩⟩
    · rw [List.length_map, List.length_zip, q1.length, q2.length] at hi
      exact ⟨vs, us, vs[i]'(by omega), us[i]'(by omega), h1 _ _ _ x, h2 _ _ _ x, by simp, by simp⟩
    · refine ⟨vs, us, h1 _ _ _ x, h2 _ _ _ x, ?_⟩
      rw [List.length_map, List.length_zip, q1.length, q2.length]
      omega
    · obtain ⟨T, a, b, rfl, hT, rfl, h5, h6⟩ := y
      have e1 := h5 vs (h1 _ _ _ x)
      have e2 := h6 us (h2 _ _ _ x)
      rw [List.length_map, List.length_zip] at hi
      obtain ⟨w1, f1, g1⟩ := (q1.ey x).get (List.getElem?_eq_getElem (show i < xs.length by omega))
      obtain ⟨w2, f2, g2⟩ := (q2.ey x).get (List.getElem?_eq_getElem (show i < ys.length by omega))
      rw [e1] at f1
      rw [e2] at f2
      cases f1
      cases f2
      exact ⟨pairD (xs[i]'(by omega), ys[i]'(by omega)), by
        rw [List.getElem?_map, List.getElem?_eq_getElem (show i < (xs.zip ys).length by rw [List.length_zip]; omega), List.getElem_zip]
        rfl, .inr ⟨T, _, _, hT, rfl, rfl, rfl, .cons g1 (.cons g2 .nil)⟩⟩
def enmF (fa : Fe) : Fes := fun fr m => (fa fr m).bind fun x m1 => match enmD x with | some xs => .ok xs m1 | none => .bad
theorem si_enum {p tpos : Pos} {elts : List Expr} {kk : Nat} (ov : Ov S X) (hg : Gl X "enumerate") (hm : X.mg "enumerate" = none) (ha : SE X S W a fa) (hn : nst a = true) :
    PI X (.Tuple elts kk tpos) (.Call (.Name "enumerate" p) [a] [] pos) (tI S W (enmF fa)) := by
  refine PI.imp (Zp.pi_enumG hg hm (pa_cons ha pa_nil (starEach_ns hn)) (starEach_ns hn)) fun σ H Q ⟨ow, io, fr, m, rp, p⟩ => ?_
  refine ⟨ow, io, fr, m, rp, p.seq fun x m2 io2 H2 v x2 r2 v1 p2 => ?_⟩
  rw [ov.K]
  unfold enmD at p2
  cases ex : zitD x with
  | none => rw [ex] at p2; exact p2.elim
  | some xs =>
    rw [ex] at p2
    have fin : ∀ {J}, JOk S ow io2 H2 J (((List.range xs.length).zip xs).map fun p => .tup [.int (p.1 : Nat), p.2]) → Q J H2 := fun j => p2 io2 H2 _ (.refl _ _) r2 j
    obtain ⟨z1, vs, rfl, q1, h1⟩ := IS.ey (ow' := ow) (io' := io2) (H' := H2) v1 ex
    refine ⟨z1, vs, rfl, h1 _ _ _ (.refl _ _ _), fin ⟨fun i ow' io' H' hi x => ?_, fun ow' io' H' x => ?_, fun i ow' io' H' w H3 hi x y => ?_⟩⟩
    · rw [List.length_map, List.length_zip, List.length_range, q1.length] at hi
      exact ⟨vs, vs[i]'(by omega), h1 _ _ _ x, by simp⟩
    · refine ⟨vs, h1 _ _ _ x, ?_⟩
      rw [List.length_map, List.length_zip, List.length_range, q1.length]
      omega
    · obtain ⟨T, a, rfl, hT, rfl, h5⟩ := y
      have e1 := h5 vs (h1 _ _ _ x)
      rw [List.length_map, List.length_zip, List.length_range] at hi
      obtain ⟨w1, f1, g1⟩ := (q1.ey x).get (List.getElem?_eq_getElem (show i < xs.length by omega))
      rw [e1] at f1
      cases f1
      exact ⟨.tup [.int (i : Nat), xs[i]'(by omega)], by
        rw [List.getElem?_map, List.getElem?_eq_getElem (show i < ((List.range xs.length).zip xs).length by rw [List.length_zip, List.length_range]; omega), List.getElem_zip]
        simp, .inr ⟨T, _, _, hT, rfl, rfl, rfl, .cons .mk_int (.cons g1 .nil)⟩⟩
end
/-! ### comprehensions -/
theorem Ey.wider {o o2 : Addr → Prop} {io io' : List Addr} {H H' : Hp} (x : Ey o io H o io' H') (h : ∀ a, o a → o2 a) : Ey o2 io H o2 io' H' :=
  ⟨x.pre, x.new, fun _ p n => absurd p n, fun a u p s n w => x.keep a u p s n fun z => w (h a z), x.dom⟩
theorem Ey.outD {io io' : List Addr} {H H' : Hp} {D : Addr} {o : HO} (hD : H D = none) (x : Ey (fun a => a = D) io (upd H D o) (fun a => a = D) io' H') : Ex io H io' H' where
  pre := x.pre
  new := fun a h n => (x.new a h n).upd fun e => .of (e ▸ hD)
  keep := fun a u h s n => by
    have e : a ≠ D := ne_of_none h hD
    exact x.keep a u (by rw [upd_ne e]; exact h) s n e
  dom := fun a h => (x.dom a h).upd fun e => .of (e ▸ hD)
abbrev W0 : WX := fun _ _ _ _ => False
section
variable {X : Cx} {S : Sta} {W : WX} {pos : Pos}
theorem RSl.ey2 {ow ow' : Addr → Prop} {io io' : List Addr} {H H' : Hp} {s : Sl} {v : V} (x : Ey ow io H ow' io' H') (kp : ∀ a, ow a → ow' a ∧ H' a = H a ∧ a ∉ io') (h : RSl S ow io H s v) : RSl S ow' io' H' s v := by
  cases s with
  | val d => exact RV.ey x h
  | olst xs =>
    obtain ⟨a, vs, rfl, g1, g2, g3, g4⟩ := h
    obtain ⟨k1, k2, k3⟩ := kp a g3
    exact ⟨a, vs, rfl, k2.trans g1, g2.ey x, k1, k3⟩
  | oins C ns ds =>
    obtain ⟨a, dx, fs, rfl, g1, g2, g3, g4, g5⟩ := h
    obtain ⟨k1, k2, k3⟩ := kp a g4.1
    exact ⟨a, dx, fs, rfl, k2.trans g1, g2, g3.ey x, ⟨k1, g4.2⟩, k3⟩
theorem Rp.ey {ow ow' : Addr → Prop} {io io' : List Addr} {H H' : Hp} {fr : Fr} {m m' : MH} {σ : L2.St} (r : Rp S ow io H fr m σ) (x : Ey ow io H ow' io' H') (h : RH S ow' io' H' m') (o : ∀ a, ow' a → ¬ NT H' a) (kp : ∀ a, ow a → ow' a ∧ H' a = H a ∧ a ∉ io') : Rp S ow' io' H' fr m' σ :=
  ⟨h, ⟨r.f.1, fun i d e => let ⟨v, e1, q⟩ := r.f.2 i d e; ⟨v, e1, q.ey2 x kp⟩⟩, o⟩
theorem isOk_post {ow : Addr → Prop} {io : List Addr} {H : Hp} {σ : L2.St} {Q Q' : VK} {r : R D} {k : D → MH → Prop} (h : ∀ d m, r = .ok d m → ∀ io' H' v, Ex io H io' H' → RH S ow io' H' m → RV S ow io' H' d v → Q v H') (hr : ∃ d m, r = .ok d m) : Post S W0 ow io H σ Q r := by
  obtain ⟨d, m, rfl⟩ := hr
  exact fun io' H' v x h1 q => h d m rfl io' H' v x h1 q
def compF (vs : List Nat) (tg : Tg) (fi : Fes) (cs : List Fe) (fe : Fe) : Fe := fun fr m => (fi fr m).bind fun xs m1 => (compGo vs tg cs fe fr xs [] m1).bind fun ys m2 => .ok (.lst ys) m2
theorem Ey.ownew {ow : Addr → Prop} {io : List Addr} {H : Hp} {D : Addr} {o : HO} (hD : H D = none) : Ey ow io H (fun a => ow a ∨ a = D) io (upd H D o) where
  pre := List.prefix_refl _
  new := fun _ h n => absurd h n
  now := fun a h n => by
    rcases h with h | h
    · exact absurd h n
    · exact .of (h ▸ hD)
  keep := fun a u h _ _ _ => by rw [upd_ne (ne_of_none h hD)]; exact h
  dom := fun a h => h.upd fun e => .of (e ▸ hD)
theorem RO.ey {ow ow' : Addr → Prop} {io io' : List Addr} {H H' : Hp} {a : Addr} {o : MO} (x : Ey ow io H ow' io' H') (hk : H' a = H a) (h : RO S ow io H a o) : RO S ow' io' H' a o := by
  cases o with
  | lst xs => obtain ⟨vs, e, q⟩ := h; exact ⟨vs, hk.trans e, q.ey x⟩
  | dct ks xs => obtain ⟨kvs, e, q1, q⟩ := h; exact ⟨kvs, hk.trans e, q1, q.ey x⟩
  | ins C ns ds => obtain ⟨dx, fs, e, q1, q⟩ := h; exact ⟨dx, fs, hk.trans e, q1, q.ey x⟩
theorem RH.ownew {ow : Addr → Prop} {io : List Addr} {H : Hp} {m : MH} {D : Addr} {o : HO} (h : RH S ow io H m) (hD : H D = none) : RH S (fun a => ow a ∨ a = D) io (upd H D o) m where
  tab := tabs_fresh h.tab hD
  len := h.len
  nd := h.nd
  at_ := fun n u e => by
    obtain ⟨a, e1, e2, e3⟩ := h.at_ n u e
    have hm := (h.mem (List.mem_of_getElem? e1)).1
    have ne : a ≠ D := NT.ne hm hD
    exact ⟨a, e1, e2.ey (.ownew hD) (upd_ne ne), fun z => z.elim e3 ne⟩
theorem wipe_wipe (σ : L2.St) (vs : List Nat) : wipe (wipe σ vs) vs = wipe σ vs := by
  apply List.ext_getElem?
  intro j
  rw [wipe_get, wipe_length]
  by_cases hj : j ∈ vs ∧ j < σ.length
  · rw [if_pos hj, wipe_get, if_pos hj]
  · rw [if_neg hj]
theorem isOk_ok {α : Type} {r : R α} {β : Type} {k : α → MH → R β} {b : β} {m' : MH} (h : (isOk r).bind k = .ok b m') : ∃ a m, r = .ok a m ∧ k a m = .ok b m' := by
  cases r with
  | ok a m => exact ⟨a, m, rfl, h⟩
  | exc x m => cases h
  | bad => cases h
theorem bind_ok {α β : Type} {r : R α} {k : α → MH → R β} {b : β} {m' : MH} (h : r.bind k = .ok b m') : ∃ a m, r = .ok a m ∧ k a m = .ok b m' := by
  cases r with
  | ok a m => exact ⟨a, m, rfl, h⟩
  | exc x m => cases h
  | bad => cases h
/-- the comprehension makes no exception -/
theorem condGo_noexc : ∀ {cs : List Fe} {fr : Fr} {m : MH} {x : Exn} {m' : MH}, condGo cs fr m ≠ .exc x m'
  | [], _, _, _, _, h => by cases h
  | c :: cs, fr, m, x, m', h => by
    unfold condGo at h
    cases e : c fr m with
    | ok d m1 =>
      rw [e] at h
      simp only [isOk, R.ok_bind] at h
      split at h
      · exact condGo_noexc h
      · cases h
      · cases h
    | exc y m1 => rw [e] at h; cases h
    | bad => rw [e] at h; cases h
theorem compGo_noexc {vs : List Nat} {tg : Tg} {cs : List Fe} {el : Fe} {fr : Fr} : ∀ {ds acc : List D} {m : MH} {x : Exn} {m' : MH}, compGo vs tg cs el fr ds acc m ≠ .exc x m'
  | [], _, _, _, _, h => by unfold compGo at h; cases h
  | d :: ds, acc, m, x, m', h => by
    unfold compGo at h
    split at h
    · cases h
    · cases e : condGo cs ‹Fr› m with
      | ok b m1 =>
        rw [e] at h
        simp only [R.ok_bind] at h
        split at h
        · cases e2 : el ‹Fr› m1 with
          | ok y m2 =>
            rw [e2] at h
            simp only [isOk, R.ok_bind] at h
            split at h
            · exact compGo_noexc h
            · cases h
          | exc y m2 => rw [e2] at h; cases h
          | bad => rw [e2] at h; cases h
        · exact compGo_noexc h
      | exc y m1 => exact condGo_noexc e
      | bad => rw [e] at h; cases h
theorem comp_imp {own : List (Str × Nat)} {tg : Tg} {fi : Fes} {cs : List Fe} {fe : Fe} (hsl : ∀ i ∈ slots tg, i ∈ own.map (·.2)) {σ : L2.St} {H : Hp} {Q : VK} (h : tR S W (compF (own.map (·.2)) tg fi cs fe) σ H Q) :
    tLc (tI S W fi) (gR S tg) (tT S W0 (condGo cs)) (tR S W0 fe) (own.map (·.2)) σ H Q := by
  obtain ⟨ow, io, fr, m, rp, p⟩ := h
  unfold compF at p
  refine ⟨ow, io, fr, m, rp, ?_⟩
  cases q0 : fi fr m with
  | exc x m1 => rw [q0] at p; exact p
  | bad => rw [q0] at p; exact p
  | ok xs m1 =>
  rw [q0] at p
  have p : Post S W ow io H σ Q ((compGo (own.map (·.2)) tg cs fe fr xs [] m1).bind fun ys m2 => .ok (.lst ys) m2) := p
  intro io1 H1 J x1 r1 jok D hD
  have p := p.move x1
  have rp1 := rp.ex x1 r1
  cases q1 : compGo (own.map (·.2)) tg cs fe fr xs [] m1 with
  | exc x m2 => exact absurd q1 compGo_noexc
  | bad => rw [q1] at p; exact p.elim
  | ok ys m2 =>
  rw [q1] at p
  have p : Post S W ow io1 H1 σ Q (.ok (.lst ys) m2) := p
  have Pv : ∃ Pv : Nat → Hp → Prop, Pv = fun i H' => ∃ io' m' acc vs, Ey (fun a => a = D) io1 (upd H1 D (.lst [])) (fun a => a = D) io' H' ∧ RH S (fun a => ow a ∨ a = D) io' H' m' ∧ (∀ a, ow a ∨ a = D → ¬ NT H' a) ∧
      H' D = some (.lst vs) ∧ RVs S (fun a => ow a ∨ a = D) io' H' acc vs ∧ compGo (own.map (·.2)) tg cs fe fr (xs.drop i) acc m' = .ok ys m2 := ⟨_, rfl⟩
  obtain ⟨Pv, hPv⟩ := Pv
  have back : ∀ {io' H'}, Ey (fun a => a = D) io1 (upd H1 D (.lst [])) (fun a => a = D) io' H' → Ey ow io1 H1 (fun a => ow a ∨ a = D) io' H' := fun x => (Ey.ownew hD).trans (x.wider fun a h => .inr h)
  have kpo : ∀ {io' H' m'}, Ey (fun a => a = D) io1 (upd H1 D (.lst [])) (fun a => a = D) io' H' → RH S (fun a => ow a ∨ a = D) io' H' m' → ∀ a, ow a → (ow a ∨ a = D) ∧ H' a = H1 a ∧ a ∉ io' := fun {io' H' m'} x rh a h => by
    have h1 : ¬ NT H1 a := rp1.o a h
    have ne : a ≠ D := NT.ne h1 hD
    refine ⟨.inl h, ?_, fun z => (rh.mem z).2 (.inl h)⟩
    obtain ⟨u, e, so⟩ := NT.ex h1
    rw [e]
    exact x.keep a u (by rw [upd_ne ne]; exact e) so (fun z => (r1.mem z).2 h) ne
  refine ⟨fun i k H' => k = xs.length - i ∧ i ≤ xs.length ∧ Pv i H', ⟨xs.length, by simp, Nat.zero_le _, ?_⟩, ?_⟩
  · rw [hPv]
    refine ⟨io1, m1, [], [], .refl _ _ _, r1.ownew hD, fun a h => ?_, upd_same, .nil, q1⟩
    rcases h with h | h
    · exact fun z => rp1.o a h ((Ey.ownew (ow := ow) (io := io1) hD).dom a z)
    · rw [h]; exact fun z => z _ upd_same True.intro
  · rintro i k H' ⟨rfl, hi', pv⟩
    rw [hPv] at pv
    obtain ⟨io', m', acc, vs, xy, rh, od, hDv, rvs, go⟩ := pv
    have bk := back xy
    have nDio : D ∉ io' := fun z => (rh.mem z).2 (.inr rfl)
    by_cases hlt : i < xs.length
    · refine .inr ⟨jok.go i _ io' H' hlt bk, fun H'' => Pv (i + 1) H'', fun H'' pv' => ⟨xs.length - (i + 1), by omega, rfl, hlt, pv'⟩, fun x H2 y => ?_⟩
      obtain ⟨d, hd, alt⟩ := jok.yld i _ io' H' x H2 hlt bk y
      have hdrop : xs.drop i = d :: xs.drop (i + 1) := by
        rw [List.drop_eq_getElem_cons hlt]
        rw [List.getElem?_eq_getElem hlt] at hd
        rw [Option.some.inj hd]
      rw [hdrop] at go
      unfold compGo at go
      -- the item
      have item : ∃ xy2 : Ey (fun a => a = D) io1 (upd H1 D (.lst [])) (fun a => a = D) io' H2, RH S (fun a => ow a ∨ a = D) io' H2 m' ∧ (∀ a, ow a ∨ a = D → ¬ NT H2 a) ∧ H2 D = some (.lst vs) ∧ RVs S (fun a => ow a ∨ a = D) io' H2 acc vs ∧ RV S (fun a => ow a ∨ a = D) io' H2 d x := by
        rcases alt with ⟨rfl, q⟩ | ⟨T, us, ds, hT, rfl, rfl, rfl, q⟩
        · exact ⟨xy, rh, od, hDv, rvs, q⟩
        · have nT : T ∉ io' ∧ ¬ (ow T ∨ T = D) := ⟨fun z => (rh.mem z).1 (.of hT), fun z => od T z (.of hT)⟩
          have xf : Ex io' H' io' (upd H' T (.tup us)) := .fresh hT
          refine ⟨xy.trans xf.ey, rh.fresh hT, fun a h z => od a h (xf.dom a z), ?_, rvs.ex xf, .mk_tup hT nT q⟩
          rw [upd_ne (ne_of_none hDv hT)]
          exact hDv
      obtain ⟨xy2, rh2, od2, hD2, rvs2, rv2⟩ := item
      have bk2 := back xy2
      have rf2 : RF S (fun a => ow a ∨ a = D) io' H2 (wipeF fr (own.map (·.2))) (wipe σ (own.map (·.2))) := RF.wipe (rp1.ey bk2 rh2 od2 (kpo xy2 rh2)).f
      split at go
      · cases go
      · rename_i fr2 e2
        refine ⟨fun a => ow a ∨ a = D, io', d, _, fr2, rv2, rf2, e2, fun σ2 hr2 off => ⟨?_, ?_⟩⟩
        · rw [(off.mono hsl).wipe, wipe_wipe]
        · obtain ⟨b, m3, c1, c2⟩ := bind_ok go
          refine ⟨fun a => ow a ∨ a = D, io', fr2, m', ⟨rh2, hr2, od2⟩, ?_⟩
          rw [c1]
          intro io3 H3 x3 r3
          have hD3 : H3 D = some (.lst vs) := x3.keep D _ hD2 True.intro nDio
          have od3 : ∀ a, ow a ∨ a = D → ¬ NT H3 a := fun a h z => od2 a h (x3.dom a z)
          cases b with
          | false =>
            rw [if_neg (by decide)]
            rw [if_neg (by decide)] at c2
            rw [hPv]
            exact ⟨io3, m3, acc, vs, xy2.trans x3.ey, r3, od3, hD3, rvs2.ex x3, c2⟩
          | true =>
            rw [if_pos rfl]
            rw [if_pos rfl] at c2
            obtain ⟨y, m4, c3, c4⟩ := isOk_ok c2
            refine ⟨fun a => ow a ∨ a = D, io3, fr2, m3, ⟨r3, ⟨hr2.1, fun i e h => let ⟨v, a1, a2⟩ := hr2.2 i e h; ⟨v, a1, a2.ex x3 od2⟩⟩, od3⟩, ?_⟩
            rw [c3]
            intro io4 H4 w x4 r4 w4
            have nD3 : D ∉ io3 := fun z => (r3.mem z).2 (.inr rfl)
            have hD4 : H4 D = some (.lst vs) := x4.keep D _ hD3 True.intro nD3
            split at c4
            · rename_i hl
              have rvs4 : RVs S (fun a => ow a ∨ a = D) io4 H4 acc vs := (rvs2.ex x3).ex x4
              refine ⟨vs, hD4, by rw [← rvs4.length]; exact hl, ?_⟩
              rw [hPv]
              have own4 : Ey (fun a => a = D) io4 H4 (fun a => a = D) io4 (upd H4 D (.lst (vs ++ [w]))) := .own rfl True.intro
              refine ⟨io4, m4, acc ++ [y], vs ++ [w], ((xy2.trans x3.ey).trans x4.ey).trans own4, r4.own (.inr rfl) True.intro hD4 True.intro, fun a h z => od3 a h (x4.dom a (own4.dom a z)), upd_same, RVs.own (o := .lst (vs ++ [w])) (.inr rfl) True.intro (rvs4.append (.cons w4 .nil)), c4⟩
            · cases c4
    · have e : i = xs.length := by omega
      subst e
      refine .inl ⟨jok.stop _ io' H' bk, ?_⟩
      rw [List.drop_length] at go
      unfold compGo at go
      cases go
      refine p io' H' (.ref D) (xy.outD hD) (rh.less fun a h => .inl h) ?_
      unfold RV
      refine ⟨D, vs, rfl, ⟨hDv, nDio, fun z => rp1.o D z (.of hD)⟩, ?_⟩
      exact rvs.less fun a h => .inl h
theorem se_comp {elt tgE iterE : Expr} {ifs : List Expr} {scope : Scope} {own : List (Str × Nat)} {tg : Tg} {fi : Fes} {cs : List Fe} {fe : Fe} (hc : X.calm = true) (hN : X.N.Nodup) (hi : PI X tgE iterE (tI S W fi)) (ok : BlkOk X.N X.env.scope scope own)
    (hg : ∀ (s : Shared) (H : Hp) (C : Addr) (cl : List (Str × Addr)) (fp : List Addr), PG (X.blk s H scope (compEnvC scope cl C X.env) fp) tgE (gR S tg))
    (ht : ∀ (s : Shared) (H : Hp) (C : Addr) (cl : List (Str × Addr)) (fp : List Addr), PTs (X.blk s H scope (compEnvC scope cl C X.env) fp) ifs (tT S W0 (condGo cs)))
    (he : ∀ (s : Shared) (H : Hp) (C : Addr) (cl : List (Str × Addr)) (fp : List Addr), PE (X.blk s H scope (compEnvC scope cl C X.env) fp) elt (tR S W0 fe))
    (hs : ∀ x, foldedSetIterable iterE X.env x = pure x) (hsl : ∀ i ∈ slots tg, i ∈ own.map (·.2)) :
    SE X S W (.ListComp elt [⟨tgE, iterE, ifs, 0⟩] scope pos) (compF (own.map (·.2)) tg fi cs fe) := by
  exact PE.imp (pe_lc hc hN hi ok hg ht he hs) fun σ H Q h => comp_imp hsl h
end
end Mp
end
section
set_option Elab.async false
set_option linter.all false
set_option maxRecDepth 100000
set_option maxHeartbeats 1000000
/-! MpDc: dict comprehensions. -/
namespace Mp
open PySem PySem.Spec PyProof.Rows L2
section
variable {S : Sta} {ow ow' : Addr → Prop} {io io' : List Addr} {H H' : Hp}
def KR (S : Sta) (ow : Addr → Prop) (io : List Addr) (H : Hp) (acc : List (Key × D)) (kvs : List (Key × V)) : Prop := kvs.map (·.1) = acc.map (·.1) ∧ RVs S ow io H (acc.map (·.2)) (kvs.map (·.2))
theorem KR.nil : KR S ow io H [] [] := ⟨rfl, .nil⟩
theorem KR.ey {acc : List (Key × D)} {kvs : List (Key × V)} (x : Ey ow io H ow' io' H') (h : KR S ow io H acc kvs) : KR S ow' io' H' acc kvs := ⟨h.1, RVs.ey x h.2⟩
theorem KR.ex {acc : List (Key × D)} {kvs : List (Key × V)} (x : Ex io H io' H') (h : KR S ow io H acc kvs) : KR S ow io' H' acc kvs := ⟨h.1, h.2.ex x⟩
theorem KR.length {acc : List (Key × D)} {kvs : List (Key × V)} (h : KR S ow io H acc kvs) : acc.length = kvs.length := by
  have := congrArg List.length h.1
  rw [List.length_map, List.length_map] at this
  exact this.symm
theorem any_keys {A : Type} (k : Key) : ∀ l : List (Key × A), (l.any fun kv => decide (kv.1 = k)) = (l.map (·.1)).any fun x => decide (x = k)
  | [] => rfl
  | p :: r => by rw [List.any_cons, List.map_cons, List.any_cons, any_keys k r]
theorem KR.map {k : Key} {d : D} {v : V} (hv : RV S ow io H d v) : ∀ {acc : List (Key × D)} {kvs : List (Key × V)}, KR S ow io H acc kvs → KR S ow io H (acc.map fun kv => if kv.1 = k then (kv.1, d) else kv) (kvs.map fun kv => if kv.1 = k then (kv.1, v) else kv)
  | [], [], _ => .nil
  | [], _ :: _, h => by have := h.length; simp at this
  | _ :: _, [], h => by have := h.length; simp at this
  | (a, x) :: acc, (b, y) :: kvs, h => by
    obtain ⟨h1, h2⟩ := h
    rw [List.map_cons, List.map_cons, List.cons.injEq] at h1
    have h2 : RVs S ow io H (x :: acc.map (·.2)) (y :: kvs.map (·.2)) := h2
    unfold RVs at h2
    obtain ⟨y', r, e, q1, q2⟩ := h2
    cases e
    obtain ⟨i1, i2⟩ := KR.map hv (acc := acc) (kvs := kvs) ⟨h1.2, q2⟩
    have h11 : b = a := h1.1
    subst h11
    by_cases e : b = k
    · refine ⟨?_, ?_⟩
      · simp only [List.map_cons, e, if_true]
        rw [i1]
      · simp only [List.map_cons, e, if_true]
        exact .cons hv i2
    · refine ⟨?_, ?_⟩
      · simp only [List.map_cons, e, if_false]
        rw [i1]
      · simp only [List.map_cons, e, if_false]
        exact .cons q1 i2
theorem KR.put {acc : List (Key × D)} {kvs : List (Key × V)} (h : KR S ow io H acc kvs) (k : Key) {d : D} {v : V} (hv : RV S ow io H d v) : KR S ow io H (putG acc k d) (putK kvs k v) := by
  have e : (kvs.any fun kv => decide (kv.1 = k)) = acc.any fun kv => decide (kv.1 = k) := by rw [any_keys, any_keys, h.1]
  unfold putG putK
  rw [e]
  by_cases c : (acc.any fun kv => decide (kv.1 = k)) = true
  · rw [if_pos c, if_pos c]
    exact KR.map hv h
  · rw [if_neg c, if_neg c]
    refine ⟨by rw [List.map_append, List.map_append, h.1]; rfl, ?_⟩
    rw [List.map_append, List.map_append]
    exact h.2.append (.cons hv .nil)
theorem keyD_rv {y : D} {v : V} {k : Key} (e : keyD y = some k) (h : RV S ow io H y v) : v = kV k := by
  cases y with
  | int i => cases e; cases h.of_int; rfl
  | str x => cases e; cases h.of_str; rfl
  | _ => cases e
end
section
variable {X : Cx} {S : Sta} {W : WX} {pos : Pos}
def dcF (vs : List Nat) (tg : Tg) (fi : Fes) (fk fe : Fe) : Fe := fun fr m => (fi fr m).bind fun xs m1 => (dcGo vs tg fk fe fr xs [] m1).bind fun acc m2 => .ok (.dct (acc.map (·.1)) (acc.map (·.2))) m2
theorem dcGo_noexc {vs : List Nat} {tg : Tg} {fk fe : Fe} {fr : Fr} : ∀ {ds : List D} {acc : List (Key × D)} {m : MH} {x : Exn} {m' : MH}, dcGo vs tg fk fe fr ds acc m ≠ .exc x m'
  | [], _, _, _, _, h => by unfold dcGo at h; cases h
  | d :: ds, acc, m, x, m', h => by
    unfold dcGo at h
    split at h
    · cases h
    · cases e : fk ‹Fr› m with
      | ok y m1 =>
        rw [e] at h
        simp only [isOk, R.ok_bind] at h
        cases e2 : fe ‹Fr› m1 with
        | ok z m2 =>
          rw [e2] at h
          simp only [isOk, R.ok_bind] at h
          split at h
          · split at h
            · exact dcGo_noexc h
            · cases h
          · cases h
        | exc z m2 => rw [e2] at h; cases h
        | bad => rw [e2] at h; cases h
      | exc y m1 => rw [e] at h; cases h
      | bad => rw [e] at h; cases h
theorem dc_imp {own : List (Str × Nat)} {tg : Tg} {fi : Fes} {fk fe : Fe} (hsl : ∀ i ∈ slots tg, i ∈ own.map (·.2)) {σ : L2.St} {H : Hp} {Q : VK} (h : tR S W (dcF (own.map (·.2)) tg fi fk fe) σ H Q) :
    tDc (tI S W fi) (gR S tg) (fun σ H Q => Q true H) (tR S W0 fk) (tR S W0 fe) (own.map (·.2)) σ H Q := by
  obtain ⟨ow, io, fr, m, rp, p⟩ := h
  unfold dcF at p
  refine ⟨ow, io, fr, m, rp, ?_⟩
  cases q0 : fi fr m with
  | exc x m1 => rw [q0] at p; exact p
  | bad => rw [q0] at p; exact p
  | ok xs m1 =>
  rw [q0] at p
  have p : Post S W ow io H σ Q ((dcGo (own.map (·.2)) tg fk fe fr xs [] m1).bind fun acc m2 => .ok (.dct (acc.map (·.1)) (acc.map (·.2))) m2) := p
  intro io1 H1 J x1 r1 jok D hD
  have p := p.move x1
  have rp1 := rp.ex x1 r1
  cases q1 : dcGo (own.map (·.2)) tg fk fe fr xs [] m1 with
  | exc x m2 => exact absurd q1 dcGo_noexc
  | bad => rw [q1] at p; exact p.elim
  | ok ys m2 =>
  rw [q1] at p
  have p : Post S W ow io1 H1 σ Q (.ok (.dct (ys.map (·.1)) (ys.map (·.2))) m2) := p
  have Pv : ∃ Pv : Nat → Hp → Prop, Pv = fun i H' => ∃ io' m' acc vs, Ey (fun a => a = D) io1 (upd H1 D (.dK [])) (fun a => a = D) io' H' ∧ RH S (fun a => ow a ∨ a = D) io' H' m' ∧ (∀ a, ow a ∨ a = D → ¬ NT H' a) ∧
      H' D = some (.dK vs) ∧ KR S (fun a => ow a ∨ a = D) io' H' acc vs ∧ dcGo (own.map (·.2)) tg fk fe fr (xs.drop i) acc m' = .ok ys m2 := ⟨_, rfl⟩
  obtain ⟨Pv, hPv⟩ := Pv
  have back : ∀ {io' H'}, Ey (fun a => a = D) io1 (upd H1 D (.dK [])) (fun a => a = D) io' H' → Ey ow io1 H1 (fun a => ow a ∨ a = D) io' H' := fun x => (Ey.ownew hD).trans (x.wider fun a h => .inr h)
  have kpo : ∀ {io' H' m'}, Ey (fun a => a = D) io1 (upd H1 D (.dK [])) (fun a => a = D) io' H' → RH S (fun a => ow a ∨ a = D) io' H' m' → ∀ a, ow a → (ow a ∨ a = D) ∧ H' a = H1 a ∧ a ∉ io' := fun {io' H' m'} x rh a h => by
    have h1 : ¬ NT H1 a := rp1.o a h
    have ne : a ≠ D := NT.ne h1 hD
    refine ⟨.inl h, ?_, fun z => (rh.mem z).2 (.inl h)⟩
    obtain ⟨u, e, so⟩ := NT.ex h1
    rw [e]
    exact x.keep a u (by rw [upd_ne ne]; exact e) so (fun z => (r1.mem z).2 h) ne
  refine ⟨fun i k H' => k = xs.length - i ∧ i ≤ xs.length ∧ Pv i H', ⟨xs.length, by simp, Nat.zero_le _, ?_⟩, ?_⟩
  · rw [hPv]
    refine ⟨io1, m1, [], [], .refl _ _ _, r1.ownew hD, fun a h => ?_, upd_same, .nil, q1⟩
    rcases h with h | h
    · exact fun z => rp1.o a h ((Ey.ownew (ow := ow) (io := io1) hD).dom a z)
    · rw [h]; exact fun z => z _ upd_same True.intro
  · rintro i k H' ⟨rfl, hi', pv⟩
    rw [hPv] at pv
    obtain ⟨io', m', acc, vs, xy, rh, od, hDv, rvs, go⟩ := pv
    have bk := back xy
    have nDio : D ∉ io' := fun z => (rh.mem z).2 (.inr rfl)
    by_cases hlt : i < xs.length
    · refine .inr ⟨jok.go i _ io' H' hlt bk, fun H'' => Pv (i + 1) H'', fun H'' pv' => ⟨xs.length - (i + 1), by omega, rfl, hlt, pv'⟩, fun x H2 y => ?_⟩
      obtain ⟨d, hd, alt⟩ := jok.yld i _ io' H' x H2 hlt bk y
      have hdrop : xs.drop i = d :: xs.drop (i + 1) := by
        rw [List.drop_eq_getElem_cons hlt]
        rw [List.getElem?_eq_getElem hlt] at hd
        rw [Option.some.inj hd]
      rw [hdrop] at go
      unfold dcGo at go
      -- the item
      have item : ∃ xy2 : Ey (fun a => a = D) io1 (upd H1 D (.dK [])) (fun a => a = D) io' H2, RH S (fun a => ow a ∨ a = D) io' H2 m' ∧ (∀ a, ow a ∨ a = D → ¬ NT H2 a) ∧ H2 D = some (.dK vs) ∧ KR S (fun a => ow a ∨ a = D) io' H2 acc vs ∧ RV S (fun a => ow a ∨ a = D) io' H2 d x := by
        rcases alt with ⟨rfl, q⟩ | ⟨T, us, ds, hT, rfl, rfl, rfl, q⟩
        · exact ⟨xy, rh, od, hDv, rvs, q⟩
        · have nT : T ∉ io' ∧ ¬ (ow T ∨ T = D) := ⟨fun z => (rh.mem z).1 (.of hT), fun z => od T z (.of hT)⟩
          have xf : Ex io' H' io' (upd H' T (.tup us)) := .fresh hT
          refine ⟨xy.trans xf.ey, rh.fresh hT, fun a h z => od a h (xf.dom a z), ?_, rvs.ex xf, .mk_tup hT nT q⟩
          rw [upd_ne (ne_of_none hDv hT)]
          exact hDv
      obtain ⟨xy2, rh2, od2, hD2, rvs2, rv2⟩ := item
      have bk2 := back xy2
      have rf2 : RF S (fun a => ow a ∨ a = D) io' H2 (wipeF fr (own.map (·.2))) (wipe σ (own.map (·.2))) := RF.wipe (rp1.ey bk2 rh2 od2 (kpo xy2 rh2)).f
      split at go
      · cases go
      · rename_i fr2 e2
        refine ⟨fun a => ow a ∨ a = D, io', d, _, fr2, rv2, rf2, e2, fun σ2 hr2 off => ⟨?_, ?_⟩⟩
        · rw [(off.mono hsl).wipe, wipe_wipe]
        · obtain ⟨y, m3, c1, c2⟩ := isOk_ok go
          obtain ⟨z, m4, c3, c4⟩ := isOk_ok c2
          show tR S W0 fk _ H2 _
          refine ⟨fun a => ow a ∨ a = D, io', fr2, m', ⟨rh2, hr2, od2⟩, ?_⟩
          rw [c1]
          intro io3 H3 vy x3 r3 wy
          have hD3 : H3 D = some (.dK vs) := x3.keep D _ hD2 True.intro nDio
          have od3 : ∀ a, ow a ∨ a = D → ¬ NT H3 a := fun a h z => od2 a h (x3.dom a z)
          refine ⟨fun a => ow a ∨ a = D, io3, fr2, m3, ⟨r3, ⟨hr2.1, fun i e h => let ⟨v, a1, a2⟩ := hr2.2 i e h; ⟨v, a1, a2.ex x3 od2⟩⟩, od3⟩, ?_⟩
          rw [c3]
          intro io4 H4 w x4 r4 w4
          have nD3 : D ∉ io3 := fun z => (r3.mem z).2 (.inr rfl)
          have hD4 : H4 D = some (.dK vs) := x4.keep D _ hD3 True.intro nD3
          have wy4 := wy.ex x4
          split at c4
          · rename_i k ek
            split at c4
            · rename_i hl
              have rvs4 : KR S (fun a => ow a ∨ a = D) io4 H4 acc vs := (rvs2.ex x3).ex x4
              refine ⟨vs, k, keyD_rv ek wy4, hD4, by rw [← rvs4.length]; exact hl, ?_⟩
              rw [hPv]
              have own4 : Ey (fun a => a = D) io4 H4 (fun a => a = D) io4 (upd H4 D (.dK (putK vs k w))) := .own rfl True.intro
              refine ⟨io4, m4, putG acc k z, putK vs k w, ((xy2.trans x3.ey).trans x4.ey).trans own4, r4.own (.inr rfl) True.intro hD4 True.intro, fun a h z => od3 a h (x4.dom a (own4.dom a z)), upd_same, KR.ey (Ey.own (.inr rfl) True.intro) (rvs4.put k w4), c4⟩
            · cases c4
          · cases c4
    · have e : i = xs.length := by omega
      subst e
      refine .inl ⟨jok.stop _ io' H' bk, ?_⟩
      rw [List.drop_length] at go
      unfold dcGo at go
      cases go
      refine p io' H' (.ref D) (xy.outD hD) (rh.less fun a h => .inl h) ?_
      unfold RV
      exact ⟨D, vs, rfl, ⟨hDv, nDio, fun z => rp1.o D z (.of hD)⟩, rvs.1, rvs.2.less fun a h => .inl h⟩
theorem pts_nil0 : PTs X [] (fun σ H Q => Q true H) := pts_nil
theorem se_dc {kx vx tgE iterE : Expr} {scope : Scope} {own : List (Str × Nat)} {tg : Tg} {fi : Fes} {fk fe : Fe} (hc : X.calm = true) (hN : X.N.Nodup) (hi : PI X tgE iterE (tI S W fi)) (ok : BlkOk X.N X.env.scope scope own)
    (hg : ∀ (s : Shared) (H : Hp) (C : Addr) (cl : List (Str × Addr)) (fp : List Addr), PG (X.blk s H scope (compEnvC scope cl C X.env) fp) tgE (gR S tg))
    (hk : ∀ (s : Shared) (H : Hp) (C : Addr) (cl : List (Str × Addr)) (fp : List Addr), PE (X.blk s H scope (compEnvC scope cl C X.env) fp) kx (tR S W0 fk))
    (he : ∀ (s : Shared) (H : Hp) (C : Addr) (cl : List (Str × Addr)) (fp : List Addr), PE (X.blk s H scope (compEnvC scope cl C X.env) fp) vx (tR S W0 fe))
    (hs : ∀ x, foldedSetIterable iterE X.env x = pure x) (hsl : ∀ i ∈ slots tg, i ∈ own.map (·.2)) :
    SE X S W (.DictComp kx vx [⟨tgE, iterE, [], 0⟩] scope pos) (dcF (own.map (·.2)) tg fi fk fe) := by
  exact PE.imp (pe_dc hc hN hi ok hg (fun s H C cl fp => pts_nil0) hk he hs) fun σ H Q h => dc_imp hsl h
end
end Mp
end
section
set_option Elab.async false
set_option linter.all false
set_option maxRecDepth 100000
set_option maxHeartbeats 1000000
/-! MpStm: statements and what they mean. -/
namespace Mp
open PySem PySem.Spec PyProof.Rows L2

abbrev F := Fr
inductive SR where
  | nx (f : F) (m : MH) | rt (d : D) (m : MH) | ex (x : Exn) (f : F) (m : MH) | bk (f : F) (m : MH) | ct (f : F) (m : MH) | bad
/-- an answer, then the rest -/
def SR.of {α : Type} (r : R α) (f : F) (k : α → MH → SR) : SR := match r with
  | .ok a m => k a m
  | .exc x m => .ex x f m
  | .bad => .bad
@[simp] theorem SR.of_ok {α : Type} (a : α) (m : MH) (f : F) (k : α → MH → SR) : SR.of (.ok a m) f k = k a m := rfl
@[simp] theorem SR.of_exc {α : Type} (x : Exn) (m : MH) (f : F) (k : α → MH → SR) : SR.of (.exc x m : R α) f k = .ex x f m := rfl
@[simp] theorem SR.of_bad {α : Type} (f : F) (k : α → MH → SR) : SR.of (.bad : R α) f k = .bad := rfl
def SR.then_ (r : SR) (k : F → MH → SR) : SR := match r with
  | .nx f m => k f m
  | r => r
@[simp] theorem SR.then_nx (f : F) (m : MH) (k : F → MH → SR) : (SR.nx f m).then_ k = k f m := rfl
@[simp] theorem SR.then_rt (d : D) (m : MH) (k : F → MH → SR) : (SR.rt d m).then_ k = .rt d m := rfl
@[simp] theorem SR.then_ex (x : Exn) (f : F) (m : MH) (k : F → MH → SR) : (SR.ex x f m).then_ k = .ex x f m := rfl
@[simp] theorem SR.then_bk (f : F) (m : MH) (k : F → MH → SR) : (SR.bk f m).then_ k = .bk f m := rfl
@[simp] theorem SR.then_ct (f : F) (m : MH) (k : F → MH → SR) : (SR.ct f m).then_ k = .ct f m := rfl
@[simp] theorem SR.then_bad (k : F → MH → SR) : SR.bad.then_ k = .bad := rfl

inductive St where
  | asg (t : Tg) (e : E) | exp (e : E) | ret (e : E) | retN | retS (e : E)
  | ife (c : E) (a b : List St) | whl (c : E) (b : List St) | for_ (t : Tg) (it : E) (b : List St)
  | rais (C : Nat) (es : List E) | brk | cnt | pas
  | setX (a i e : E)
  | asgO (i : Nat) (e : E) | app (i : Nat) (e : E) | setO (i : Nat) (k e : E) | frz (i : Nat) | popA (t : Tg) (i : Nat) | extO (i : Nat) (e : E)
  | fldO (f : Nat) (e : E)
  | aug (i : Nat) (o : BO) (e : E) | augO (i : Nat) (k : E) (o : BO) (e : E)
/-- a while, n turns at most -/
def whl (c : Fr → MH → R Bool) (b : F → MH → SR) : Nat → F → MH → SR
  | 0, _, _ => .bad
  | n + 1, f, m => SR.of (c f m) f fun t m1 => match t with
    | true => match b f m1 with
      | .nx f2 m2 => whl c b n f2 m2
      | .ct f2 m2 => whl c b n f2 m2
      | .bk f2 m2 => .nx f2 m2
      | r => r
    | false => .nx f m1
theorem whl_up (c : Fr → MH → R Bool) (b : F → MH → SR) : ∀ {n : Nat} {f : F} {m : MH}, whl c b n f m ≠ .bad → whl c b (n + 1) f m = whl c b n f m
  | 0, _, _, h => absurd rfl h
  | n + 1, f, m, h => by
    unfold whl at h ⊢
    cases e : c f m with
    | ok t m1 =>
      rw [e] at h
      simp only [SR.of_ok] at h ⊢
      cases t with
      | true =>
        dsimp only at h ⊢
        cases e2 : b f m1 with
        | nx f2 m2 => rw [e2] at h; exact whl_up c b h
        | ct f2 m2 => rw [e2] at h; exact whl_up c b h
        | bk f2 m2 => rfl
        | rt d m2 => rfl
        | ex x f2 m2 => rfl
        | bad => rfl
      | false => rfl
    | exc x m1 => rfl
    | bad => rfl
theorem whl_add (c : Fr → MH → R Bool) (b : F → MH → SR) {n : Nat} {f : F} {m : MH} (h : whl c b n f m ≠ .bad) : ∀ k, whl c b (n + k) f m = whl c b n f m
  | 0 => rfl
  | k + 1 => by
    have ih := whl_add c b h k
    rw [← Nat.add_assoc, whl_up c b (by rw [ih]; exact h), ih]
theorem whl_eq (c : Fr → MH → R Bool) (b : F → MH → SR) {n k : Nat} {f : F} {m : MH} (h : whl c b n f m ≠ .bad) (h' : whl c b k f m ≠ .bad) : whl c b n f m = whl c b k f m := by
  rcases Nat.le_total n k with l | l
  · obtain ⟨j, rfl⟩ := Nat.exists_eq_add_of_le l
    exact (whl_add c b h j).symm
  · obtain ⟨j, rfl⟩ := Nat.exists_eq_add_of_le l
    exact whl_add c b h' j
open Classical in
noncomputable def whileS (c : Fr → MH → R Bool) (b : F → MH → SR) (f : F) (m : MH) : SR :=
  if h : ∃ n, whl c b n f m ≠ .bad then whl c b h.choose f m else .bad
theorem whileS_of {c : Fr → MH → R Bool} {b : F → MH → SR} {n : Nat} {f : F} {m : MH} (h : whl c b n f m ≠ .bad) : whileS c b f m = whl c b n f m := by
  unfold whileS
  have hx : ∃ n, whl c b n f m ≠ .bad := ⟨n, h⟩
  rw [dif_pos hx]
  exact whl_eq c b hx.choose_spec h
theorem whileS_ex {c : Fr → MH → R Bool} {b : F → MH → SR} {f : F} {m : MH} (h : whileS c b f m ≠ .bad) : ∃ n, whl c b n f m = whileS c b f m := by
  unfold whileS at h ⊢
  split at h
  · rename_i hx
    rw [dif_pos hx]
    exact ⟨_, rfl⟩
  · exact absurd rfl h
/-- one turn -/
theorem whileS_eq (c : Fr → MH → R Bool) (b : F → MH → SR) (f : F) (m : MH) : whileS c b f m = SR.of (c f m) f fun t m1 => match t with
    | true => match b f m1 with
      | .nx f2 m2 => whileS c b f2 m2
      | .ct f2 m2 => whileS c b f2 m2
      | .bk f2 m2 => .nx f2 m2
      | r => r
    | false => .nx f m1 := by
  cases e : c f m with
  | exc x m1 =>
    have h : whl c b 1 f m = .ex x f m1 := by unfold whl; rw [e]; rfl
    rw [whileS_of (n := 1) (by rw [h]; exact fun z => nomatch z), h]; rfl
  | bad =>
    apply Classical.byContradiction
    intro hh
    have : whileS c b f m ≠ .bad := hh
    obtain ⟨n, hn⟩ := whileS_ex this
    cases n with
    | zero => exact this hn.symm
    | succ n => unfold whl at hn; rw [e] at hn; exact this hn.symm
  | ok t m1 =>
    simp only [SR.of_ok]
    cases t with
    | false =>
      have h : whl c b 1 f m = .nx f m1 := by unfold whl; rw [e]; rfl
      rw [whileS_of (n := 1) (by rw [h]; exact fun z => nomatch z), h]
    | true =>
      dsimp only
      cases e2 : b f m1 with
      | rt d m2 =>
        have h : whl c b 1 f m = .rt d m2 := by unfold whl; rw [e]; simp only [SR.of_ok, e2]
        rw [whileS_of (n := 1) (by rw [h]; exact fun z => nomatch z), h]
      | ex x f2 m2 =>
        have h : whl c b 1 f m = .ex x f2 m2 := by unfold whl; rw [e]; simp only [SR.of_ok, e2]
        rw [whileS_of (n := 1) (by rw [h]; exact fun z => nomatch z), h]
      | bk f2 m2 =>
        have h : whl c b 1 f m = .nx f2 m2 := by unfold whl; rw [e]; simp only [SR.of_ok, e2]
        rw [whileS_of (n := 1) (by rw [h]; exact fun z => nomatch z), h]
      | bad =>
        apply Classical.byContradiction
        intro hh
        have : whileS c b f m ≠ .bad := hh
        obtain ⟨n, hn⟩ := whileS_ex this
        cases n with
        | zero => exact this hn.symm
        | succ n => unfold whl at hn; rw [e] at hn; simp only [SR.of_ok, e2] at hn; exact this hn.symm
      | nx f2 m2 =>
        dsimp only
        have st : ∀ n, whl c b (n + 1) f m = whl c b n f2 m2 := fun n => by
          rw [whl.eq_2, e]; simp only [SR.of_ok, e2]
        by_cases hb : whileS c b f2 m2 = .bad
        · rw [hb]
          apply Classical.byContradiction
          intro hh
          obtain ⟨n, hn⟩ := whileS_ex hh
          cases n with
          | zero => exact hh hn.symm
          | succ n =>
            rw [st] at hn
            have : whl c b n f2 m2 ≠ .bad := by rw [hn]; exact hh
            rw [whileS_of this] at hb
            exact this hb
        · obtain ⟨n, hn⟩ := whileS_ex hb
          rw [← hn, ← st n]
          exact whileS_of (by rw [st, hn]; exact hb)
      | ct f2 m2 =>
        dsimp only
        have st : ∀ n, whl c b (n + 1) f m = whl c b n f2 m2 := fun n => by
          rw [whl.eq_2, e]; simp only [SR.of_ok, e2]
        by_cases hb : whileS c b f2 m2 = .bad
        · rw [hb]
          apply Classical.byContradiction
          intro hh
          obtain ⟨n, hn⟩ := whileS_ex hh
          cases n with
          | zero => exact hh hn.symm
          | succ n =>
            rw [st] at hn
            have : whl c b n f2 m2 ≠ .bad := by rw [hn]; exact hh
            rw [whileS_of this] at hb
            exact this hb
        · obtain ⟨n, hn⟩ := whileS_ex hb
          rw [← hn, ← st n]
          exact whileS_of (by rw [st, hn]; exact hb)
/-- a for over the items -/
def forS (t : Tg) (b : F → MH → SR) : List D → F → MH → SR
  | [], f, m => .nx f m
  | d :: ds, f, m => match tgD t d f with
    | none => .bad
    | some f1 => match b f1 m with
      | .nx f2 m2 => forS t b ds f2 m2
      | .ct f2 m2 => forS t b ds f2 m2
      | .bk f2 m2 => .nx f2 m2
      | r => r
def setXD (x y d : D) (m : MH) : Option MH := match x, y with
  | .ref n, .int k => match m[n]? with
    | some (.lst xs) => match ixN xs.length k with
      | some j => some (m.set n (.lst (xs.set j d)))
      | none => none
    | _ => none
  | _, _ => none
/-! a list of the frame's own -/
def appF (i : Nat) (fe : Fr → MH → R D) (f : F) (m : MH) : SR := match f[i]? with
  | some (some (.olst xs)) => SR.of (fe f m) f fun d m1 => if xs.length < sizeLine then .nx (f.set i (some (.olst (xs ++ [d])))) m1 else .bad
  | _ => .bad
def extF (i : Nat) (fe : Fr → MH → R D) (f : F) (m : MH) : SR := match f[i]? with
  | some (some (.olst xs)) => SR.of (fe f m) f fun d m1 => match d with
    | .lst ys => if xs.length + ys.length ≤ sizeLine then .nx (f.set i (some (.olst (xs ++ ys)))) m1 else .bad
    | _ => .bad
  | _ => .bad
def setF (i : Nat) (fk fe : Fr → MH → R D) (f : F) (m : MH) : SR := SR.of (fe f m) f fun d m1 => match f[i]? with
  | some (some (.olst xs)) => SR.of (fk f m1) f fun y m2 => match y with
    | .int k => match ixN xs.length k with
      | some j => .nx (f.set i (some (.olst (xs.set j d)))) m2
      | none => .bad
    | _ => .bad
  | _ => .bad
def popF (t : Tg) (i : Nat) (f : F) (m : MH) : SR := match f[i]? with
  | some (some (.olst xs)) => match xs[xs.length - 1]? with
    | some d => match tgD t d (f.set i (some (.olst xs.dropLast))) with
      | some f1 => .nx f1 m
      | none => .bad
    | none => .bad
  | _ => .bad
def frzF (i : Nat) (f : F) : F := match f[i]? with
  | some (some (.olst xs)) => f.set i (some (.val (.lst xs)))
  | _ => f
def asgOF (i : Nat) (fe : Fr → MH → R D) (f : F) (m : MH) : SR := if i < f.length then SR.of (fe f m) f fun d m1 => match d with
  | .lst xs => .nx (f.set i (some (.olst xs))) m1
  | _ => .bad
  else .bad
/-- x op= e -/
def augF (i : Nat) (o : BO) (fe : Fr → MH → R D) (f : F) (m : MH) : SR := match f[i]? with
  | some (some (.val x)) => SR.of (fe f m) f fun y m1 => match augD o x y with
    | some z => .nx (f.set i (some (.val z))) m1
    | none => .bad
  | _ => .bad
/-- x[k] op= e, x a list of the frame's own -/
def augOF (i : Nat) (fk : Fr → MH → R D) (o : BO) (fe : Fr → MH → R D) (f : F) (m : MH) : SR := match f[i]? with
  | some (some (.olst xs)) => SR.of (fk f m) f fun y m1 => match y with
    | .int k => match ixN xs.length k, atI xs k with
      | some j, some x => SR.of (fe f m1) f fun w m2 => match augD o x w with
        | some z => .nx (f.set i (some (.olst (xs.set j z)))) m2
        | none => .bad
      | _, _ => .bad
    | _ => .bad
  | _ => .bad
/-- self.f = e in an __init__: a field more -/
def fldOF (ci : Ci) (g : Nat) (fe : Fr → MH → R D) (f : F) (m : MH) : SR := match f with
  | some (.oins C ns ds) :: r => if ci.pr C g = some none ∧ ns.contains g = false ∧ ns.length < 999 then SR.of (fe f m) f fun d m1 => .nx (some (.oins C (ns ++ [g]) (ds ++ [d])) :: r) m1 else .bad
  | _ => .bad
section
variable (G : Gt) (mkx : Nat → List D → Option Exn)
mutual
noncomputable def ex : St → F → MH → SR
  | .asg t e, f, m => SR.of (ev G e f m) f fun d m1 => match tgD t d f with
    | some f1 => .nx f1 m1
    | none => .bad
  | .exp e, f, m => SR.of (ev G e f m) f fun _ m1 => .nx f m1
  | .ret e, f, m => SR.of (ev G e f m) f fun d m1 => .rt d m1
  | .retN, _, m => .rt .non m
  | .retS e, f, m => SR.of (ev G e f m) f fun d m1 => match d with
    | .lst xs => .rt (.ref m1.length) (m1 ++ [.lst xs])
    | _ => .bad
  | .ife c a b, f, m => SR.of (tst (ev G c) f m) f fun t m1 => match t with
    | true => exs a f m1
    | false => exs b f m1
  | .whl c b, f, m => whileS (tst (ev G c)) (exs b) f m
  | .for_ t it b, f, m => SR.of (ev G it f m) f fun d m1 => match itemsD d with
    | some xs => forS t (exs b) xs f m1
    | none => .bad
  | .rais C es, f, m => SR.of (evs G es f m) f fun ds m1 => match mkx C ds with
    | some x => .ex x f m1
    | none => .bad
  | .brk, f, m => .bk f m
  | .cnt, f, m => .ct f m
  | .pas, f, m => .nx f m
  | .setX a i e, f, m => SR.of (ev G e f m) f fun d m1 => SR.of (ev G a f m1) f fun x m2 => SR.of (ev G i f m2) f fun y m3 => match setXD x y d m3 with
    | some m4 => .nx f m4
    | none => .bad
  | .asgO i e, f, m => asgOF i (ev G e) f m
  | .app i e, f, m => appF i (ev G e) f m
  | .setO i k e, f, m => setF i (ev G k) (ev G e) f m
  | .frz i, f, m => .nx (frzF i f) m
  | .popA t i, f, m => popF t i f m
  | .extO i e, f, m => extF i (ev G e) f m
  | .fldO g e, f, m => fldOF G.ci g (ev G e) f m
  | .aug i o e, f, m => augF i o (ev G e) f m
  | .augO i k o e, f, m => augOF i (ev G k) o (ev G e) f m
noncomputable def exs : List St → F → MH → SR
  | [], f, m => .nx f m
  | s :: ss, f, m => (ex s f m).then_ fun f1 m1 => exs ss f1 m1
end
end
/-- a def's body: n parameters, N names -/
noncomputable def runF (G : Gt) (mkx : Nat → List D → Option Exn) (n N : Nat) (b : List St) (ds : List D) (m : MH) : R D :=
  if ds.length = n then match exs G mkx b (ds.map (fun d => some (.val d)) ++ List.replicate (N - n) none) m with
    | .nx _ m1 => .ok .non m1
    | .rt d m1 => .ok d m1
    | .ex x _ m1 => .exc x m1
    | _ => .bad
  else .bad
/-- an __init__'s body: n parameters (the object first), N names; what it makes -/
noncomputable def runI (G : Gt) (mkx : Nat → List D → Option Exn) (C n N : Nat) (b : List St) (ds : List D) (m : MH) : R D :=
  if ds.length + 1 = n then match exs G mkx b (some (.oins C [] []) :: (ds.map (fun d => some (.val d)) ++ List.replicate (N - n) none)) m with
    | .nx f m1 => match f with
      | some (.oins C ns ds) :: _ => .ok (.ins C ns ds) m1
      | _ => .bad
    | .ex x _ m1 => .exc x m1
    | _ => .bad
  else .bad
end Mp
end
section
set_option Elab.async false
set_option linter.all false
set_option maxRecDepth 100000
set_option maxHeartbeats 1000000
/-! MpStmS: statements do what they mean; a def keeps its meaning's promise. -/
namespace Mp
open PySem PySem.Spec PyProof.Rows L2

/-- what a frame owns -/
def Own : Sl → Prop
  | .val _ => False
  | _ => True
structure Rs (S : Sta) (ow0 : Addr → Prop) (io0 : List Addr) (H0 : Hp) (ow : Addr → Prop) (io : List Addr) (H : Hp) (f : F) (m : MH) (σ : L2.St) : Prop where
  en : Ex io0 H0 io H
  r : Rp S ow io H f m σ
  s : ∀ a, ow0 a → ow a
  n : ∀ a, ow a → ¬ ow0 a → NT H0 a
  ap : ∀ (i j : Nat) (xs ys : Sl) (a : Addr), f[i]? = some (some xs) → Own xs → f[j]? = some (some ys) → Own ys → σ[i]? = some (some (.ref a)) → σ[j]? = some (some (.ref a)) → i = j ∧ ¬ ow0 a
def PostS (S : Sta) (W : WX) (ow0 : Addr → Prop) (io0 : List Addr) (H0 : Hp) (ow : Addr → Prop) (io : List Addr) (H : Hp) (D : Ends) : SR → Prop
  | .nx f m => ∀ ow' io' H' σ', Ey ow io H ow' io' H' → Rs S ow0 io0 H0 ow' io' H' f m σ' → D.nx σ' H'
  | .bk f m => ∀ ow' io' H' σ', Ey ow io H ow' io' H' → Rs S ow0 io0 H0 ow' io' H' f m σ' → D.bk σ' H'
  | .ct f m => ∀ ow' io' H' σ', Ey ow io H ow' io' H' → Rs S ow0 io0 H0 ow' io' H' f m σ' → D.ct σ' H'
  | .rt d m => ∀ io' H' v, Ex io0 H0 io' H' → RH S ow0 io' H' m → RV S ow0 io' H' d v → D.rt v H'
  | .ex x f m => ∀ ow' io' H' σ' dx fs, Ey ow io H ow' io' H' → Rs S ow0 io0 H0 ow' io' H' f m σ' → H' dx = some (.xd fs) → dx ∉ io' → ¬ ow' dx → RFs S ow' io' H' x.ns x.ds fs → W (.ref (S.ca x.c)) (some dx) σ' H'
  | .bad => False
abbrev Fs := F → MH → SR
def tS (S : Sta) (W : WX) (g : Fs) : TS := fun D σ H => ∃ ow0 io0 H0 ow io f m, Rs S ow0 io0 H0 ow io H f m σ ∧ PostS S W ow0 io0 H0 ow io H D (g f m)
section
variable {S : Sta} {W : WX} {ow0 ow ow' : Addr → Prop} {io0 io io' : List Addr} {H0 H H' : Hp} {f : F} {m m' : MH} {σ : L2.St} {D : Ends}
theorem PostS.move {r : SR} (p : PostS S W ow0 io0 H0 ow io H D r) (x : Ey ow io H ow' io' H') : PostS S W ow0 io0 H0 ow' io' H' D r := by
  cases r with
  | nx f m => exact fun ow2 io2 H2 σ2 y => p ow2 io2 H2 σ2 (x.trans y)
  | bk f m => exact fun ow2 io2 H2 σ2 y => p ow2 io2 H2 σ2 (x.trans y)
  | ct f m => exact fun ow2 io2 H2 σ2 y => p ow2 io2 H2 σ2 (x.trans y)
  | rt d m => exact p
  | ex e f m => exact fun ow2 io2 H2 σ2 dx fs y => p ow2 io2 H2 σ2 dx fs (x.trans y)
  | bad => exact p
/-- an expression has been evaluated -/
theorem Rs.ex (r : Rs S ow0 io0 H0 ow io H f m σ) (x : Ex io H io' H') (h : RH S ow io' H' m') : Rs S ow0 io0 H0 ow io' H' f m' σ :=
  ⟨r.en.trans x, r.r.ex x h, r.s, r.n, r.ap⟩
theorem Rs.exn {x : Exn} {f : F} {dx : Addr} {fs : List (Str × V)} (p : PostS S W ow0 io0 H0 ow io H D (.ex x f m)) (rs : Rs S ow0 io0 H0 ow io H f m σ) (y : Ex io H io' H') (h : RH S ow io' H' m) (e : H' dx = some (.xd fs)) (n : dx ∉ io') (w : ¬ ow dx) (q : RFs S ow io' H' x.ns x.ds fs) : W (.ref (S.ca x.c)) (some dx) σ H' :=
  p ow io' H' σ dx fs y.ey (rs.ex y h) e n w q
/-- an expression, then the rest -/
theorem PostS.seq {r : R Mp.D} {k : Mp.D → MH → SR} {Q1 : VK} (rs : Rs S ow0 io0 H0 ow io H f m σ) (p : PostS S W ow0 io0 H0 ow io H D (SR.of r f k))
    (st : ∀ x m1 io1 H1 v, Ex io H io1 H1 → Rs S ow0 io0 H0 ow io1 H1 f m1 σ → RV S ow io1 H1 x v → PostS S W ow0 io0 H0 ow io1 H1 D (k x m1) → Q1 v H1) : Post S W ow io H σ Q1 r := by
  cases r with
  | ok d m1 => exact fun io1 H1 v y h q => st d m1 io1 H1 v y (rs.ex y h) q (p.move y.ey)
  | exc x m1 => exact fun io1 H1 dx fs y h e n w q => p ow io1 H1 σ dx fs y.ey (rs.ex y h) e n w q
  | bad => exact p
theorem PostS.seqs {r : R (List Mp.D)} {k : List Mp.D → MH → SR} {Q1 : List V → Hp → Prop} (rs : Rs S ow0 io0 H0 ow io H f m σ) (p : PostS S W ow0 io0 H0 ow io H D (SR.of r f k))
    (st : ∀ x m1 io1 H1 v, Ex io H io1 H1 → Rs S ow0 io0 H0 ow io1 H1 f m1 σ → RVs S ow io1 H1 x v → PostS S W ow0 io0 H0 ow io1 H1 D (k x m1) → Q1 v H1) : Posts S W ow io H σ Q1 r := by
  cases r with
  | ok d m1 => exact fun io1 H1 v y h q => st d m1 io1 H1 v y (rs.ex y h) q (p.move y.ey)
  | exc x m1 => exact fun io1 H1 dx fs y h e n w q => p ow io1 H1 σ dx fs y.ey (rs.ex y h) e n w q
  | bad => exact p
theorem PostS.seqB {r : R Bool} {k : Bool → MH → SR} {Q1 : Bool → Hp → Prop} (rs : Rs S ow0 io0 H0 ow io H f m σ) (p : PostS S W ow0 io0 H0 ow io H D (SR.of r f k))
    (st : ∀ x m1 io1 H1, Ex io H io1 H1 → Rs S ow0 io0 H0 ow io1 H1 f m1 σ → PostS S W ow0 io0 H0 ow io1 H1 D (k x m1) → Q1 x H1) : PostB S W ow io H σ Q1 r := by
  cases r with
  | ok d m1 => exact fun io1 H1 y h => st d m1 io1 H1 y (rs.ex y h) (p.move y.ey)
  | exc x m1 => exact fun io1 H1 dx fs y h e n w q => p ow io1 H1 σ dx fs y.ey (rs.ex y h) e n w q
  | bad => exact p
theorem PostS.seqI {r : R (List Mp.D)} {k : List Mp.D → MH → SR} {Q1 : It → Hp → Prop} (rs : Rs S ow0 io0 H0 ow io H f m σ) (p : PostS S W ow0 io0 H0 ow io H D (SR.of r f k))
    (st : ∀ xs m1 io1 H1 J, Ex io H io1 H1 → Rs S ow0 io0 H0 ow io1 H1 f m1 σ → JOk S ow io1 H1 J xs → PostS S W ow0 io0 H0 ow io1 H1 D (k xs m1) → Q1 J H1) : PostI S W ow io H σ Q1 r := by
  cases r with
  | ok d m1 => exact fun io1 H1 v y h q => st d m1 io1 H1 v y (rs.ex y h) q (p.move y.ey)
  | exc x m1 => exact fun io1 H1 dx fs y h e n w q => p ow io1 H1 σ dx fs y.ey (rs.ex y h) e n w q
  | bad => exact p
/-- a value leaves the def -/
theorem PostS.ret {d : Mp.D} {v : V} (rs : Rs S ow0 io0 H0 ow io H f m σ) (p : PostS S W ow0 io0 H0 ow io H D (.rt d m)) (q : RV S ow io H d v) : D.rt v H := p io H v rs.en (rs.r.h.less rs.s) (q.less rs.s)
/-- slots are stored anew -/
theorem Rs.tg {t : Tg} {d : Mp.D} {f' : F} {σ' : L2.St} (rs : Rs S ow0 io0 H0 ow io H f m σ) (e : tgD t d f = some f') (h : RF S ow io H f' σ') (o : Off (slots t) σ σ') (hap : ∀ (i j : Nat) (xs ys : Sl) (a : Addr), f'[i]? = some (some xs) → Own xs → f'[j]? = some (some ys) → Own ys → σ'[i]? = some (some (.ref a)) → σ'[j]? = some (some (.ref a)) → i = j ∧ ¬ ow0 a) :
    Rs S ow0 io0 H0 ow io H f' m σ' := ⟨rs.en, ⟨rs.r.h, h, rs.r.o⟩, rs.s, rs.n, hap⟩
/-- what stands in a slot that the target does not name stays; what it names is a value -/
theorem tgD_own : (t : Tg) → ∀ {d : Mp.D} {f f' : F} {i : Nat} {xs : Sl}, tgD t d f = some f' → f'[i]? = some (some xs) → Own xs → f[i]? = some (some xs) ∧ i ∉ slots t
  | .nm k, d, f, f', i, xs, e, h, ho => by
    unfold tgD at e
    cases e
    by_cases hk : k = i
    · subst hk
      by_cases hl : k < f.length
      · rw [List.getElem?_set_self hl] at h; cases h; exact ho.elim
      · rw [List.getElem?_eq_none (by rw [List.length_set]; omega)] at h; cases h
    · rw [List.getElem?_set_ne hk] at h
      exact ⟨h, fun z => by unfold slots at z; exact hk (List.mem_singleton.mp z).symm⟩
  | .tup ts, d, f, f', i, xs, e, h, ho => by
    cases d with
    | tup ds =>
      unfold tgD at e
      have z := tgDs_own ts e h ho
      exact ⟨z.1, fun y => by unfold slots at y; exact z.2 y⟩
    | lst ds =>
      unfold tgD at e
      have z := tgDs_own ts e h ho
      exact ⟨z.1, fun y => by unfold slots at y; exact z.2 y⟩
    | _ => unfold tgD at e; cases e
where tgDs_own : (ts : List Tg) → ∀ {ds : List Mp.D} {f f' : F} {i : Nat} {xs : Sl}, tgDs ts ds f = some f' → f'[i]? = some (some xs) → Own xs → f[i]? = some (some xs) ∧ i ∉ slotss ts
  | [], ds, f, f', i, xs, e, h, ho => by
    cases ds with
    | nil => unfold tgDs at e; cases e; exact ⟨h, fun y => by unfold slotss at y; cases y⟩
    | cons _ _ => unfold tgDs at e; cases e
  | t :: ts, ds, f, f', i, xs, e, h, ho => by
    cases ds with
    | nil => unfold tgDs at e; cases e
    | cons d ds =>
      unfold tgDs at e
      cases e1 : tgD t d f with
      | none => rw [e1] at e; cases e
      | some f1 =>
        rw [e1] at e
        obtain ⟨a1, a2⟩ := tgDs_own ts e h ho
        obtain ⟨b1, b2⟩ := tgD_own t e1 a1 ho
        refine ⟨b1, fun y => ?_⟩
        unfold slotss at y
        exact (List.mem_append.mp y).elim b2 a2
theorem Rs.asg {t : Tg} {d : Mp.D} {f' : F} {σ' : L2.St} (rs : Rs S ow0 io0 H0 ow io H f m σ) (e : tgD t d f = some f') (h : RF S ow io H f' σ') (o : Off (slots t) σ σ') : Rs S ow0 io0 H0 ow io H f' m σ' :=
  rs.tg e h o fun i j xs ys a e1 o1 e2 o2 h1 h2 => by
    obtain ⟨a1, a2⟩ := tgD_own t e e1 o1
    obtain ⟨b1, b2⟩ := tgD_own t e e2 o2
    exact rs.ap i j xs ys a a1 o1 b1 o2 (by rw [← o.2 i a2]; exact h1) (by rw [← o.2 j b2]; exact h2)
end

/-! ### statements -/
section
variable {X : Cx} {S : Sta} {W : WX} {e c : Expr} {fe fc : Fe} {pos : Pos} {st : Stmt} {rest a b : List Stmt} {g k ga gb : Fs} {G : Gt}
theorem ss_nil : PSs X [] (tS S W fun f m => .nx f m) := PSs.imp pss_nil fun D σ H ⟨ow0, io0, H0, ow, io, f, m, rs, p⟩ => p ow io H σ (.refl _ _ _) rs
theorem ss_cons (h1 : PS X st (tS S W g)) (h2 : PSs X rest (tS S W k)) : PSs X (st :: rest) (tS S W fun f m => (g f m).then_ k) := by
  refine PSs.imp (pss_cons h1 h2) fun D σ H ⟨ow0, io0, H0, ow, io, f, m, rs, p⟩ => ?_
  refine ⟨ow0, io0, H0, ow, io, f, m, rs, ?_⟩
  dsimp only at p
  cases q : g f m with
  | nx f1 m1 =>
    rw [q] at p
    exact fun ow' io' H' σ' x r => ⟨ow0, io0, H0, ow', io', f1, m1, r, PostS.move p x⟩
  | bk f1 m1 => rw [q] at p; exact p
  | ct f1 m1 => rw [q] at p; exact p
  | rt d m1 => rw [q] at p; exact p
  | ex x f1 m1 => rw [q] at p; exact p
  | bad => rw [q] at p; exact p
theorem ss_pass : PS X (.Pass pos) (tS S W fun f m => .nx f m) := PS.imp ps_pass fun D σ H ⟨ow0, io0, H0, ow, io, f, m, rs, p⟩ => p ow io H σ (.refl _ _ _) rs
theorem ss_break : PS X (.Break pos) (tS S W fun f m => .bk f m) := PS.imp ps_break fun D σ H ⟨ow0, io0, H0, ow, io, f, m, rs, p⟩ => p ow io H σ (.refl _ _ _) rs
theorem ss_cont : PS X (.Continue pos) (tS S W fun f m => .ct f m) := PS.imp ps_continue fun D σ H ⟨ow0, io0, H0, ow, io, f, m, rs, p⟩ => p ow io H σ (.refl _ _ _) rs
theorem ss_ret (he : SE X S W e fe) : PS X (.Return (some e) pos) (tS S W fun f m => SR.of (fe f m) f fun d m1 => .rt d m1) := by
  refine PS.imp (ps_ret he) fun D σ H ⟨ow0, io0, H0, ow, io, f, m, rs, p⟩ => ?_
  exact ⟨ow, io, f, m, rs.r, p.seq rs fun x m1 io1 H1 v x1 r1 v1 p1 => p1.ret r1 v1⟩
theorem ss_retN : PS X (.Return none pos) (tS S W fun _ m => .rt .non m) := PS.imp ps_retN fun D σ H ⟨ow0, io0, H0, ow, io, f, m, rs, p⟩ => p.ret rs .mk_non
theorem ss_exp (he : SE X S W e fe) (hs : swapsWith e none pos.line X.env = pure false) : PS X (.Expr e pos) (tS S W fun f m => SR.of (fe f m) f fun _ m1 => .nx f m1) := by
  refine PS.imp (ps_expr he hs) fun D σ H ⟨ow0, io0, H0, ow, io, f, m, rs, p⟩ => ?_
  exact ⟨ow, io, f, m, rs.r, p.seq rs fun x m1 io1 H1 v x1 r1 v1 p1 => p1 ow io1 H1 σ (.refl _ _ _) r1⟩
theorem ss_if (hc : STt X S W c fc) (ha : PSs X a (tS S W ga)) (hb : PSs X b (tS S W gb)) :
    PS X (.If c a b pos) (tS S W fun f m => SR.of (tst fc f m) f fun t m1 => match t with | true => ga f m1 | false => gb f m1) := by
  refine PS.imp (ps_if hc ha hb) fun D σ H ⟨ow0, io0, H0, ow, io, f, m, rs, p⟩ => ?_
  refine ⟨ow, io, f, m, rs.r, p.seqB rs fun t m1 io1 H1 x1 r1 p1 => ?_⟩
  cases t with
  | true => rw [if_pos rfl]; exact ⟨ow0, io0, H0, ow, io1, f, m1, r1, p1⟩
  | false => rw [if_neg (by decide)]; exact ⟨ow0, io0, H0, ow, io1, f, m1, r1, p1⟩
theorem ss_asg {tgE : Expr} {t : Tg} (he : SE X S W e fe) (hg : PG X tgE (gR S t)) (hs : swapsWithSole [tgE] e pos.line X.env = pure false) (hw : swappedStores [tgE] e X.env = pure none) (h1 : (assignEach [tgE] X.env).map (·.2) = [assign tgE X.env]) :
    PS X (.Assign [tgE] e pos) (tS S W fun f m => SR.of (fe f m) f fun d m1 => match tgD t d f with | some f1 => .nx f1 m1 | none => .bad) := by
  refine PS.imp (ps_asg he hg hs hw h1) fun D σ H ⟨ow0, io0, H0, ow, io, f, m, rs, p⟩ => ?_
  refine ⟨ow, io, f, m, rs.r, p.seq rs fun d m1 io1 H1 v x1 r1 v1 p1 => ?_⟩
  cases q : tgD t d f with
  | none => rw [q] at p1; exact p1.elim
  | some f1 =>
    rw [q] at p1
    exact ⟨ow, io1, d, f, f1, v1, r1.r.f, q, fun σ' h o => p1 ow io1 H1 σ' (.refl _ _ _) (r1.asg q h o)⟩
/-- a, b = x, y with swapped stores -/
theorem ss_par {i j : Nat} {x y : Str} {e1 e2 : Expr} {f1 f2 : Fe} {px py pt : Pos} {kt k2 : Nat} {pt2 : Pos} (hc : X.calm = true) (hN : X.N.Nodup) (hi : X.N[i]? = some x) (hj : X.N[j]? = some y) (hij : i ≠ j)
    (hx : X.env.scope.names.lookup x = some .local) (hy : X.env.scope.names.lookup y = some .local) (ha : PA X [e1, e2] (tRs S W (evsF [f1, f2])))
    (hw : swappedStores [.Tuple [.Name x px, .Name y py] kt pt] (.Tuple [e1, e2] k2 pt2) X.env = pure (some [x, y])) (hs : swapsWithSole [.Tuple [.Name x px, .Name y py] kt pt] (.Tuple [e1, e2] k2 pt2) pos.line X.env = pure false) :
    PS X (.Assign [.Tuple [.Name x px, .Name y py] kt pt] (.Tuple [e1, e2] k2 pt2) pos)
      (tS S W fun f m => SR.of ((evsF [f1, f2] f m).bind fun ds m1 => if ds.length ≤ sizeLine then .ok (.tup ds) m1 else .bad) f fun d m1 => match tgD (.tup [.nm i, .nm j]) d f with | some f1 => .nx f1 m1 | none => .bad) := by
  refine PS.imp (ps_par hc hN hi hj hij hx hy ha hw hs) fun D σ H ⟨ow0, io0, H0, ow, io, f, m, rs, p⟩ => ?_
  refine ⟨ow, io, f, m, rs.r, ?_⟩
  dsimp only at p
  cases q : evsF [f1, f2] f m with
  | exc x m1 => rw [q] at p; exact fun io1 H1 dx fs y h e n w q => p ow io1 H1 σ dx fs y.ey (rs.ex y h) e n w q
  | bad => rw [q] at p; exact p
  | ok ds m1 =>
    rw [q] at p
    intro io1 H1 vs x1 h1 v1
    have r1 := rs.ex x1 h1
    have hl : ds.length ≤ sizeLine := by
      rw [R.ok_bind] at p
      split at p
      · assumption
      · exact p.elim
    rw [R.ok_bind, if_pos hl, SR.of_ok] at p
    cases e : tgD (.tup [.nm i, .nm j]) (.tup ds) f with
    | none => rw [e] at p; exact p.elim
    | some f' =>
      rw [e] at p
      have e' := e
      cases ds with
      | nil => simp [tgD, tgDs] at e
      | cons d1 ds =>
        cases ds with
        | nil => simp [tgD, tgDs] at e
        | cons d2 ds =>
          cases ds with
          | cons d3 ds => simp [tgD, tgDs] at e
          | nil =>
            obtain ⟨v, u, rfl, q1, q2⟩ := v1.two
            simp [tgD, tgDs] at e
            subst e
            refine ⟨v, u, rfl, p ow io1 H1 _ x1.ey (r1.asg e' ((r1.r.f.set (d := .val d1) q1).set (d := .val d2) q2) ⟨by rw [List.length_set, List.length_set], fun k hk => ?_⟩)⟩
            simp [slots, slotss] at hk
            rw [List.getElem?_set_ne (fun z => hk.2 z.symm), List.getElem?_set_ne (fun z => hk.1 z.symm)]
/-- while -/
theorem ss_while (hp : PassesOwn (model X.prog X.w) X.A X.env X.xe) (hc : STt X S W c fc) (hb : PSs X b (tS S W gb)) : PS X (.While c b [] pos) (tS S W (whileS (tst fc) gb)) := by
  refine PS.imp (ps_while hp hc hb) fun D σ H ⟨ow0, io0, H0, ow, io, f, m, rs, p⟩ => ?_
  have hb : whileS (tst fc) gb f m ≠ .bad := fun z => by rw [z] at p; exact p
  obtain ⟨n, hn⟩ := whileS_ex hb
  rw [← hn] at p
  refine ⟨fun n σ H => ∃ ow io f m, Rs S ow0 io0 H0 ow io H f m σ ∧ PostS S W ow0 io0 H0 ow io H D (whl (tst fc) gb n f m), ⟨n, ow, io, f, m, rs, p⟩, ?_⟩
  rintro n σ H ⟨ow, io, f, m, rs, p⟩
  cases n with
  | zero => unfold whl at p; exact p.elim
  | succ n =>
    unfold whl at p
    refine ⟨ow, io, f, m, rs.r, p.seqB rs fun t m1 io1 H1 x1 r1 p1 => ?_⟩
    cases t with
    | false => rw [if_neg (by decide)]; exact p1 ow io1 H1 σ (.refl _ _ _) r1
    | true =>
      rw [if_pos rfl]
      refine ⟨fun σ' H' => ∃ ow io f m, Rs S ow0 io0 H0 ow io H' f m σ' ∧ PostS S W ow0 io0 H0 ow io H' D (whl (tst fc) gb n f m), fun σ' H' h => ⟨n, Nat.lt_succ_self n, h⟩, ow0, io0, H0, ow, io1, f, m1, r1, ?_⟩
      dsimp only at p1
      cases q : gb f m1 with
      | nx f2 m2 => rw [q] at p1; exact fun ow' io' H' σ' x r => ⟨ow', io', f2, m2, r, PostS.move p1 x⟩
      | ct f2 m2 => rw [q] at p1; exact fun ow' io' H' σ' x r => ⟨ow', io', f2, m2, r, PostS.move p1 x⟩
      | bk f2 m2 => rw [q] at p1; exact p1
      | rt d m2 => rw [q] at p1; exact p1
      | ex x f2 m2 => rw [q] at p1; exact p1
      | bad => rw [q] at p1; exact p1
/-- for -/
theorem ss_for {tgE iterE : Expr} {t : Tg} {fi : Fes} (hp : PassesOwn (model X.prog X.w) X.A X.env X.xe) (hc : X.calm = true) (hi : PI X tgE iterE (tI S W fi)) (hg : PG X tgE (gR S t)) (hb : PSs X b (tS S W gb)) (hs : ∀ x, foldedSetIterable iterE X.env x = pure x) :
    PS X (.For tgE iterE b [] pos) (tS S W fun f m => SR.of (fi f m) f fun xs m1 => forS t gb xs f m1) := by
  refine PS.imp (ps_for hp hc hi hg hb hs) fun D σ H ⟨ow0, io0, H0, ow, io, f, m, rs, p⟩ => ?_
  refine ⟨ow, io, f, m, rs.r, p.seqI rs fun xs m1 io1 H1 J x1 r1 jok p1 => ?_⟩
  refine ⟨fun i k σ H => k = xs.length - i ∧ i ≤ xs.length ∧ ∃ ow' io' f m, Ey ow io1 H1 ow' io' H ∧ Rs S ow0 io0 H0 ow' io' H f m σ ∧ PostS S W ow0 io0 H0 ow' io' H D (forS t gb (xs.drop i) f m), ⟨xs.length, by simp, Nat.zero_le _, ow, io1, f, m1, .refl _ _ _, r1, p1⟩, ?_⟩
  rintro i k σ H ⟨rfl, hi', ow', io', f, m, xy, rs, p⟩
  by_cases hlt : i < xs.length
  · refine .inr ⟨jok.go i ow' io' H hlt xy, fun σ2 H2 => ∃ ow' io' f m, Ey ow io1 H1 ow' io' H2 ∧ Rs S ow0 io0 H0 ow' io' H2 f m σ2 ∧ PostS S W ow0 io0 H0 ow' io' H2 D (forS t gb (xs.drop (i + 1)) f m), fun σ2 H2 h => ⟨xs.length - (i + 1), by omega, rfl, hlt, h⟩, fun x H2 y => ?_⟩
    obtain ⟨d, hd, alt⟩ := jok.yld i ow' io' H x H2 hlt xy y
    have hdrop : xs.drop i = d :: xs.drop (i + 1) := by
      rw [List.drop_eq_getElem_cons hlt]
      rw [List.getElem?_eq_getElem hlt] at hd
      rw [Option.some.inj hd]
    rw [hdrop] at p
    unfold forS at p
    have item : Ex io' H io' H2 ∧ RH S ow' io' H2 m ∧ RV S ow' io' H2 d x := by
      rcases alt with ⟨rfl, q⟩ | ⟨T, us, ds, hT, rfl, rfl, rfl, q⟩
      · exact ⟨.refl _ _, rs.r.h, q⟩
      · have nT : T ∉ io' ∧ ¬ ow' T := notOwned rs.r hT
        exact ⟨.fresh hT, rs.r.h.fresh hT, .mk_tup hT nT q⟩
    obtain ⟨x2, rh2, rv2⟩ := item
    have rs2 := rs.ex x2 rh2
    cases q : tgD t d f with
    | none => rw [q] at p; exact p.elim
    | some f1 =>
      rw [q] at p
      dsimp only at p
      refine ⟨ow', io', d, f, f1, rv2, rs2.r.f, q, fun σ3 h3 o3 => ?_⟩
      have rs3 := rs2.asg q h3 o3
      refine ⟨ow0, io0, H0, ow', io', f1, m, rs3, ?_⟩
      have p := p.move x2.ey
      cases q2 : gb f1 m with
      | nx f2 m2 => rw [q2] at p; exact fun ow3 io3 H3 σ3 x r => ⟨ow3, io3, f2, m2, (xy.trans x2.ey).trans x, r, PostS.move p x⟩
      | ct f2 m2 => rw [q2] at p; exact fun ow3 io3 H3 σ3 x r => ⟨ow3, io3, f2, m2, (xy.trans x2.ey).trans x, r, PostS.move p x⟩
      | bk f2 m2 => rw [q2] at p; exact p
      | rt d m2 => rw [q2] at p; exact p
      | ex x f2 m2 => rw [q2] at p; exact p
      | bad => rw [q2] at p; exact p
  · have e : i = xs.length := by omega
    subst e
    refine .inl ⟨jok.stop ow' io' H xy, ?_⟩
    rw [List.drop_length] at p
    unfold forS at p
    exact p ow' io' H σ (.refl _ _ _) rs
end
end Mp
end
section
set_option Elab.async false
set_option linter.all false
set_option maxRecDepth 100000
set_option maxHeartbeats 1000000
/-! MpDef: shared lists, a def's promise. -/
namespace Mp
open PySem PySem.Spec PyProof.Rows L2

section
variable {X : Cx} {S : Sta} {W : WX} {e a i : Expr} {fe fa fi : Fe} {pos : Pos} {es : List Expr} {fs : Fes}
def nsl : Expr → Bool
  | .Slice .. => false
  | _ => true
theorem assign_sub {a i : Expr} {tp : Pos} {env : Env} {v : Value} (h : nsl i = true) : assign (.Subscript a i tp) env v = (do
    let ov ← holding [v] (eval a env)
    let iv ← holding [v, ov] (eval i env)
    standAt tp
    holding [v, ov, iv] (setItem ov iv v)
    release [v, ov, iv] []) := by
  rw [assign]
  cases i <;> first | rfl | cases h
/-- a[i] = e, a shared list -/
theorem ss_setX {tp : Pos} (hn : nsl i = true) (he : SE X S W e fe) (ha : SE X S W a fa) (hi : SE X S W i fi) (hs : swapsWithSole [.Subscript a i tp] e pos.line X.env = pure false) (hw : swappedStores [.Subscript a i tp] e X.env = pure none)
    (h1 : (assignEach [.Subscript a i tp] X.env).map (·.2) = [assign (.Subscript a i tp) X.env]) :
    PS X (.Assign [.Subscript a i tp] e pos) (tS S W fun f m => SR.of (fe f m) f fun d m1 => SR.of (fa f m1) f fun x m2 => SR.of (fi f m2) f fun y m3 => match setXD x y d m3 with | some m4 => .nx f m4 | none => .bad) := by
  refine PS.imp (ps_asg he (pg_sub ha hi set_list (ha := fun v => assign_sub hn)) hs hw h1) fun D σ H ⟨ow0, io0, H0, ow, io, f, m, rs, p⟩ => ?_
  refine ⟨ow, io, f, m, rs.r, p.seq rs fun d m1 io1 H1 v x1 r1 v1 p1 => ?_⟩
  refine ⟨ow, io1, f, m1, r1.r, p1.seq r1 fun x m2 io2 H2 u x2 r2 u2 p2 => ?_⟩
  refine ⟨ow, io2, f, m2, r2.r, p2.seq r2 fun y m3 io3 H3 w x3 r3 w3 p3 => ?_⟩
  have v3 := (v1.ex x2).ex x3
  have u3 := u2.ex x3
  unfold setXD at p3
  cases x with
  | ref n =>
    cases y with
    | int k =>
      dsimp only at p3
      cases em : m3[n]? with
      | none => rw [em] at p3; exact p3.elim
      | some mo =>
        rw [em] at p3
        cases mo with
        | lst xs =>
          dsimp only at p3
          cases ej : ixN xs.length k with
          | none => rw [ej] at p3; exact p3.elim
          | some j =>
            rw [ej] at p3
            dsimp only at p3
            obtain ⟨p, rfl, e0, vs, hp, q1⟩ := u3.of_ref r3.r.h em
            cases w3.of_int
            have xw : Ex io3 H3 io3 (upd H3 p (.lst (vs.set j v))) := .write (List.mem_of_getElem? e0) True.intro
            refine ⟨p, vs, k, j, rfl, rfl, hp, by rw [← q1.length]; exact ej, ?_⟩
            exact p3 ow io3 _ σ xw.ey (r3.ex xw (r3.r.h.write e0 True.intro ⟨_, upd_same, (q1.set j v3).ex xw⟩))
        | _ => exact p3.elim
    | _ => exact p3.elim
  | _ => exact p3.elim
/-- return [..]: the list is shared from now on -/
theorem ss_retS {lp : Pos} (h : PA X es (tRs S W fs)) :
    PS X (.Return (some (.List es lp)) pos) (tS S W fun f m => SR.of ((fs f m).bind fun ds m1 => if ds.length ≤ sizeLine then R.ok (Mp.D.lst ds) m1 else .bad) f fun d m1 => match d with | .lst xs => .rt (.ref m1.length) (m1 ++ [.lst xs]) | _ => .bad) := by
  refine PS.imp (ps_ret (pe_lst h)) fun D σ H ⟨ow0, io0, H0, ow, io, f, m, rs, p⟩ => ?_
  refine ⟨ow, io, f, m, rs.r, ?_⟩
  dsimp only at p
  cases q : fs f m with
  | exc x m1 => rw [q] at p; exact fun io1 H1 dx fs y h e n w q => p ow io1 H1 σ dx fs y.ey (rs.ex y h) e n w q
  | bad => rw [q] at p; exact p
  | ok ds m1 =>
    rw [q] at p
    intro io1 H1 vs x1 h1 v1
    have r1 := rs.ex x1 h1
    have hl : ds.length ≤ sizeLine := by
      rw [R.ok_bind] at p
      split at p
      · assumption
      · exact p.elim
    rw [R.ok_bind, if_pos hl, SR.of_ok] at p
    dsimp only at p
    refine ⟨by rw [← v1.length]; exact hl, fun a ha => ?_⟩
    obtain ⟨n1, n2⟩ := notOwned r1.r ha
    have xs : Ex io1 H1 (io1 ++ [a]) (upd H1 a (.lst vs)) := .share ha
    have sh : RH S ow (io1 ++ [a]) (upd H1 a (.lst vs)) (m1 ++ [MO.lst ds]) := h1.share ha n2 ⟨vs, upd_same, v1.ex xs⟩
    refine p _ _ _ (r1.en.trans xs) (sh.less rs.s) ?_
    unfold RV
    refine ⟨a, rfl, ?_⟩
    rw [List.getElem?_append_right (by rw [h1.len]; exact Nat.le_refl _), h1.len, Nat.sub_self]
    rfl
end
/-! ### a def -/
theorem start_rf {S : Sta} {ow : Addr → Prop} {io : List Addr} {H : Hp} {ds : List Mp.D} {vs : List V} {N : List Str} {n : Nat} (h : RVs S ow io H ds vs) (hn : ds.length = n) (hN : n ≤ N.length) :
    RF S ow io H (ds.map (fun d => some (Sl.val d)) ++ List.replicate (N.length - n) none) (start N vs) := by
  refine ⟨?_, fun i s e => ?_⟩
  · unfold L2.start
    rw [List.length_append, List.length_append, List.length_map, List.length_map, List.length_replicate, List.length_replicate, ← h.length, hn]
    omega
  · by_cases hi : i < ds.length
    · rw [List.getElem?_append_left (by rw [List.length_map]; exact hi), List.getElem?_map] at e
      cases ed : ds[i]? with
      | none => rw [ed] at e; cases e
      | some d =>
        rw [ed] at e
        cases e
        obtain ⟨v, e1, q⟩ := h.get ed
        refine ⟨v, ?_, q⟩
        unfold L2.start
        rw [List.getElem?_append_left (by rw [List.length_map, ← h.length]; exact hi), List.getElem?_map, e1]
        rfl
    · rw [List.getElem?_append_right (by rw [List.length_map]; omega)] at e
      have := List.mem_of_getElem? e
      rw [List.mem_replicate] at this
      cases this.2
theorem start_ap {ds : List Mp.D} {k i : Nat} {xs : Sl} (e : (ds.map (fun d => some (Sl.val d)) ++ List.replicate k none)[i]? = some (some xs)) (o : Own xs) : False := by
  have := List.mem_of_getElem? e
  rw [List.mem_append] at this
  rcases this with h | h
  · obtain ⟨d, _, h⟩ := List.mem_map.mp h
    cases h
    exact o.elim
  · rw [List.mem_replicate] at h
    cases h.2
section
variable {S : Sta} {x qual : Str} {params : Arguments} {body : List Stmt} {scope : Scope} {dvs : List V} {kws : List (Str × V)} {fa : Addr} {fd : FuncData} {N ps : List Str} {k n : Nat} {G : Gt} {mkx : Nat → List Mp.D → Option Exn} {b : List St}
/-- a def's start: what is wanted of its answer is wanted of its body -/
theorem start_wish {scope : Scope} {vs : List V} {H : Hp} {Q : VK} {E : XK} (sc : FnScope N ps scope) (hps : ps.length = n) (hpl : n ≤ N.length) (h : spOf S n (runF G mkx n N.length b) vs H Q E) :
    tS S (fun c d _ H' => E c d H') (exs G mkx b) { nx := fun _ H' => Q .non H', rt := Q } (L2.start N vs) H := by
  obtain ⟨ow, io, ds, m, rh, od, hv, hl, p⟩ := h
  unfold runF at p
  rw [if_pos hl] at p
  refine ⟨ow, io, H, ow, io, _, m, ⟨.refl _ _, ⟨rh, start_rf hv hl hpl, od⟩, fun _ h => h, fun a h n => absurd h n, fun i j xs ys a e1 o1 _ _ _ _ => (start_ap e1 o1).elim⟩, ?_⟩
  cases q : exs G mkx b (ds.map (fun d => some (Sl.val d)) ++ List.replicate (N.length - n) none) m with
  | nx f1 m1 =>
    rw [q] at p
    exact fun ow' io' H' σ' x rs => p io' H' .non rs.en (rs.r.h.less rs.s) .mk_non
  | rt d m1 => rw [q] at p; exact fun io' H' v x h q => p io' H' v x h q
  | ex x f1 m1 =>
    rw [q] at p
    exact fun ow' io' H' σ' dx fs y rs e n w q => p io' H' dx fs rs.en (rs.r.h.less rs.s) e n (fun z => w (rs.s _ z)) ⟨q.1, q.2.less rs.s⟩
  | bk f1 m1 => rw [q] at p; exact p.elim
  | ct f1 m1 => rw [q] at p; exact p.elim
  | bad => rw [q] at p; exact p.elim
/-- a def whose body means b -/
theorem fn_ok (FD : FunD S.K x qual params body scope dvs kws fa fd) (sc : FnScope N ps scope) (hps : ps.length = n)
    (hbody : ∀ (cdv : Value) (A : Around) (outer : List Env) (s : Shared) (H : Hp) (E : XK), Room k (A.deeper (envOfC qual scope s.heap.objs.size fa cdv)) →
      PSs (cxOf (L2.CX S.P S.w) S.P S.w S.K S.mg S.base N qual scope fa cdv A outer s H E) body (tS S (fun c d _ H' => E c d H') (exs G mkx b))) :
    FnOk S.P S.w S.K S.mg S.base (L2.CX S.P S.w) (k + 1) fa fd ps (spOf S n (runF G mkx n N.length b)) := by
  have hpl : n ≤ N.length := by
    have := congrArg List.length sc.pre
    rw [List.length_take] at this
    omega
  refine FD.ok sc (fun vs H Q E h => ?_) fun cdv A outer s H vs Q E hr h => ⟨_, hbody cdv A outer s H E hr, ?_⟩
  · obtain ⟨ow, io, ds, m, _, _, hv, hl, _⟩ := h
    rw [← hv.length, hl, hps]
  · exact start_wish sc hps hpl h
end
end Mp
end
section
set_option Elab.async false
set_option linter.all false
set_option maxRecDepth 100000
set_option maxHeartbeats 1000000
/-! MpStar: defs with a star parameter; calls of a def by any number of values. -/
namespace Mp
open PySem PySem.Spec PyProof.Rows L2

/-- a def with a star parameter behind its n parameters -/
noncomputable def runFS (G : Gt) (mkx : Nat → List D → Option Exn) (n N : Nat) (b : List St) (ds : List D) (m : MH) : R D :=
  if n ≤ ds.length ∧ (ds.drop n).length ≤ sizeLine then runF G mkx (n + 1) N b (ds.take n ++ [.tup (ds.drop n)]) m else .bad
def spR (S : Sta) (f : List Mp.D → MH → R Mp.D) : Sp := fun vs H Q E => ∃ ow io ds m, RH S ow io H m ∧ (∀ a, ow a → ¬ NT H a) ∧ RVs S ow io H ds vs ∧ Post S (fun c d _ H' => E c d H') ow io H [] Q (f ds m)
/-- the def called x keeps f's promise at level k, by place, for any number of values -/
def CalROk (S : Sta) (k : Nat) (x : Str) (f : List Mp.D → MH → R Mp.D) : Prop :=
  ∃ fa : Addr, S.mg x = some (.ref fa) ∧ PySem.W.keepIn S.K (.ref fa) = true ∧ FnR S.P S.w S.K S.mg S.base (L2.CX S.P S.w) k fa (spR S f)
section
variable {X : Cx} {S : Sta} {W : WX} {x : Str} {p pos : Pos} {es : List Expr} {fs : Fes}
theorem run_fnRS {k fa : Nat} {sp : Sp} {E : L2.St → XK} {pins : List (Addr × Obj)} {s : Shared} {σ : L2.St} {H : Hp} {Q : VK} {us : List Value} {vs : List V}
    (F : FnR X.prog X.w X.K X.mg X.base (L2.CX X.prog X.w) k fa sp) (hr : Room k X.A) (hx : PassesAt (L2.CX X.prog X.w) X σ (E σ)) (I : Inv X pins σ H s) (r : Vals vs us) (h : sp vs H Q (E σ)) :
    wpAny (model X.prog X.w) X.A (call (.ref fa) us []) (EP X pins σ Q) X.xe s := by
  refine wpAny_call (codeAny_mono (F X.A X.stack s H us vs Q (E σ) hr I.env0 r h) fun r s' hq => ?_)
  cases r with
  | error e => exact hx pins H s e s' I hq
  | ok fl =>
    cases fl with
    | ret u => exact I.after hq
    | next => exact False.elim hq
    | brk => exact False.elim hq
    | cont => exact False.elim hq
theorem fnr_over {k fa : Nat} {sp : Sp} (ov : Ov S X) (F : FnR S.P S.w S.K S.mg S.base (L2.CX S.P S.w) k fa sp) : FnR X.prog X.w X.K X.mg X.base (L2.CX X.prog X.w) k fa sp := by
  rw [ov.P, ov.w, ov.K, ov.mg, ov.base]; exact F
theorem key_callR {f : List Mp.D → MH → R Mp.D} {σ : L2.St} {H : Hp} {Q : VK} {ow : Addr → Prop} {io : List Addr} {fr : Fr} {m : MH} (rp : Rp S ow io H fr m σ)
    (pp : Post S W ow io H σ Q ((fs fr m).bind fun ds m1 => f ds m1)) : Posts S W ow io H σ (fun vs H1 => spR S f vs H1 Q (fun c d H' => W c d σ H')) (fs fr m) := by
  cases q : fs fr m with
  | ok ds m1 =>
    rw [q] at pp
    have pp : Post S W ow io H σ Q (f ds m1) := pp
    exact fun io1 H1 vs x1 r1 v1 => ⟨ow, io1, ds, m1, r1, (rp.ex x1 r1).o, v1, (pp.move x1).wish⟩
  | exc y m1 => rw [q] at pp; exact pp
  | bad => rw [q] at pp; exact pp
theorem se_callR0 {k : Nat} {f : List Mp.D → MH → R Mp.D} (ov : Ov S X) (C : CalROk S k x f) (hr : Room k X.A) (tk : Takes X W) (hg : Gl X x) (hdb : (x == ("__debug__" : Str)) = false) :
    SE X S W (.Call (.Name x p) [] [] pos) (fun _ m => f [] m) := by
  obtain ⟨fa, hm, hk, F⟩ := C
  have F := fnr_over ov F
  rw [← ov.mg] at hm
  rw [← ov.K] at hk
  refine ⟨fun pins s σ H Q I h => ?_⟩
  refine wpAny_Call_Name_kw (ld_glob I hg hm ?_ hdb)
  obtain ⟨ow, io, fr, m, rp, pp⟩ := h
  exact PySem.W.callWith_K0 I.kIn hk (run_fnRS F hr (passAt tk σ) I .nil ⟨ow, io, [], m, rp.h, rp.o, .nil, pp.wish⟩)
theorem se_callR {k : Nat} {f : List Mp.D → MH → R Mp.D} {e : Expr} (ov : Ov S X) (C : CalROk S k x f) (hr : Room k X.A) (tk : Takes X W) (hg : Gl X x) (ha : PA X (e :: es) (tRs S W fs)) (hn : (e :: es).all nst = true)
    (hdb : (x == ("__debug__" : Str)) = false) :
    SE X S W (.Call (.Name x p) (e :: es) [] pos) (fun fr m => (fs fr m).bind fun ds m1 => f ds m1) := by
  obtain ⟨fa, hm, hk, F⟩ := C
  have F := fnr_over ov F
  rw [← ov.mg] at hm
  rw [← ov.K] at hk
  refine ⟨fun pins s σ H Q I h => ?_⟩
  refine wpAny_Call_Name_kw (ld_glob I hg hm ?_ hdb)
  obtain ⟨ow, io, fr, m, rp, pp⟩ := h
  rw [List.all_cons, Bool.and_eq_true] at hn
  refine PySem.W.callWith_K (h₀ := X.base) I.ok.mod.kin hk (thn (ha.run pos pins s σ H _ I ⟨ow, io, fr, m, rp, key_callR rp pp⟩) fun us s1 ⟨vs, H1, I1, r, q⟩ => ⟨I1.kIn, ?_⟩) (starEach_ns hn.1) (stars_any hn.2)
  exact run_fnRS F hr (passAt tk σ) I1 r q
end
section
variable {S : Sta} {x qual : Str} {params : Arguments} {body : List Stmt} {scope : Scope} {dvs : List V} {kws : List (Str × V)} {fa : Addr} {fd : FuncData} {N ps : List Str} {k n : Nat} {G : Gt} {mkx : Nat → List Mp.D → Option Exn} {b : List St} {pv : Str}
theorem fnstar_ok (FD : FunD S.K x qual params body scope [] kws fa fd) (sc : FnScope N (ps ++ [pv]) scope) (hps : ps.length = n)
    (hB : ∀ (kV doc pm : Value) (an : Option Addr) (cdv ct : Value) (us rest : List Value), us.length = ps.length → bindArgs (PySem.W.fnOf x qual params body scope .none kV doc pm an cdv ct) ⟨us ++ rest, []⟩ = (newTuple rest >>= fun t => pure (ps.zip us ++ [(pv, t)])))
    (hbody : ∀ (cdv : Value) (A : Around) (outer : List Env) (s : Shared) (H : Hp) (E : XK), Room k (A.deeper (envOfC qual scope s.heap.objs.size fa cdv)) →
      PSs (cxOf (L2.CX S.P S.w) S.P S.w S.K S.mg S.base N qual scope fa cdv A outer s H E) body (tS S (fun c d _ H' => E c d H') (exs G mkx b))) :
    FnR S.P S.w S.K S.mg S.base (L2.CX S.P S.w) (k + 1) fa (spR S (runFS G mkx n N.length b)) := by
  have hpl : n + 1 ≤ N.length := by
    have := congrArg List.length sc.pre
    rw [List.length_take, List.length_append] at this
    simp at this
    omega
  obtain ⟨oc, od, dV, kV, doc, pm, an, cdv, ct, osl, rfl, lk, hcd, hD, _⟩ := FD.ex
  have hD : dV = .none := by
    rcases hD with ⟨_, h⟩ | ⟨h, _⟩
    · exact h
    · exact absurd rfl h
  subst hD
  refine (StX.fn_star (k := k) (sp := spOf S (n + 1) (runF G mkx (n + 1) N.length b)) lk hcd sc StX.cxUp (hB kV doc pm an cdv ct) fun A outer s H vs Q E hr h => ⟨_, hbody cdv A outer s H E hr, start_wish sc (by simp [hps]) hpl h⟩).imp fun vs H Q E h => ?_
  obtain ⟨ow, io, ds, m, rh, od, hv, p⟩ := h
  unfold runFS at p
  split at p
  rotate_left
  · exact p.elim
  rename_i hc
  have hl := hv.length
  refine ⟨vs.take n, vs.drop n, (List.take_append_drop n vs).symm, by rw [List.length_take, hps]; omega, by rw [List.length_drop, ← hl, ← List.length_drop]; exact hc.2, fun q hq => ?_⟩
  have x1 : Ex io H io (upd H q (.tup (vs.drop n))) := .fresh hq
  have nq : q ∉ io ∧ ¬ ow q := ⟨fun z => (rh.mem z).1 (.of hq), fun z => od q z (.of hq)⟩
  refine ⟨ow, io, ds.take n ++ [.tup (ds.drop n)], m, rh.fresh hq, fun a z y => od a z (x1.dom a y), ?_, ?_, p.move x1⟩
  · refine RVs.append ((hv.take n).ex x1) (.cons ?_ .nil)
    exact RV.mk_tup hq nq (hv.drop n)
  · rw [List.length_append, List.length_take]
    simp
    omega
end
end Mp
end
section
set_option Elab.async false
set_option linter.all false
set_option maxRecDepth 100000
set_option maxHeartbeats 2000000
/-! MpExc: an exception of a class of one's own whose __init__ says super().__init__(z), self.tag = z, self.f = v. -/
namespace Mp
open PySem PySem.Spec PyProof.Rows L2

/-- the statements of such an __init__ -/
def initB (z : Str) (p0 p1 p2 p3 p4 p5 p6 p7 p8 p9 : Pos) (j1 j2 : Nat) (tag : Str) (more : List Stmt) : List Stmt :=
  .Expr (.Call (.Attribute (.Call (.Name "super" p0) [] [] p1) "__init__" p2) [.Constant (.str z) j1 p3] [] p4) p5 ::
  .Assign [.Attribute (.Name "self" p6) tag p7] (.Constant (.str z) j2 p8) p9 :: more
/-- the class at C, its __init__ at f -/
structure XcF (P : Program) (K : PySem.W.Frag) (C f cc cda : Addr) (name qual : Str) (params : Arguments) (body : List Stmt) (scope : Scope) : Prop where
  cls : ∃ nm q N bs bm sn sub ab col dd k0 k1 k2 k3 k5, K.lookup C = some (excClassObj nm q C N bs bm true sn sub ab col dd k0 k1 k2 k3 k5 "ValueError.__new__") ∧ PySem.HandSPX.refsVE bm = true
  sa : PySem.W.findIn K (.ref C) "__setattr__" = some (some (.builtin "object.__setattr__"))
  exC : PySem.W.subIn K (.ref C) (.type "BaseException") = some true
  vE : PySem.W.subIn K (.ref C) (.type "ValueError") = some true
  tyC : PySem.W.typeIn K (.ref C) = some (.type "type")
  kC : PySem.W.keepIn K (.ref C) = true
  ini : PySem.W.findIn K (.ref C) "__init__" = some (some (.ref f))
  tyI : PySem.W.typeIn K (.ref f) = some (.type "function")
  sup : PySem.W.ks_superIn K C C "__init__" = some (some (.builtin "ValueError.__init__"))
  opq : PySem.W.nsIn K PySem.cStatics "thirdparty.any" = some none
  fn : ∃ oc od dV kV doc pm an ct osl, K.lookup f = some ⟨oc, od, .func (PySem.W.ksFn name qual params body scope dV kV doc pm an (.ref cda) ct cc), osl⟩
  code : PySem.W.codeIn K (.ref cda) qual = true
  file : ∃ oc od vs sl file tf, K.lookup cda = some ⟨oc, od, .fields vs, sl⟩ ∧ vs[2]? = some (.str file tf) ∧ ((P.main.file : Str) == file) = true
  cell : ∃ oc od sl, K.lookup cc = some ⟨oc, od, .cell (some (.ref C)), sl⟩
  mro : PySem.W.mroIn K C (.ref C) = some true
  noTag : PySem.W.findIn K (.ref C) "tag" = some none
/-- the scope of such an __init__ -/
structure XcS (P : Program) (params : Arguments) (scope : Scope) : Prop where
  par : (params.posonlyargs ++ params.args).head?.map (·.arg) = some "self"
  sup : scope.names.lookup ("super" : Str) = some .globalImplicit
  cls : scope.names.lookup ("__class__" : Str) = some .free
  slf : scope.names.lookup ("self" : Str) = some .local
  kind : scope.kind = .function
  co : scope.isCoroutine = false
  gen : scope.isGenerator = false
  ncell : ∀ x ∈ scope.names, x.2 ≠ .cell
  top : (P.main.scope.names.lookup ("super" : Str)).isSome = false
theorem boot_super : bootBuiltins "super" = some (.type "super") := by decide +kernel

section
variable {P : Program} {w : World} {K : PySem.W.Frag} {mg : Str → Option Value} {base : Heap} {C f cc cda : Addr} {name qual : Str} {params : Arguments} {body : List Stmt} {scope : Scope} {z : Str}
  {h : Heap} {g : Array GenState} {d : Drawn} {t : Nat} {os : OsState} {A : Around}
/-- super().__init__(z) in the frame at L, self at e -/
theorem super_stmt {L e t0 : Addr} {m : Str → Option Value} {p0 p1 p2 p3 p4 p5 : Pos} {j1 : Nat} {Q : Flow → Shared → Prop} {E : Value → Shared → Prop} (T : XcF P K C f cc cda name qual params body scope) (sc : XcS P params scope)
    {pl : Sem Bool}
    (hev : eval (.Call (.Attribute (.Call (.Name "super" p0) [] [] p1) "__init__" p2) [.Constant (.str z) j1 p3] [] p4) (PySem.W.ksEnv qual scope L f (.ref cda) cc) = (do
        let ov ← attributeBase (.Call (.Name "super" p0) [] [] p1) "__init__" (PySem.W.ksEnv qual scope L f (.ref cda) cc) (eval (.Call (.Name "super" p0) [] [] p1) (PySem.W.ksEnv qual scope L f (.ref cda) cc))
        standAt p2.atName
        let (fv, first) ← holding [ov] (getMethod ov "__init__" pl)
        callWith p4 fv first (backTo p4 (starEach [.Constant (.str z) j1 p3] (PySem.W.ksEnv qual scope L f (.ref cda) cc))) []))
    (hint : interactive (PySem.W.ksEnv qual scope L f (.ref cda) cc) = false) (hsw : swapsWith (.Call (.Attribute (.Call (.Name "super" p0) [] [] p1) "__init__" p2) [.Constant (.str z) j1 p3] [] p4) none p5.line (PySem.W.ksEnv qual scope L f (.ref cda) cc) = pure false)
    (X : K.In h) (hg : h.Ns mainGlobals mg) (hb : ∃ mb, h.Ns builtinsNs mb ∧ ∀ x : Str, x ≠ "__name__" → mb x = bootBuiltins x) (hs : mg "super" = none)
    (hn : h.Ns L m) (hv : m "self" = some (.ref e)) (he : h.get? e = some (PySem.HandSPX.excO C t0))
    (hq : ∀ h' t1 tk, (∀ b o, b ≠ e → h.get? b = some o → h'.get? b = some o) → h.objs.size ≤ h'.objs.size → h'.get? e = some (PySem.HandSPX.excO C t1) → Q .next ⟨h', g, d, tk, os⟩) :
    PySem.wpAt (model P w) A (.func body (PySem.W.ksEnv qual scope L f (.ref cda) cc)) (exec (.Expr (.Call (.Attribute (.Call (.Name "super" p0) [] [] p1) "__init__" p2) [.Constant (.str z) j1 p3] [] p4) p5) (PySem.W.ksEnv qual scope L f (.ref cda) cc)) Q E ⟨h, g, d, t, os⟩ := by
  obtain ⟨nm, q, N, bs, bm, sn, sub, ab, col, dd, k0, k1, k2, k3, k5, hC, hbm⟩ := T.cls
  obtain ⟨oc, od, dV, kV, doc, pm, an, ct, osl, hf⟩ := T.fn
  obtain ⟨occ, occd, vs, csl, file, tf, hcode, hvs, hfile⟩ := T.file
  obtain ⟨ocl, ocd, clsl, hcell⟩ := T.cell
  have hcl : PySem.W.clsIn K C = some { name := nm, bases := bs, mro := .ref C :: bm, ns := N, qualname := q, hasDict := true, slotNames := sn, subclasses := sub, abstract := ab, collection := col, hasDel := false } := by unfold PySem.W.clsIn; rw [hC] <;> rfl
  obtain ⟨ar, har, harn⟩ : ∃ ar, (params.posonlyargs ++ params.args).head? = some ar ∧ ar.arg = "self" := by
    cases q : (params.posonlyargs ++ params.args).head? with
    | none => have := sc.par; rw [q] at this; cases this
    | some ar => have := sc.par; rw [q] at this; exact ⟨ar, rfl, Option.some.inj this⟩
  have I : PySem.W.InstAt h e (PySem.HandSPX.excO C t0) C none := ⟨he, rfl, rfl, trivial⟩
  obtain ⟨mb, hmb, hbm2⟩ := hb
  refine PySem.ks_wpAt_Expr_any (PySem.ks_wpAt_MethodCall (pl := pl) ?_ hev) hint hsw
  refine PySem.ks_wpAt_super_base (env := PySem.W.ksEnv qual scope L f (.ref cda) cc) sc.sup sc.cls (by decide +kernel) rfl (X _ _ hf) rfl har rfl (X _ _ hcode) rfl hvs hfile sc.top ?_
  refine PySem.W.ks_loadName_global sc.kind sc.sup (PySem.Calls.loadGlobal_builtin (env := PySem.W.ksEnv qual scope L f (.ref cda) cc) hg hs hmb ((hbm2 "super" (by decide)).trans boot_super) ⟨rfl, ?_⟩)
  refine wpAny_loadName_free sc.kind sc.cls rfl ⟨_, X _ _ hcell, rfl⟩ ?_
  refine wpAny_loadName_local sc.kind (harn ▸ sc.slf) hn (harn ▸ hv) ?_
  refine PySem.ks_wpAny_isType_cls (X _ _ hC) rfl ⟨rfl, ?_⟩
  refine PySem.ks_wpAny_call_super (X _ _ hC) rfl he rfl (fun c z => by cases z) (PySem.W.looks_mroIn X T.mro) (fun h1 e1 k1 => ?_)
  have X1 : K.In h1 := X.keeps k1
  have he1 := k1 _ _ he
  have I1 : PySem.W.InstAt h1 e (PySem.HandSPX.excO C t0) C none := ⟨he1, rfl, rfl, trivial⟩
  have hxC : e ≠ C := fun z => by
    rw [z, X _ _ hC] at he
    cases he
  have hsup := T.sup
  unfold PySem.W.ks_superIn at hsup
  rw [hcl] at hsup
  refine PySem.W.kxs_getMethod PySem.W.kxs_ValueError e1 (PySem.W.looks_opaque X1 T.opq) (l₀ := .ref C :: bm) (fun A Q E s k q => wpAny_bind ((PySem.W.looks_clsIn X1 hcl) A _ E s k (wpAny_pure q))) rfl X1 hsup (I1.type.andThen (PySem.W.looks_subIn X1 T.vE)) hxC (by decide +kernel) ?_
  have hu : (h1.push (PySem.W.kxs_mw "ValueError.__init__" e)).get? h1.objs.size = some (PySem.W.kxs_mw "ValueError.__init__" e) := Heap.get?_push_at rfl rfl
  have he2 : (h1.push (PySem.W.kxs_mw "ValueError.__init__" e)).get? e = some (PySem.HandSPX.excO C t0) := Heap.get?_push_of_some _ he1
  have X2 : K.In (h1.push (PySem.W.kxs_mw "ValueError.__init__" e)) := X1.keeps fun b o q => Heap.get?_push_of_some _ q
  refine PySem.W.kxs_callWith (i := "ValueError.__init__") (x := e) rfl (PySem.Calls.evalArgs_plain ?_)
  refine wpAny_items_cons (wpAny_Constant_str (wpAny_items_nil ⟨hu, ?_⟩))
  refine wpAny_call (codeAny_of_tree ?_)
  show wpAny _ A.in1 (callAny (.ref h1.objs.size) ⟨[.str z (t + 1)], []⟩) _ _ _
  simp only [callAny]
  refine wpAny_bind (wpAny_load hu ?_)
  simp only [PySem.W.kxs_mw, show (Value.type "method-wrapper" == Value.type "method" || Value.type "method-wrapper" == Value.type "builtin_function_or_method" || Value.type "method-wrapper" == Value.type "method-wrapper") = true by decide, if_true]
  refine PySem.W.KFB.if_so (by decide) ?_
  refine wpAny_bind (PySem.W.check_bound_init PySem.F.excBase_ValueError.toExcCallFacts (X2 _ _ hC) he2 rfl ?_)
  refine wpAny_bind (wpAny_pure (wpAny_pure ?_))
  refine ⟨plainId_quiet PySem.F.excBase_ValueError.init.plain _, PySem.codeAny_builtin PySem.F.excBase_ValueError.initEntry ?_⟩
  refine PySem.W.exc_init_tree (cls := .ref C) (t0 := t0) (dv := none) (c2 := .none) (c3 := .none) (b4 := .bool false) he2 (by simp [sizeLine_eq]) fun h' k' e' et => ?_
  have z1 := Heap.lt_size e1
  have z2 := Heap.lt_size et
  rw [Heap.size_push] at z2
  have z3 : h.objs.size ≤ h'.objs.size := Nat.le_of_lt (Nat.lt_trans (Nat.lt_trans z1 (Nat.lt_succ_self _)) z2)
  exact hq h' _ _ (fun b o hb ho => k' b o hb (Heap.get?_push_of_some _ (k1 _ _ ho))) z3 e'
end
/-! ### the whole __init__ -/
/-- the object after self.tag = .. -/
abbrev excD (C t : Addr) (dx : Addr) : Obj := { cls := .ref C, dict := some dx, data := .fields #[.ref t, .none, .none, .none, .bool false, .none] }
/-- positions only: what the line numbers of the text say (rfl at each class) -/
structure XcW (qual : Str) (scope : Scope) (f cda cc : Addr) (z tag : Str) (p0 p1 p2 p3 p4 p5 p7 p9 : Pos) (j1 j2 : Nat) (p6 p8 : Pos) : Prop where
  hev : ∀ L, ∃ pl, eval (.Call (.Attribute (.Call (.Name "super" p0) [] [] p1) "__init__" p2) [.Constant (.str z) j1 p3] [] p4) (PySem.W.ksEnv qual scope L f (.ref cda) cc) = (do
        let ov ← attributeBase (.Call (.Name "super" p0) [] [] p1) "__init__" (PySem.W.ksEnv qual scope L f (.ref cda) cc) (eval (.Call (.Name "super" p0) [] [] p1) (PySem.W.ksEnv qual scope L f (.ref cda) cc))
        standAt p2.atName
        let (fv, first) ← holding [ov] (getMethod ov "__init__" pl)
        callWith p4 fv first (backTo p4 (starEach [.Constant (.str z) j1 p3] (PySem.W.ksEnv qual scope L f (.ref cda) cc))) [])
  hint : ∀ L, interactive (PySem.W.ksEnv qual scope L f (.ref cda) cc) = false
  hsw : ∀ L, swapsWith (.Call (.Attribute (.Call (.Name "super" p0) [] [] p1) "__init__" p2) [.Constant (.str z) j1 p3] [] p4) none p5.line (PySem.W.ksEnv qual scope L f (.ref cda) cc) = pure false
  hs : ∀ L, swapsWith (.Constant (.str z) j2 p8) (some (.Attribute (.Name "self" p6) tag p7)) p9.line (PySem.W.ksEnv qual scope L f (.ref cda) cc) = pure false
section
variable {P : Program} {w : World} {K : PySem.W.Frag} {mg : Str → Option Value} {base : Heap} {C f cc cda : Addr} {name qual : Str} {params : Arguments} {body : List Stmt} {scope : Scope} {z : Str}
  {h : Heap} {g : Array GenState} {d : Drawn} {t : Nat} {os : OsState} {A : Around}
/-- self.tag = z: the first field -/
theorem tag_stmt {env : Env} {e t0 : Addr} {m : Str → Option Value} {tag : Str} {p6 p7 p8 p9 : Pos} {j2 : Nat} {Q : Flow → Shared → Prop} {E : Value → Shared → Prop} (T : XcF P K C f cc cda name qual params body scope) (hk : env.scope.kind = .function) (hl : env.kindOf "self" = some .local)
    (X : K.In h) (hn : h.Ns env.locals m) (hv : m "self" = some (.ref e)) (he : h.get? e = some (PySem.HandSPX.excO C t0)) (ht : PySem.W.findIn K (.ref C) tag = some none) (hs : swapsWith (.Constant (.str z) j2 p8) (some (.Attribute (.Name "self" p6) tag p7)) p9.line env = pure false)
    (hq : ∀ h' tk t1 dx, (∀ b o, b ≠ e → h.get? b = some o → h'.get? b = some o) → h.objs.size ≤ dx → dx ≠ e → h'.get? e = some (excD C t0 dx) → h'.Ns1 dx (fun y => if y = tag then some (.str z t1) else none) → Q .next ⟨h', g, d, tk, os⟩) :
    wpAny (model P w) A (exec (.Assign [.Attribute (.Name "self" p6) tag p7] (.Constant (.str z) j2 p8) p9) env) Q E ⟨h, g, d, t, os⟩ := by
  obtain ⟨nm, q, N, bs, bm, sn, sub, ab, col, dd, k0, k1, k2, k3, k5, hC, hbm⟩ := T.cls
  have hcl : PySem.W.clsIn K C = some { name := nm, bases := bs, mro := .ref C :: bm, ns := N, qualname := q, hasDict := true, slotNames := sn, subclasses := sub, abstract := ab, collection := col, hasDel := false } := by unfold PySem.W.clsIn; rw [hC] <;> rfl
  refine plainObj_wpAny_Assign_Attribute (wpAny_Constant_str (wpAny_Name (wpAny_loadName_local hk hl hn hv ?_))) hs
  refine PySem.W.set_plain X (ox := PySem.HandSPX.excO C t0) (od := none) ⟨he, rfl, rfl, trivial⟩ T.sa ?_
  exact PySem.HandSPX.exc_osa X he hcl (show PySem.HandSPX.refsVE (.ref C :: bm) = true from hbm) rfl ht (fun h' tk' dx k dn dne hx hns => hq h' tk' _ dx k dn dne hx hns)
/-- self.f = y: a further field -/
theorem fld_stmt {env : Env} {e t0 dx : Addr} {m m0 : Str → Option Value} {fld y : Str} {u : Value} {p6 p7 p8 p9 : Pos} {nl : List Str} {Q : Flow → Shared → Prop} {E : Value → Shared → Prop} (T : XcF P K C f cc cda name qual params body scope) (hk : env.scope.kind = .function) (hl : env.kindOf "self" = some .local) (hly : env.kindOf y = some .local)
    (X : K.In h) (hn : h.Ns env.locals m) (hv : m "self" = some (.ref e)) (hvy : m y = some u) (he : h.get? e = some (excD C t0 dx)) (hd : h.Ns1 dx m0) (hw : Within m0 nl) (hz : nl.length ≤ 1000) (ht : PySem.W.findIn K (.ref C) fld = some none) (hs : swapsWith (.Name y p8) (some (.Attribute (.Name "self" p6) fld p7)) p9.line env = pure false)
    (hq : ∀ h' tk, (∀ b o, b ≠ dx → h.get? b = some o → h'.get? b = some o) → h'.Ns1 dx (fun a => if a = fld then some u else m0 a) → Q .next ⟨h', g, d, tk, os⟩) (hdb : (y == ("__debug__" : Str)) = false) :
    wpAny (model P w) A (exec (.Assign [.Attribute (.Name "self" p6) fld p7] (.Name y p8) p9) env) Q E ⟨h, g, d, t, os⟩ := by
  obtain ⟨nm, q, N, bs, bm, sn, sub, ab, col, dd, k0, k1, k2, k3, k5, hC, hbm⟩ := T.cls
  have hcl : PySem.W.clsIn K C = some { name := nm, bases := bs, mro := .ref C :: bm, ns := N, qualname := q, hasDict := true, slotNames := sn, subclasses := sub, abstract := ab, collection := col, hasDel := false } := by unfold PySem.W.clsIn; rw [hC] <;> rfl
  obtain ⟨oD, _, _, hoD, _, _⟩ := hd.count hw
  refine plainObj_wpAny_Assign_Attribute (wpAny_Name (wpAny_loadName_local hk hly hn hvy (wpAny_Name (wpAny_loadName_local hk hl hn hv ?_))) hdb) hs
  refine PySem.W.set_plain X (ox := excD C t0 dx) (od := some oD) ⟨he, rfl, rfl, hoD⟩ T.sa ?_
  exact PySem.OEX.osa_old X he hd hw hz hcl (show PySem.HandSPX.refsVE (.ref C :: bm) = true from hbm) rfl ht (fun h' tk' k hn => hq h' tk' k hn)
/-- what such an __init__ promises: the fields' dict stands, the object at a bears it -/
def iniSp (C : Addr) (n : Nat) (fs : List V → List (Str × V)) : Sp := fun vs H Q _ =>
  ∃ a ws, vs = .ref a :: ws ∧ ws.length = n ∧ H a = some (exo a C none) ∧ ∀ dx, H dx = none → dx ≠ a → Q .non (upd (upd H dx (exd dx (fs ws))) a (exo a C (some dx)))
theorem ini_end {outer : List Env} {s : Shared} {H : Hp} {Q : VK} {a dx t1 : Addr} {fs : List (Str × V)} {mA : Str → Option Value} {h' : Heap} {d' : Drawn} {tk' : Nat} (e0 : Env0 P w K mg base A outer s H) (ea : H a = some (exo a C none))
    (k : ∀ b o, b ≠ a → s.heap.get? b = some o → h'.get? b = some o) (hx : h'.get? a = some (excD C t1 dx)) (dn : s.heap.objs.size ≤ dx) (dne : dx ≠ a) (hn : h'.Ns1 dx mA) (rel : ∀ f, RelO (fs.lookup f) (mA f))
    (q : ∀ dx, H dx = none → dx ≠ a → Q .non (upd (upd H dx (exd dx fs)) a (exo a C (some dx)))) : CE outer P w H s Q .none ⟨h', s.gens, d', tk', s.os⟩ := by
  have hnd : H dx = none := e0.hok.fresh dn
  have nd : ∀ {b : Addr} {o : Obj}, s.heap.get? b = some o → b ≠ dx := fun {b o} z => Nat.ne_of_lt (Nat.lt_of_lt_of_le (Heap.lt_size z) dn)
  have na : ∀ {b : Addr}, H b = none → b ≠ a := fun {b} n z => by
    rw [z, ea] at n
    cases n
  have Un1 : Un (frs outer) [] H (upd (upd H dx (exd dx fs)) a (exo a C (some dx))) s.heap h' := {
    keep := fun b o q n _ _ => k b o (na n) q
    slot := fun b o q n _ _ => ⟨o.slots, k b o (na n) q⟩
    free := fun b o q n _ => by rw [upd_ne (na n), upd_ne (nd q)]; exact n
    there := fun b o q _ => by
      by_cases hb : b = a
      · exact ⟨_, by rw [hb]; exact hx⟩
      · exact ⟨o, k b o hb q⟩
    tups := fun b xs q => by rw [upd_ne (at_ne ea q exo_tup), upd_ne (ne_of_none q hnd)]; exact q
    frzs := fun b o v q => by rw [upd_ne (at_ne ea q exo_frz), upd_ne (ne_of_none q hnd)]; exact q
    tbls := fun b ps q => ⟨#[], by rw [upd_ne (at_ne ea q exo_tbl), upd_ne (ne_of_none q hnd), q]; simp⟩ }
  refine ⟨.non, _, rfl, e0.bare, Un1, fun b o q => ?_, rfl, q dx hnd dne⟩
  by_cases hb : b = a
  · subst hb
    rw [upd_same] at q
    cases q
    exact exo_ok hx
  · rw [upd_ne hb] at q
    by_cases hd : b = dx
    · subst hd
      rw [upd_same] at q
      cases q
      exact exd_ok hn rel
    · rw [upd_ne hd] at q
      exact (e0.hok b o q).stay (fun c v hc z => k c v (by
          rcases hc with hc | hc
          · rw [hc]
            exact hb
          · exact at_ne ea hc exo_own) z)
        (fun c hc => by rw [upd_ne (at_ne ea hc exo_own), upd_ne (ne_of_none hc hnd)]; exact hc) (fun c xs hc => by rw [upd_ne (at_ne ea hc exo_tup), upd_ne (ne_of_none hc hnd)]; exact hc)
theorem lookup_hd {A : Type} (f : Str) (a : A) (r : List (Str × A)) : ((f, a) :: r).lookup f = some a := by simp [List.lookup]
theorem lookup_tl {A : Type} {f g : Str} (a : A) (r : List (Str × A)) (n : g ≠ f) : ((f, a) :: r).lookup g = r.lookup g := by
  have e : (g == f) = false := by simpa using n
  simp [List.lookup, e]
/-- def __init__(self): super().__init__(z); self.tag = z -/
theorem fn_ini0 {p0 p1 p2 p3 p4 p5 p6 p7 p8 p9 : Pos} {j1 j2 : Nat} {tag : Str} {k : Nat} {oc ct dV kV doc pm : Value} {od an : Option Addr} {osl : Array (Option Value)} (T : XcF P K C f cc cda name qual params (initB z p0 p1 p2 p3 p4 p5 p6 p7 p8 p9 j1 j2 tag []) scope) (sc : XcS P params scope)
    (W : XcW qual scope f cda cc z tag p0 p1 p2 p3 p4 p5 p7 p9 j1 j2 p6 p8) (hs : mg "super" = none) (ht : PySem.W.findIn K (.ref C) tag = some none)
    (hf : K.lookup f = some ⟨oc, od, .func (PySem.W.ksFn name qual params (initB z p0 p1 p2 p3 p4 p5 p6 p7 p8 p9 j1 j2 tag []) scope dV kV doc pm an (.ref cda) ct cc), osl⟩) :
    FnOk P w K mg base (L2.CX P w) (k + 1) f (PySem.W.ksFn name qual params (initB z p0 p1 p2 p3 p4 p5 p6 p7 p8 p9 j1 j2 tag []) scope dV kV doc pm an (.ref cda) ct cc) ["self"] (iniSp C 0 fun _ => [(tag, .str z)]) := by
  refine ⟨fun vs H Q E hh => ?_, fun A outer s H args us vs Q E hr e0 hb hv hh => ?_⟩
  · obtain ⟨a, ws, rfl, hl, _⟩ := hh
    simp [hl]
  obtain ⟨e, ws, rfl, hl, ea, q⟩ := hh
  obtain rfl : ws = [] := List.eq_nil_of_length_eq_zero hl
  cases hv with
  | @cons _ u0 _ ur ra rw' =>
  cases rw'
  obtain rfl : u0 = Value.ref e := ra
  obtain ⟨t0, he⟩ := exo_at e0.hok ea
  have X : K.In s.heap := e0.mod.kin.keeps fun b o z => (e0.bs b o z).1
  have lim : s.heap.NoLimit := e0.mod.nolimit.keeps fun b o z => (e0.bs b o z).1
  have hg : s.heap.Ns mainGlobals mg := e0.mod.glob.keeps fun b o z => (e0.bs b o z).1
  obtain ⟨mb, hmb, hbm⟩ := e0.mod.blt
  refine PySem.ks_codeAny_call_defAt hr.depth (X _ _ hf) rfl lim (PySem.W.codeRec_of X T.code) rfl hb sc.ncell (fun y hy => ?_) (fun h₀ hns k0 => ?_) sc.co sc.gen sc.kind
  · obtain rfl := List.mem_singleton.mp hy
    exact sc.slf
  obtain ⟨hh, g, d, t, os⟩ := s
  have hv0 : (List.lookup ("self" : Str) ([("self" : Str)].zip [Value.ref e]).reverse) = some (Value.ref e) := rfl
  have z0 : hh.objs.size < h₀.objs.size := by
    obtain ⟨o, es, ep, y, _⟩ := hns
    exact Heap.lt_size y
  obtain ⟨pl, hev⟩ := W.hev hh.objs.size
  refine PySem.ks_wpAt_execs_cons (super_stmt (pl := pl) T sc hev (W.hint _) (W.hsw _) (X.keeps k0) (hg.keeps k0) ⟨mb, hmb.keeps fun b o z => k0 _ _ (e0.bs b o z).1, hbm⟩ hs hns hv0 (k0 _ _ he) (fun h1 t1 tk k1 z1 he1 => ?_))
  have kk1 : ∀ b o, b ≠ e → hh.get? b = some o → h1.get? b = some o := fun b o hb ho => k1 b o hb (k0 b o ho)
  have Le : hh.objs.size ≠ e := Nat.ne_of_gt (Heap.lt_size he)
  have hns1 : h1.Ns hh.objs.size (fun x => List.lookup x ([("self" : Str)].zip [Value.ref e]).reverse) := by
    obtain ⟨o, es, ep, y, r⟩ := hns
    exact ⟨o, es, ep, k1 _ _ Le y, r⟩
  have X1 : K.In h1 := e0.mod.kin.keeps fun b o y => kk1 b o (fun z => by
    have := (e0.bs b o y).2
    rw [z, ea] at this
    cases this) (e0.bs b o y).1
  refine wpAt_of_wpAny (wpAny_execs_cons (tag_stmt T sc.kind sc.slf X1 hns1 hv0 he1 ht (W.hs _) (fun h2 tk2 tk3 dx k2 dn dne he2 hd2 => ?_)))
  refine wpAny_execs_nil ?_
  exact ini_end (a := e) (fs := [(tag, V.str z)]) e0 ea (fun b o hb ho => k2 b o hb (kk1 b o hb ho)) he2 (Nat.le_trans (Nat.le_trans (Nat.le_of_lt z0) z1) dn) dne hd2 (relO_put (fs := []) (y := V.str z) ⟨_, rfl⟩ fun g => True.intro) q
/-- def __init__(self, y): super().__init__(z); self.tag = z; self.fld = y -/
theorem fn_ini1 {fld y : Str} {q6 q7 q8 q9 : Pos} {p0 p1 p2 p3 p4 p5 p6 p7 p8 p9 : Pos} {j1 j2 : Nat} {tag : Str} {k : Nat} {oc ct dV kV doc pm : Value} {od an : Option Addr} {osl : Array (Option Value)} (T : XcF P K C f cc cda name qual params (initB z p0 p1 p2 p3 p4 p5 p6 p7 p8 p9 j1 j2 tag [.Assign [.Attribute (.Name "self" q6) fld q7] (.Name y q8) q9]) scope) (sc : XcS P params scope)
    (W : XcW qual scope f cda cc z tag p0 p1 p2 p3 p4 p5 p7 p9 j1 j2 p6 p8) (hs : mg "super" = none) (ny : (y == ("self" : Str)) = false) (nd : (y == ("__debug__" : Str)) = false) (ly : scope.names.lookup y = some .local) (hsf : ∀ L, swapsWith (.Name y q8) (some (.Attribute (.Name "self" q6) fld q7)) q9.line (PySem.W.ksEnv qual scope L f (.ref cda) cc) = pure false)
    (nf : fld ≠ tag) (htf : PySem.W.findIn K (.ref C) fld = some none) (ht : PySem.W.findIn K (.ref C) tag = some none)
    (hf : K.lookup f = some ⟨oc, od, .func (PySem.W.ksFn name qual params (initB z p0 p1 p2 p3 p4 p5 p6 p7 p8 p9 j1 j2 tag [.Assign [.Attribute (.Name "self" q6) fld q7] (.Name y q8) q9]) scope dV kV doc pm an (.ref cda) ct cc), osl⟩) :
    FnOk P w K mg base (L2.CX P w) (k + 1) f (PySem.W.ksFn name qual params (initB z p0 p1 p2 p3 p4 p5 p6 p7 p8 p9 j1 j2 tag [.Assign [.Attribute (.Name "self" q6) fld q7] (.Name y q8) q9]) scope dV kV doc pm an (.ref cda) ct cc) ["self", y] (iniSp C 1 fun ws => [(fld, ws.headD .non), (tag, .str z)]) := by
  refine ⟨fun vs H Q E hh => ?_, fun A outer s H args us vs Q E hr e0 hb hv hh => ?_⟩
  · obtain ⟨a, ws, rfl, hl, _⟩ := hh
    simp [hl]
  obtain ⟨e, ws, rfl, hl, ea, q⟩ := hh
  obtain ⟨v1, rfl⟩ : ∃ v1, ws = [v1] := by
    match ws, hl with
    | [v1], _ => exact ⟨v1, rfl⟩
  cases hv with
  | @cons _ u0 _ ur ra rw' =>
  cases rw' with
  | @cons _ u1 _ ur2 rb rw2 =>
  cases rw2
  obtain rfl : u0 = Value.ref e := ra
  obtain ⟨t0, he⟩ := exo_at e0.hok ea
  have X : K.In s.heap := e0.mod.kin.keeps fun b o z => (e0.bs b o z).1
  have lim : s.heap.NoLimit := e0.mod.nolimit.keeps fun b o z => (e0.bs b o z).1
  have hg : s.heap.Ns mainGlobals mg := e0.mod.glob.keeps fun b o z => (e0.bs b o z).1
  obtain ⟨mb, hmb, hbm⟩ := e0.mod.blt
  refine PySem.ks_codeAny_call_defAt hr.depth (X _ _ hf) rfl lim (PySem.W.codeRec_of X T.code) rfl hb sc.ncell (fun yy hy => ?_) (fun h₀ hns k0 => ?_) sc.co sc.gen sc.kind
  · rcases List.mem_cons.mp hy with rfl | hy
    · exact sc.slf
    · obtain rfl := List.mem_singleton.mp hy
      exact ly
  obtain ⟨hh, g, d, t, os⟩ := s
  have hv0 : (List.lookup ("self" : Str) ([("self" : Str), y].zip [Value.ref e, u1]).reverse) = some (Value.ref e) := by
    show List.lookup ("self" : Str) [(y, u1), ("self", Value.ref e)] = _
    rw [lookup_tl _ _ (fun z => by rw [z] at ny; simp at ny), lookup_hd]
  have hv1 : (List.lookup y ([("self" : Str), y].zip [Value.ref e, u1]).reverse) = some u1 := by
    show List.lookup y [(y, u1), ("self", Value.ref e)] = _
    rw [lookup_hd]
  have z0 : hh.objs.size < h₀.objs.size := by
    obtain ⟨o, es, ep, y, _⟩ := hns
    exact Heap.lt_size y
  obtain ⟨pl, hev⟩ := W.hev hh.objs.size
  refine PySem.ks_wpAt_execs_cons (super_stmt (pl := pl) T sc hev (W.hint _) (W.hsw _) (X.keeps k0) (hg.keeps k0) ⟨mb, hmb.keeps fun b o z => k0 _ _ (e0.bs b o z).1, hbm⟩ hs hns hv0 (k0 _ _ he) (fun h1 t1 tk k1 z1 he1 => ?_))
  have kk1 : ∀ b o, b ≠ e → hh.get? b = some o → h1.get? b = some o := fun b o hb ho => k1 b o hb (k0 b o ho)
  have Le : hh.objs.size ≠ e := Nat.ne_of_gt (Heap.lt_size he)
  have hns1 : h1.Ns hh.objs.size (fun x => List.lookup x ([("self" : Str), y].zip [Value.ref e, u1]).reverse) := by
    obtain ⟨o, es, ep, y, r⟩ := hns
    exact ⟨o, es, ep, k1 _ _ Le y, r⟩
  have X1 : K.In h1 := e0.mod.kin.keeps fun b o y => kk1 b o (fun z => by
    have := (e0.bs b o y).2
    rw [z, ea] at this
    cases this) (e0.bs b o y).1
  refine wpAt_of_wpAny (wpAny_execs_cons (tag_stmt T sc.kind sc.slf X1 hns1 hv0 he1 ht (W.hs _) (fun h2 tk2 tk3 dx k2 dn dne he2 hd2 => ?_)))
  have Ld : hh.objs.size ≠ dx := Nat.ne_of_lt (Nat.lt_of_lt_of_le z0 (Nat.le_trans z1 dn))
  have kk2 : ∀ b o, b ≠ e → hh.get? b = some o → h2.get? b = some o := fun b o hb ho => k2 b o hb (kk1 b o hb ho)
  have X2 : K.In h2 := e0.mod.kin.keeps fun b o y => kk2 b o (fun z => by
    have := (e0.bs b o y).2
    rw [z, ea] at this
    cases this) (e0.bs b o y).1
  have hns2 : h2.Ns hh.objs.size (fun x => List.lookup x ([("self" : Str), y].zip [Value.ref e, u1]).reverse) := by
    obtain ⟨o, es, ep, y, r⟩ := hns1
    exact ⟨o, es, ep, k2 _ _ Le y, r⟩
  have dn' : hh.objs.size ≤ dx := Nat.le_trans (Nat.le_trans (Nat.le_of_lt z0) z1) dn
  have hw : Within (fun y => if y = tag then some (Value.str z tk3) else none) [tag] := fun y hy => by
    by_cases h : y = tag
    · rw [h]
      exact List.mem_cons_self ..
    · dsimp only at hy
      rw [if_neg h] at hy
      exact absurd rfl hy
  refine wpAny_execs_cons (fld_stmt (nl := [tag]) T sc.kind sc.slf ly X2 hns2 hv0 hv1 he2 hd2 hw (by simp) htf (hsf _) (fun h3 tk4 k3 hd3 => ?_) nd)
  refine wpAny_execs_nil ?_
  exact ini_end (a := e) (fs := [(fld, v1), (tag, V.str z)]) e0 ea (fun b o hb ho => k3 b o (Nat.ne_of_lt (Nat.lt_of_lt_of_le (Heap.lt_size ho) dn')) (kk2 b o hb ho)) (k3 _ _ (Ne.symm dne) he2) dn' dne hd3
    (relO_put (fs := [(tag, V.str z)]) rb (relO_put (fs := []) (y := V.str z) ⟨_, rfl⟩ fun g => True.intro)) q
end
end Mp
end
section
set_option Elab.async false
set_option linter.all false
set_option maxRecDepth 100000
set_option maxHeartbeats 2000000
/-! MpRaise: raise C(..), C an exception class of one's own. -/
namespace Mp
open PySem PySem.Spec PyProof.Rows L2

section
variable {X : Cx} {e : Expr} {es : List Expr} {ta : TA} {p pos : Pos}
/-- C(): as pmk_oex, no argument -/
theorem pmk_oex0 {CX : CXT} {x : Str} {C fI : Addr} {k : Nat} {fd : FuncData} {ps : List Str} {sp : Sp} (T : OexC X.K C) (iC : PySem.W.findIn X.K (.ref C) "__init__" = some (some (.ref fI))) (tI : PySem.W.typeIn X.K (.ref fI) = some (.type "function"))
    (F1 : FnOk X.prog X.w X.K X.mg X.base CX k fI fd ps sp) (hr : Room (k + 1) X.A) (hb : Binds X.K fd ps []) (hx : Passes CX X (fun _ _ _ => False)) (hg : Gl X x) (hm : X.mg x = some (.ref C))
    (hdb : (x == ("__debug__" : Str)) = false) :
    PMk X (.Call (.Name x p) [] [] pos) (tMkO C sp [] tNil) := by
  intro pins s σ H Q I h
  obtain ⟨nm, q, N, bs, bm, sn, sub, ab, col, dd, k0, k1, k2, k3, k5, hC, hbm⟩ := T.cls
  refine wpAny_Call_Name_kw (ld_glob I hg hm ?_ hdb)
  refine PySem.W.callWith_K0 I.kIn T.kC ?_
  show wpAny _ _ (call (.ref C) []) _ _ _
  obtain ⟨hz, q1⟩ := h
  obtain ⟨hp, g, dr, tk, os⟩ := s
  have hsz : hp.objs.size ≤ hp.objs.size + 1 := Nat.le_succ _
  have hn : H (hp.objs.size + 1) = none := I.hok.fresh hsz
  have hq := q1 (hp.objs.size + 1) hn
  have kk : ∀ b o, hp.get? b = some o → ((hp.push (PySem.W.kdv_tup [])).push (PySem.HandSPX.excO C hp.objs.size)).get? b = some o := fun b o e => Heap.get?_push_of_some _ (Heap.get?_push_of_some _ e)
  have hget : ((hp.push (PySem.W.kdv_tup [])).push (PySem.HandSPX.excO C hp.objs.size)).get? (hp.objs.size + 1) = some (PySem.HandSPX.excO C hp.objs.size) := by heap_get
  have I2 : Inv X pins σ (upd H (hp.objs.size + 1) (exo (hp.objs.size + 1) C none)) ⟨(hp.push (PySem.W.kdv_tup [])).push (PySem.HandSPX.excO C hp.objs.size), g, dr, tk, os⟩ :=
    I.laid (t' := tk) (a := hp.objs.size + 1) (o := exo (hp.objs.size + 1) C none) (h' := (hp.push (PySem.W.kdv_tup [])).push (PySem.HandSPX.excO C hp.objs.size)) kk hsz (exo_ok hget)
  have r2 : Vals [V.ref (hp.objs.size + 1)] [Value.ref (hp.objs.size + 1)] := .cons rfl .nil
  have hl : ([Value.ref (hp.objs.size + 1)] ++ ([] : List Value)).length = ps.length := by
    have e := F1.len _ _ _ _ hq
    rw [← e]
    rfl
  refine wpAny_call (PySem.HandSPX.call_own F.excBase_ValueError (fun Y => PySem.HandSPX.refsVE_contains Y bm hbm) (I.kIn _ _ hC) (PySem.W.looks_findIn I.kIn iC) (fun self => PySem.W.bind_fn I.kIn self tI) (Nat.zero_le _)
    (codeAny_mono (F1.run _ X.stack _ _ ⟨[Value.ref (hp.objs.size + 1)], []⟩ [Value.ref (hp.objs.size + 1)] _ _ (fun _ _ _ => False) (hr.make C [] []) (I2.env0.make C [] []) (hb _ [Value.ref (hp.objs.size + 1)] I2.kIn hl) r2 hq) fun r s' hq' => ?_))
  cases r with
  | error er => exact hx pins σ _ _ er s' I2 hq'
  | ok fl =>
    cases fl with
    | ret u =>
      obtain ⟨v, H2, os2, bare2, un2, hok2, rv, ev, d, fs, ea, ed, hd1, q2⟩ := hq'
      subst ev
      obtain ⟨h2, g2, d2, t2, os'⟩ := s'
      exact ⟨rv, mk_end (raises_own T.exC T.tyC) I hsz kk un2 hok2 os2 bare2 ea ed hd1 q2⟩
    | next => exact False.elim hq'
    | brk => exact False.elim hq'
    | cont => exact False.elim hq'
end
theorem passF {X : Cx} : Passes (L2.CX X.prog X.w) X (fun _ _ _ => False) := fun _ _ _ _ _ _ _ ⟨_, _, _, _, _, _, _, _, _, _, _, _, q⟩ => q.elim
theorem xd_upd {H : Hp} {a dx : Addr} {C : Addr} {fs : List (Str × V)} (ha : H a = none) : upd (del (upd (upd (upd H a (exo a C none)) dx (exd dx fs)) a (exo a C (some dx))) a) dx (.xd fs) = upd H dx (.xd fs) := by
  funext b
  by_cases hb : b = dx
  · rw [hb, upd_same, upd_same]
  · rw [upd_ne hb, upd_ne hb]
    by_cases h : b = a
    · rw [h, del_same, ha]
    · rw [del_ne h, upd_ne h, upd_ne hb, upd_ne h]
/-- the class number C, called x: an exception of n (0 or 1) fields besides the tag -/
structure Xk (S : Sta) (x : Str) (C : Nat) (n : Nat) (fs : List V → List (Str × V)) : Prop where
  mg : S.mg x = some (.ref (S.ca C))
  cls : OexC S.K (S.ca C)
  fn : ∃ fI fd ps k, ps.length = n + 1 ∧ PySem.W.findIn S.K (.ref (S.ca C)) "__init__" = some (some (.ref fI)) ∧ PySem.W.typeIn S.K (.ref fI) = some (.type "function") ∧ Binds S.K fd ps [] ∧ k ≤ 1 ∧
    FnOk S.P S.w S.K S.mg S.base (L2.CX S.P S.w) k fI fd ps (iniSp (S.ca C) n fs)
section
variable {X : Cx} {S : Sta} {W : WX} {e : Expr} {es : List Expr} {fs : Fes} {p pos pos' : Pos} {x : Str} {C tagN fldN : Nat} {z : Str}
theorem ini_q {n : Nat} {g : List V → List (Str × V)} {H : Hp} {ws : List V} {Q : XK} {a : Addr} (hl : ws.length = n) (ha : H a = none) (q : ∀ dx, H dx = none → Q (.ref C) (some dx) (upd H dx (.xd (g ws)))) :
    iniSp C n g (.ref a :: (ws ++ [])) (upd H a (exo a C none)) (fun v H2 => v = .non ∧ ∃ (d : Addr) (fs : List (Str × V)), H2 a = some (exo a C (some d)) ∧ H2 d = some (exd d fs) ∧ H d = none ∧ Q (.ref C) (some d) (upd (del H2 a) d (.xd fs))) (fun _ _ _ => False) := by
  refine ⟨a, ws, by rw [List.append_nil], hl, upd_same, fun dx hd ne => ?_⟩
  have hdn : H dx = none := by rw [upd_ne ne] at hd; exact hd
  refine ⟨rfl, dx, g ws, upd_same, by rw [upd_ne ne, upd_same], hdn, ?_⟩
  rw [xd_upd ha]
  exact q dx hdn
/-- raise C() -/
theorem ss_raise0 (ov : Ov S X) (xk : Xk S x C 0 fun _ => [(S.nm tagN, .str z)]) (hr : Room 2 X.A) (hc : X.calm = true) (tk : Takes X W) (hg : Gl X x) (hdb : (x == ("__debug__" : Str)) = false) :
    PS X (.Raise (some (.Call (.Name x p) [] [] pos)) none pos') (tS S W fun f m => .ex ⟨C, [tagN], [.str z]⟩ f m) := by
  obtain ⟨fI, fd, ps, k, hps, iC, tI, hb, hk, F1⟩ := xk.fn
  have F1 := fnok_over ov F1
  have hm := xk.mg
  have T := xk.cls
  rw [← ov.mg] at hm
  rw [← ov.K] at iC tI hb T
  refine PS.imp (ps_raise hc tk (pmk_oex0 T iC tI (F1.mono hk) hr hb passF hg hm hdb)) fun D σ H ⟨ow0, io0, H0, ow, io, f, m, rs, p⟩ => ?_
  refine ⟨Nat.zero_le _, fun a ha => ini_q (ws := []) (Q := fun c d H' => W c d σ H') rfl ha fun dx hd => ?_⟩
  obtain ⟨n1, n2⟩ := notOwned rs.r hd
  exact rs.exn p (.fresh hd) (rs.r.h.fresh hd) upd_same n1 n2 ⟨rfl, .cons .mk_str .nil⟩
/-- raise C(e) -/
theorem ss_raise1 (ov : Ov S X) (xk : Xk S x C 1 fun ws => [(S.nm fldN, ws.headD .non), (S.nm tagN, .str z)]) (hr : Room 2 X.A) (hc : X.calm = true) (tk : Takes X W) (hg : Gl X x) (ha : PA X [e] (tRs S W fs)) (hn : nst e = true) (hdb : (x == ("__debug__" : Str)) = false) :
    PS X (.Raise (some (.Call (.Name x p) [e] [] pos)) none pos') (tS S W fun f m => SR.of (fs f m) f fun ds m1 => match ds with | [d] => .ex ⟨C, [fldN, tagN], [d, .str z]⟩ f m1 | _ => .bad) := by
  obtain ⟨fI, fd, ps, k, hps, iC, tI, hb, hk, F1⟩ := xk.fn
  have F1 := fnok_over ov F1
  have hm := xk.mg
  have T := xk.cls
  rw [← ov.mg] at hm
  rw [← ov.K] at iC tI hb T
  refine PS.imp (ps_raise hc tk (pmk_oex T iC tI (F1.mono hk) hr hb .nil passF hg hm ha hdb (starEach_ns hn) (stars_any rfl))) fun D σ H ⟨ow0, io0, H0, ow, io, f, m, rs, p⟩ => ?_
  refine ⟨ow, io, f, m, rs.r, ?_⟩
  refine PostS.seqs rs p fun ds m1 io1 H1 vs x1 r1 v1 p1 => ?_
  match ds, v1, p1 with
  | [], v1, p1 => exact p1.elim
  | _ :: _ :: _, v1, p1 => exact p1.elim
  | [d], v1, p1 =>
  obtain ⟨v, rfl, q1⟩ : ∃ v, vs = [v] ∧ RV S ow io1 H1 d v := by
    unfold RVs at v1
    obtain ⟨v, r, rfl, q1, q2⟩ := v1
    unfold RVs at q2
    subst q2
    exact ⟨v, rfl, q1⟩
  dsimp only at p1
  refine ⟨(by decide : (1 : Nat) ≤ 1000), fun a ha => ini_q (ws := [v]) (Q := fun c d H' => W c d σ H') rfl ha fun dx hd => ?_⟩
  obtain ⟨n1, n2⟩ := notOwned r1.r hd
  exact r1.exn p1 (.fresh hd) (r1.r.h.fresh hd) upd_same n1 n2 ⟨rfl, .cons (q1.ex (.fresh hd)) (.cons .mk_str .nil)⟩
end
end Mp
end
section
set_option Elab.async false
set_option linter.all false
set_option maxRecDepth 100000
set_option maxHeartbeats 4000000
/-! MpTry: try .. except (A, B, C) as e. -/
namespace Mp
open PySem PySem.Spec PyProof.Rows L2

theorem flyingZ_keeps {B h h' : Heap} {l : List Env} {e : Addr} {Z : Obj → Prop} (R : PySem.HandSPX.FlyingZ B l e Z h) (k : ∀ b o, h.get? b = some o → h'.get? b = some o) : PySem.HandSPX.FlyingZ B l e Z h' := by
  obtain ⟨f1, f2, f3, oe, ws, T, oT, ts, he, hc, hd, h1, hn, hne, hT, hdT, h3⟩ := R
  exact ⟨fun b o q => k b o (f1 b o q), f2, f3.of_keeps fun b o q _ => ⟨o, k b o q, rfl⟩, oe, ws, T, oT, ts, k _ _ he, hc, hd, h1, hn, hne, k _ _ hT, hdT, h3⟩
/-- what the clause wishes of an exception of the body: it is of one of the three classes -/
def wAs3 (nn : Nat) (K : PySem.W.Frag) (cs : List Value) (i : Nat) (ts : Addr → Value → Option Addr → TS) (D : Ends) : WX := fun cls d σ H =>
  PySem.W.exmAny K cls cs = some true ∧ ∀ a, H a = none → σ.length = nn → ts a cls d { nx := fun σ' H' => D.nx (σ'.set i none) H', rt := D.rt, bk := fun σ' H' => D.bk (σ'.set i none) H', ct := fun σ' H' => D.ct (σ'.set i none) H' } (σ.set i (some (.ref a))) H
section
variable {X : Cx} {x1 x2 x3 n : Str} {c1 c2 c3 : Value} {i kk : Nat} {body suite : List Stmt} {b₀ : Stmt} {np np2 np3 tpos pos pos' : Pos} {tb : WX → TS} {ts : Addr → Value → Option Addr → TS}
theorem ps_try_as3 (hs : X.stack = X.env :: X.outer) (hf : X.env.frame = some X.env.locals) (hN : X.N.Nodup) (hi : X.N[i]? = some n) (hln : X.env.kindOf n = some .local) (hc1 : Names X x1 c1) (hc2 : Names X x2 c2) (hc3 : Names X x3 c3)
    (hb : ∀ (W : WX) (pn : List (Addr × Obj)) (xe : Value → Shared → Prop), Takes (X.tr pn xe) W → PassesOwn (model X.prog X.w) X.A X.env xe → PSs (X.tr pn xe) body (tb W))
    (hsu : ∀ (a : Addr) (oe : Obj) (cls : Value) (d : Option Addr) (pn : List (Addr × Obj)), Zc cls d oe → (∃ vs, oe.data = .fields vs) → PSs (X.suite a ((a, oe) :: pn)) (b₀ :: suite) (ts a cls d)) :
    PS X (.Try body [.ExceptHandler (some (.Tuple [.Name x1 np, .Name x2 np2, .Name x3 np3] kk tpos)) (some n) (b₀ :: suite) pos'] [] [] pos) (fun D σ H => tb (wAs3 X.N.length X.K [c1, c2, c3] i ts D) D σ H) := by
  refine ⟨fun pins s σ H D I h => ?_⟩
  have ok := I.ok
  have hfr : X.A.frames = some (X.env :: X.outer) := by rw [ok.frames, hs]
  have hloc : Loc X.env.scope n := .inl hln
  refine wpAny_Try_except ?_
  refine wpAny_mono ((hb (wAs3 X.N.length X.K [c1, c2, c3] i ts D) (X.pn ++ pins) (fun e s₁ => wpAny (model X.prog X.w) X.A (noteFrame e X.env) (fun _ s₂ => wpAny (model X.prog X.w) X.A (setFlight e none) (fun _ s₃ =>
    wpAny (model X.prog X.w) X.A (handleBy e X.env [.ExceptHandler (some (.Tuple [.Name x1 np, .Name x2 np2, .Name x3 np3] kk tpos)) (some n) (b₀ :: suite) pos']) (SP X pins D) X.xe s₃) X.xe s₂) X.xe s₁) (fun u s' xx => ?_) PassesOwn.looking).run [] s σ H D (I.toTry _) h) (fun f s1 hsp => ?_) (fun e s1 he => he)
  · -- the catch
    obtain ⟨a, B, sI, pins', σ', H', cls, d, rfl, J', nb, up, sky, na, os, ag, hb1, hyes⟩ := xx
    have J : Inv X pins σ' H' sI := J'.ofTry ok
    have sky' : Sky B (X.env :: X.outer) a (Zc cls d) X.env.locals s'.heap := by rw [← hs]; exact sky
    show wpAny (model X.prog X.w) X.A (noteFrame (.ref a) X.env) _ _ _
    refine Sky.land Zc.steady hfr hf sky' fun h3 fl3 up3 => ?_
    have J3 : Inv X pins σ' H' { s' with heap := h3 } := J.landed nb fl3.1 (up.trans up3) os ag
    obtain ⟨oe3, vs3, he3, hz3, hd3⟩ := fl3.there
    have notFr : ∀ {h : Heap} {o : Obj} {vs : Array Value}, h.FunFrames B (X.env :: X.outer) → h.get? a = some o → o.data = .fields vs → a ∉ frs (X.env :: X.outer) := fun {h o vs} ff e dd hm => by
      obtain ⟨_, o', e', hnf⟩ := ff.mem hm
      rw [e] at e'; cases e'
      exact hnf _ dd
    have nfr := notFr fl3.2.2.1 he3 hd3
    have nL : a ≠ X.env.locals := fun z => nfr (List.mem_filterMap.mpr ⟨X.env, List.mem_cons_self, by rw [hf, z]⟩)
    have nF : a ∉ X.fs := fun hm => by
      obtain ⟨e, he, q⟩ := List.mem_filterMap.mp hm
      exact nfr (List.mem_filterMap.mpr ⟨e, List.mem_cons_of_mem _ he, q⟩)
    have S3 := J3.suite he3 hd3 na nL nF
    refine wpAny_handleBy_cons (codeAny_handlers_test ?_) (by intro q; cases q)
    have test : ∀ {x : Str} {c : Value} {np : Pos} {Q : Value → Shared → Prop} {E : Value → Shared → Prop}, Names X x c → Q c { s' with heap := h3 } → wpAny (model X.prog X.w) (X.A.mark (some (.ref a))) (eval (.Name x np) X.env) Q E { s' with heap := h3 } := fun {x c np Q E} hc q => by
      obtain ⟨hg, hdbg, hm | ⟨hm, hv, hnn⟩⟩ := hc
      · exact ld_glob (X := X.suite a ((a, oe3) :: (X.pn ++ pins))) S3 hg hm q hdbg
      · exact ld_blt (X := X.suite a ((a, oe3) :: (X.pn ++ pins))) S3 hg hm hv q hnn hdbg
    refine wpAny_Tuple ?_
    refine wpAny_items_cons (test hc1 ?_)
    refine wpAny_items_cons (test hc2 ?_)
    refine wpAny_items_cons (test hc3 ?_)
    refine wpAny_items_nil ⟨by size_fits, ?_⟩
    have kp : ∀ q o, h3.get? q = some o → (h3.push { cls := .type "tuple", data := .seq [c1, c2, c3].toArray }).get? q = some o := fun _ _ z => Heap.get?_push_of_some _ z
    have fl3' := flyingZ_keeps fl3 kp
    have up3' : h3.UpToSlots (h3.push { cls := .type "tuple", data := .seq [c1, c2, c3].toArray }) := Heap.UpToSlots.of_keeps kp
    have J3' : Inv X pins σ' H' { s' with heap := h3.push { cls := .type "tuple", data := .seq [c1, c2, c3].toArray } } := J.landed nb fl3'.1 ((up.trans up3).trans up3') os ag
    have LT : PySem.W.Looks (model X.prog X.w) (h3.push { cls := .type "tuple", data := .seq [c1, c2, c3].toArray }) (typeOf (.ref a)) cls := fun A Q E s k q => wpAny_typeOf_ref (k _ _ (kp _ _ he3)) (by rw [hz3.1]; exact q)
    have LM := PySem.W.exm_tup3 (M := model X.prog X.w) (J3'.kIn) LT (Heap.get?_push_size h3 rfl) hb1
    refine LM.here ?_
    refine codeAny_handlers_suite_as ?_
    refine PySem.HandSPX.lands_againZ fl3' fun h4 fl4 up4 => ?_
    have J4 : Inv X pins σ' H' { s' with heap := h4 } := J.landed nb fl4.1 (((up.trans up3).trans up3').trans up4) os ag
    obtain ⟨oe4, vs4, he4, hz4, hd4⟩ := fl4.there
    have S4 := J4.suite he4 hd4 na nL nF
    refine store_ok (X := X.suite a ((a, oe4) :: (X.pn ++ pins))) (v := .ref a) S4 hN hi hloc rfl (fun s5 S5 => ?_) (.inr hln)
    refine wpAny_mono ((hsu a oe4 cls d (X.pn ++ pins) hz4 ⟨_, hd4⟩).run [] s5 _ H' _ S5 (hyes a na J'.len)) (fun f s6 hsp => ?_) (fun _ _ z => False.elim z)
    have end_ : ∀ {σ6 : L2.St} {H6 : Hp} {Q : Shared → Prop}, Inv (X.suite a ((a, oe4) :: (X.pn ++ pins))) [] σ6 H6 s6 → (∀ s7, Inv X pins (σ6.set i none) H6 s7 → Q s7) →
        wpAny (model X.prog X.w) X.A (do bindName X.env n .none; unbindBehindTheSuite X.env n pos') (fun _ s7 => Q s7) X.xe s6 := fun {σ6 H6 Q} S6 hq => gone_ok (S6.unsuite ok) hN hi hln hq
    cases f with
    | next =>
      obtain ⟨σ6, H6, S6, q6⟩ := hsp
      exact end_ S6 fun s7 J7 => ⟨_, _, J7, q6⟩
    | brk =>
      obtain ⟨σ6, H6, S6, q6⟩ := hsp
      exact end_ S6 fun s7 J7 => ⟨_, _, J7, q6⟩
    | cont =>
      obtain ⟨σ6, H6, S6, q6⟩ := hsp
      exact end_ S6 fun s7 J7 => ⟨_, _, J7, q6⟩
    | ret u =>
      obtain ⟨v6, σ6, H6, S6, r6, q6⟩ := hsp
      exact end_ S6 fun s7 J7 => ⟨_, _, _, J7, r6, q6⟩
  · cases f with
    | next =>
      obtain ⟨σ', H', J', q⟩ := hsp
      exact wpAny_execs_nil ⟨σ', H', J'.ofTry ok, q⟩
    | brk =>
      obtain ⟨σ', H', J', q⟩ := hsp
      exact ⟨σ', H', J'.ofTry ok, q⟩
    | cont =>
      obtain ⟨σ', H', J', q⟩ := hsp
      exact ⟨σ', H', J'.ofTry ok, q⟩
    | ret u =>
      obtain ⟨v, σ', H', J', r, q⟩ := hsp
      exact ⟨v, σ', H', J'.ofTry ok, r, q⟩
end
end Mp
end
section
set_option Elab.async false
set_option linter.all false
set_option maxRecDepth 100000
set_option maxHeartbeats 4000000
/-! MpField: a def that reads the fields of the exception that is handled. -/
namespace Mp
open PySem PySem.Spec PyProof.Rows L2

/-- objects stay -/
def ExA (H H' : Hp) : Prop := ∀ b o, H b = some o → H' b = some o
theorem ExA.refl (H : Hp) : ExA H H := fun _ _ h => h
theorem ExA.trans {H H1 H2 : Hp} (a : ExA H H1) (b : ExA H1 H2) : ExA H H2 := fun x o h => b x o (a x o h)
theorem ExA.fresh {H : Hp} {p : Addr} {o : HO} (h : H p = none) : ExA H (upd H p o) := fun b u e => by rw [upd_ne (ne_of_none e h)]; exact e
/-- the class's fields may be read -/
structure Xfs (K : PySem.W.Frag) (C : Addr) (ns : List Str) : Prop where
  xf : XfC K C
  no : ∀ n ∈ ns, PySem.W.findIn K (.ref C) n = some none
section
variable {X : Cx} {a C : Addr} {oe : Obj} {dd : Addr} {e : Expr} {te : TE} {pos : Pos} {n : Str}
/-- e.n, e the handled exception (pinned) -/
theorem pe_xf2 (T : XfC X.K C) (hno : PySem.W.findIn X.K (.ref C) n = some none) (hz : Zc (.ref C) (some dd) oe) (hf : ∃ vs, oe.data = .fields vs) (hp : (a, oe) ∈ X.pn) (he : PE X e te) (hb : attributeBase e n X.env (eval e X.env) = eval e X.env) :
    PE X (.Attribute e n pos) (fun σ H Q => te σ H fun x H1 => x = .ref a ∧ ∃ (fs : List (Str × V)) (v : V), H1 dd = some (.xd fs) ∧ fs.lookup n = some v ∧ Q v H1) := by
  refine ⟨fun pins s σ H Q I h => ?_⟩
  refine attr_of hb (thn (he.run pins s σ H _ I h) fun u s1 hh => ?_)
  obtain ⟨x, H1, I1, rx, ex, fs, v, ea, l, q⟩ := hh
  subst ex
  obtain rfl : u = Value.ref a := rx
  obtain ⟨ha, _⟩ := I1.pin (a, oe) (List.mem_append_left _ hp)
  obtain ⟨vs, hd⟩ := hf
  have hx : ObjOk X.prog X.w H1 s1.heap dd (.xd fs) := I1.hok dd _ ea
  obtain ⟨mA, hns, hr⟩ := hx
  obtain ⟨od, ho, hl⟩ := lookIn_ns hns
  obtain ⟨u, hu, ru⟩ := RelO.some_of (v := v) (o := mA n) (by rw [← l]; exact hr n)
  have J : PySem.W.InstAt s1.heap a oe C (some od) := ⟨ha, hz.1, by unfold PySem.W.notCls; rw [hd] <;> rfl, by rw [hz.2]; exact ho⟩
  exact PySem.HandSPX.exc_get I1.kIn J T.ga T.gg T.exC (PySem.W.findObj_own T.hdC hno rfl (by rw [hl, hu])) (handed_of ru) ⟨v, H1, I1.tok _, ru, q⟩
end
/-- constants -/
def strE : List Expr → Option (List Str)
  | [] => some []
  | .Constant (.str w) _ _ :: r => (strE r).map (w :: ·)
  | _ => none
theorem pa_strE {X : Cx} : ∀ {es : List Expr} {ws : List Str}, strE es = some ws → PA X es (fun _ H Q => Q (ws.map V.str) H)
  | [], ws, h => by
    unfold strE at h
    cases h
    exact pa_nil
  | e :: r, ws, h => by
    unfold strE at h
    split at h
    · rename_i h1
      cases h1
    · rename_i w j p r' h1
      cases h1
      cases q : strE r with
      | none => rw [q] at h; cases h
      | some ws' =>
        rw [q] at h
        cases h
        exact pa_cons pe_str (pa_strE q)
    · cases h
theorem inV_strs (tag : Str) : ∀ ws : List Str, inV (.str tag) (ws.map V.str) = decide (tag ∈ ws)
  | [] => rfl
  | w :: r => by
    unfold inV
    rw [List.map_cons, List.any_cons]
    have h := inV_strs tag r
    unfold inV at h
    rw [h]
    have e : eqV (.str w) (.str tag) = decide (w = tag) := by
      show (w == tag) = _
      rfl
    rw [e]
    by_cases q : w = tag
    · subst q; simp
    · have q' : tag ≠ w := Ne.symm q
      simp [q, q']
theorem flat_strs : ∀ ws : List Str, (ws.map V.str).all flatV = true
  | [] => rfl
  | w :: r => by rw [List.map_cons, List.all_cons, flat_strs r]; rfl
/-- a step 'if e.tag in [..]: return e.f' or 'if e.tag == w: return e.f' -/
def fdStep (ev : Str) : Stmt → Option (List Str × Str)
  | .If (.Compare (.Attribute (.Name x _) t _) [.In] [.List es _] _) [.Return (some (.Attribute (.Name y _) f _)) _] [] _ => if x = ev ∧ t = "tag" ∧ y = ev then (strE es).bind fun ws => if ws.length ≤ 100 then some (ws, f) else none else none
  | .If (.Compare (.Attribute (.Name x _) t _) [.Eq] [.Constant (.str w) _ _] _) [.Return (some (.Attribute (.Name y _) f _)) _] [] _ => if x = ev ∧ t = "tag" ∧ y = ev then some ([w], f) else none
  | _ => none
/-- the last one: return e.f if e.tag == w else None -/
def fdLast (ev : Str) : Stmt → Option (Str × Str)
  | .Return (some (.IfExp (.Compare (.Attribute (.Name x _) t _) [.Eq] [.Constant (.str w) _ _] _) (.Attribute (.Name y _) f _) (.Constant .none _ _) _)) _ => if x = ev ∧ t = "tag" ∧ y = ev then some (w, f) else none
  | _ => none
def fdBody (ev : Str) : List Stmt → Option (List (List Str × Str) × (Str × Str))
  | [] => none
  | [s] => (fdLast ev s).map fun l => ([], l)
  | s :: r => match fdStep ev s, fdBody ev r with
    | some p, some (ps, l) => some (p :: ps, l)
    | _, _ => none
/-- what it gives -/
def fdRunG {A : Type} (non : A) : List (List Str × Str) → (Str × Str) → Str → List (Str × A) → Option A
  | [], (w, f), tag, fs => if tag = w then fs.lookup f else some non
  | (ws, f) :: r, l, tag, fs => if tag ∈ ws then fs.lookup f else fdRunG non r l tag fs
abbrev fdRun : List (List Str × Str) → (Str × Str) → Str → List (Str × V) → Option V := fdRunG .non
def fdNames : List (List Str × Str) → (Str × Str) → List Str
  | [], (_, f) => ["tag", f]
  | (_, f) :: r, l => f :: fdNames r l
theorem tag_in : ∀ (ps : List (List Str × Str)) (l : Str × Str), ("tag" : Str) ∈ fdNames ps l
  | [], (w, f) => List.mem_cons_self ..
  | (ws, f) :: r, l => List.mem_cons_of_mem _ (tag_in r l)
/-- the reading: slot 0 bears the exception -/
def tFd (a dd : Addr) (ps : List (List Str × Str)) (l : Str × Str) : TS := fun D σ H => ∃ fs tag v, σ[0]? = some (some (.ref a)) ∧ H dd = some (.xd fs) ∧ fs.lookup ("tag" : Str) = some (.str tag) ∧ fdRun ps l tag fs = some v ∧ ∀ H', ExA H H' → D.rt v H'
section
variable {X : Cx} {a C : Addr} {oe : Obj} {dd : Addr} {ev : Str}
theorem fd_body (hN : X.N[0]? = some ev) (hv : Vis X.env.scope ev) (hd : (ev == ("__debug__" : Str)) = false) (hcd : (ev == ("__classdict__" : Str)) = false) (hz : Zc (.ref C) (some dd) oe) (hf : ∃ vs, oe.data = .fields vs) (hp : (a, oe) ∈ X.pn) :
    ∀ {b : List Stmt} {ps : List (List Str × Str)} {l : Str × Str}, fdBody ev b = some (ps, l) → Xfs X.K C (fdNames ps l) → PSs X b (tFd a dd ps l)
  | [], _, _, h, _ => by cases h
  | [s], ps, l, h, T => by
    have fld : ∀ {n : Str} {p1 p2 : Pos}, n ∈ fdNames ps l → PE X (.Attribute (.Name ev p1) n p2) (fun σ H Q => ∃ fs v, σ[0]? = some (some (.ref a)) ∧ H dd = some (.xd fs) ∧ fs.lookup n = some v ∧ Q v H) := fun {n p1 p2} hn =>
      PE.imp (pe_xf2 (e := .Name ev p1) T.xf (T.no n hn) hz hf hp (pe_var hN hv hd hcd) rfl) fun σ H Q ⟨fs, v, e0, e1, e2, q⟩ => ⟨.ref a, e0, rfl, fs, v, e1, e2, q⟩
    unfold fdBody fdLast at h
    split at h
    · rename_i x p1 t p2 w j1 p3 p4 y p5 f p6 j2 p7 p8 p9
      split at h
      · rename_i hc
        obtain ⟨rfl, rfl, rfl⟩ := hc
        cases h
        have c1 := pt_cmpR (pos := p4) op_eq (fld (p1 := p1) (p2 := p2) (tag_in [] (w, f))) (pe_str (x := w) (j := j1) (pos := p3)) (nobehind _ (by decide) (by decide))
        have c2 := pss_one (ps_ret (pos := p9) (pe_ifExp (pos := p8) c1 (fld (n := f) (p1 := p5) (p2 := p6) (List.mem_cons_of_mem _ (List.mem_cons_self ..))) (pe_non (j := j2) (pos := p7))))
        refine PSs.imp c2 fun D σ H ⟨fs, tag, v, e0, e1, e2, e3, q⟩ => ?_
        refine ⟨fs, .str tag, e0, e1, e2, rfl, _, rfl, ?_⟩
        unfold fdRunG at e3
        by_cases ht : tag = w
        · rw [if_pos ht] at e3
          rw [show decide (V.str tag = V.str w) = true from decide_eq_true (by rw [ht])]
          exact ⟨fs, v, e0, e1, e3, q H (.refl _)⟩
        · rw [if_neg ht] at e3
          rw [show decide (V.str tag = V.str w) = false from decide_eq_false (fun z => ht (V.str.inj z))]
          cases e3
          exact q H (.refl _)
      · cases h
    · cases h
  | s :: s2 :: r, ps, l, h, T => by
    unfold fdBody at h
    split at h
    · rename_i p ps' l' h1 h2
      cases h
      obtain ⟨ws, f⟩ := p
      have T2 : Xfs X.K C (fdNames ps' l) := ⟨T.xf, fun n hn => T.no n (List.mem_cons_of_mem _ hn)⟩
      have fld : ∀ {n : Str} {p1 p2 : Pos}, n ∈ fdNames ((ws, f) :: ps') l → PE X (.Attribute (.Name ev p1) n p2) (fun σ H Q => ∃ fs v, σ[0]? = some (some (.ref a)) ∧ H dd = some (.xd fs) ∧ fs.lookup n = some v ∧ Q v H) := fun {n p1 p2} hn =>
        PE.imp (pe_xf2 (e := .Name ev p1) T.xf (T.no n hn) hz hf hp (pe_var hN hv hd hcd) rfl) fun σ H Q ⟨fs, v, e0, e1, e2, q⟩ => ⟨.ref a, e0, rfl, fs, v, e1, e2, q⟩
      have rest := fd_body hN hv hd hcd hz hf hp h2 T2
      have st : PS X s (fun D σ H => ∃ fs tag, σ[0]? = some (some (.ref a)) ∧ H dd = some (.xd fs) ∧ fs.lookup ("tag" : Str) = some (.str tag) ∧ (tag ∈ ws → ∃ v, fs.lookup f = some v ∧ ∀ H', ExA H H' → D.rt v H') ∧ (tag ∉ ws → ∀ H', ExA H H' → D.nx σ H')) := by
        unfold fdStep at h1
        split at h1
        · rename_i x p1 t p2 es p3 p4 y p5 f' p6 p7 p8
          split at h1
          · rename_i hc
            obtain ⟨rfl, rfl, rfl⟩ := hc
            cases q : strE es with
            | none => rw [q] at h1; cases h1
            | some ws' =>
              rw [q] at h1
              dsimp only [Option.bind_some] at h1
              split at h1
              rotate_left
              · cases h1
              rename_i hl
              cases h1
              have c1 := pt_cmpR (pos := p4) op_in_seq (fld (p1 := p1) (p2 := p2) (tag_in ((ws, f) :: ps') l)) (pe_lst (pos := p3) (pa_strE q)) rfl
              have c2 := ps_if (pos := p8) c1 (pss_one (ps_ret (pos := p7) (fld (n := f) (p1 := p5) (p2 := p6) (List.mem_cons_self ..)))) pss_nil
              refine PS.imp c2 fun D σ H ⟨fs, tag, e0, e1, e2, y1, y2⟩ => ?_
              refine ⟨fs, .str tag, e0, e1, e2, ?_, fun p hp => ?_⟩
              · rw [List.length_map, sizeLine_eq]
                omega
              have hx : ExA H (upd H p (.lst (ws.map V.str))) := .fresh hp
              refine ⟨p, ws.map V.str, rfl, .inl (.inl (.inl upd_same)), rfl, flat_strs ws, _, rfl, ?_⟩
              rw [if_neg (by decide), inV_strs]
              by_cases ht : tag ∈ ws
              · rw [decide_eq_true ht]
                obtain ⟨v, l1, q1⟩ := y1 ht
                exact ⟨fs, v, e0, hx _ _ e1, l1, q1 _ hx⟩
              · rw [decide_eq_false ht]
                exact y2 ht _ hx
          · cases h1
        · rename_i x p1 t p2 w j3 p3 p4 y p5 f' p6 p7 p8
          split at h1
          · rename_i hc
            obtain ⟨rfl, rfl, rfl⟩ := hc
            cases h1
            have c1 := pt_cmpR (pos := p4) op_eq (fld (p1 := p1) (p2 := p2) (tag_in (([w], f) :: ps') l)) (pe_str (x := w) (j := j3) (pos := p3)) (nobehind _ (by decide) (by decide))
            have c2 := ps_if (pos := p8) c1 (pss_one (ps_ret (pos := p7) (fld (n := f) (p1 := p5) (p2 := p6) (List.mem_cons_self ..)))) pss_nil
            refine PS.imp c2 fun D σ H ⟨fs, tag, e0, e1, e2, y1, y2⟩ => ?_
            refine ⟨fs, .str tag, e0, e1, e2, rfl, _, rfl, ?_⟩
            by_cases ht : tag = w
            · rw [show decide (V.str tag = V.str w) = true from decide_eq_true (by rw [ht])]
              obtain ⟨v, l1, q1⟩ := y1 (by rw [ht]; exact List.mem_cons_self ..)
              exact ⟨fs, v, e0, e1, l1, q1 _ (.refl _)⟩
            · rw [show decide (V.str tag = V.str w) = false from decide_eq_false (fun z => ht (V.str.inj z))]
              exact y2 (fun z => ht (List.mem_singleton.mp z)) _ (.refl _)
          · cases h1
        · cases h1
      refine PSs.imp (pss_cons st rest) fun D σ H ⟨fs, tag, v, e0, e1, e2, e3, q⟩ => ?_
      unfold fdRunG at e3
      refine ⟨fs, tag, e0, e1, e2, fun ht => ?_, fun ht H' hx => ?_⟩
      · rw [if_pos ht] at e3
        exact ⟨v, e3, q⟩
      · rw [if_neg ht] at e3
        exact ⟨fs, tag, v, e0, hx _ _ e1, e2, e3, fun H'' hx' => q H'' (hx.trans hx')⟩
    · cases h
end
end Mp
end
section
set_option Elab.async false
set_option linter.all false
set_option maxRecDepth 100000
set_option maxHeartbeats 4000000
/-! MpWhy: a def that asks what it is given, and tells the exception that comes. -/
namespace Mp
open PySem PySem.Spec PyProof.Rows L2 L2H

/-- a def called while an exception (pinned) is handled, its promise told of the very state -/
theorem run_pin {CX : CXT} {P : Program} {w : World} {K : PySem.W.Frag} {mg : Str → Option Value} {base : Heap} {k : Nat} {f : Addr} {name qual : Str} {params : Arguments} {body : List Stmt} {scope : Scope} {dV kV doc pm cdv ct oc : Value} {an od : Option Addr}
    {osl : Array (Option Value)} {N ps : List Str} (lk : K.lookup f = some ⟨oc, od, .func (PySem.W.fnOf name qual params body scope dV kV doc pm an cdv ct), osl⟩) (hcd : PySem.W.codeIn K cdv qual = true) (S : FnScope N ps scope)
    {A : Around} {outer : List Env} {s : Shared} {H : Hp} {args : Args} {us : List Value} {vs : List V} {Q : VK} {E : XK} {p : Addr × Obj} (hr : RoomH (k + 1) A) (hpin : PinOk outer H s p) (e0 : Env0 P w K mg base A outer s H)
    (hb : BindsTo s (PySem.W.fnOf name qual params body scope dV kV doc pm an cdv ct) args (ps.zip us)) (r : Vals vs us) (hl : vs.length = ps.length)
    (hbody : ∃ t, PSs (cxH CX P w K mg base N qual scope f cdv A outer s H E p) body t ∧ t { nx := fun _ H' => Q .non H', rt := Q } (L2.start N vs) H) :
    codeAny (model P w) A (.call (.ref f) args) (CR CX outer P w H s Q E) s := by
  have KX : K.In s.heap := e0.mod.kin.keeps fun b o e => (e0.bs b o e).1
  have lim : s.heap.NoLimit := e0.mod.nolimit.keeps fun b o e => (e0.bs b o e).1
  have hkind : ∀ y ∈ ps.zip us, scope.names.lookup y.1 = some .local ∨ (scope.names.lookup y.1 = some .cell ∧ ((cellsFrom (s.heap.objs.size + 1) scope.names []).lookup y.1).isSome = true) := fun ⟨n, v⟩ hy => by
    rcases S.par n (List.of_mem_zip hy).1 with q | q
    · exact .inl q
    · exact .inr ⟨q, PySem.W.cellsFrom_some _ _ _ (.inl q)⟩
  refine codeAny_call_function hr.depth (KX _ _ lk) rfl S.co S.gen rfl (PySem.W.codeRec_of KX hcd) (hb _ _ _ _ ?_)
  refine wpAny_newFunctionEnv_cells S.kind hkind fun env he s1 x => ?_
  subst he
  refine ⟨lim.keeps x.toInCall.keep, codeAny_func ?_⟩
  obtain ⟨t, ht, hq⟩ := hbody
  have I : Inv (cxH CX P w K mg base N qual scope f cdv A outer s H E p) [] (L2.start N vs) H s1 := inv_startH S hpin e0 hl r x
  refine wpAny_mono (ht.run [] s1 (L2.start N vs) H _ I hq) (fun fl s' hs => ?_) fun e s' hs => hs
  have fin : ∀ {σ' : L2.St} {H' : Hp} {v : V} {u : Value}, Inv (cxH CX P w K mg base N qual scope f cdv A outer s H E p) [] σ' H' s' → L2.RelV v u → Q v H' → CE outer P w H s Q u s' :=
    fun {σ' H' v u} J rv q => ⟨v, H', J.os, J.bare, J.base, J.hok, rv, q⟩
  cases fl with
  | ret u =>
    obtain ⟨v, σ', H', J, rv, q⟩ := hs
    exact fin J rv q
  | next =>
    obtain ⟨σ', H', J, q⟩ := hs
    exact fin (v := V.non) (u := Value.none) J rfl q
  | brk =>
    obtain ⟨_, _, _, q⟩ := hs
    exact False.elim q
  | cont =>
    obtain ⟨_, _, _, q⟩ := hs
    exact False.elim q
/-- the field reader, at its address -/
structure FdOk (K : PySem.W.Frag) (mg : Str → Option Value) (x : Str) (ps : List (List Str × Str)) (l : Str × Str) : Prop where
  ex : ∃ fa cdv ev N name params body scope dV kV doc pm ct oc an od osl, mg x = some (.ref fa) ∧ PySem.W.keepIn K (.ref fa) = true ∧ K.lookup fa = some ⟨oc, od, .func (PySem.W.fnOf name x params body scope dV kV doc pm an cdv ct), osl⟩ ∧ PySem.W.codeIn K cdv x = true ∧
    FnScope N [ev] scope ∧ L2.Binds K (PySem.W.fnOf name x params body scope dV kV doc pm an cdv ct) [ev] [] ∧ N[0]? = some ev ∧ Vis scope ev ∧ (ev == ("__debug__" : Str)) = false ∧ (ev == ("__classdict__" : Str)) = false ∧ fdBody ev body = some (ps, l)
section
variable {X : Cx} {a C : Addr} {oe : Obj} {dd : Addr} {x n : Str} {ps : List (List Str × Str)} {l : Str × Str} {p1 p2 pos : Pos} {i : Nat}
/-- x(e), e the handled exception -/
theorem pe_fdcall (F : FdOk X.K X.mg x ps l) (T : Xfs X.K C (fdNames ps l)) (hr : RoomH 2 X.A) (hz : Zc (.ref C) (some dd) oe) (hf : ∃ vs, oe.data = .fields vs) (hp : (a, oe) ∈ X.pn) (hg : Gl X x) (hdb : (x == ("__debug__" : Str)) = false)
    (hN : X.N[i]? = some n) (hv : Vis X.env.scope n) (hd : (n == ("__debug__" : Str)) = false) (hcd : (n == ("__classdict__" : Str)) = false) :
    PE X (.Call (.Name x p1) [.Name n p2] [] pos) (fun σ H Q => σ[i]? = some (some (.ref a)) ∧ ∃ fs tag v, H dd = some (.xd fs) ∧ fs.lookup ("tag" : Str) = some (.str tag) ∧ fdRun ps l tag fs = some v ∧ ∀ H', ExA H H' → Q v H') := by
  obtain ⟨fa, cdv, ev, N, name, params, body, scope, dV, kV, doc, pm, ct, oc, an, od, osl, hm, hk, lk, hcode, SC, hb, hN0, hv0, hd0, hcd0, hbody⟩ := F.ex
  refine ⟨fun pins s σ H Q I h => ?_⟩
  obtain ⟨h1, fs, tag, v, e1, e2, e3, q⟩ := h
  refine wpAny_Call_Name_kw (ld_glob I hg hm ?_ hdb)
  refine PySem.W.callWith_K (h₀ := X.base) I.ok.mod.kin hk (thn ((pa_cons (pe_var (pos := p2) (i := i) hN hv hd hcd) pa_nil).run pos pins s σ H (fun vs H1 => vs = [V.ref a] ∧ H1 = H) I ⟨.ref a, h1, rfl, rfl⟩) fun us s1 ⟨vs, H1, I1, r, q1⟩ => ⟨I1.kIn, ?_⟩) rfl rfl
  obtain ⟨ev1, eH⟩ := q1
  subst ev1
  rw [eH] at I1
  show wpAny _ _ (call (.ref fa) us) _ _ _
  have hl : us.length = 1 := by rw [← r.length]; rfl
  have b := hb s1 us I1.kIn (by rw [List.append_nil]; exact hl)
  rw [List.append_nil] at b
  have P1 := I1.pin (a, oe) (List.mem_append_left _ hp)
  have hpin : PinOk X.stack H s1 (a, oe) := ⟨P1.1, P1.2.1, fun hm => (List.mem_cons.mp (I1.stkSub a hm)).elim P1.2.2.1 P1.2.2.2.1, P1.2.2.2.2⟩
  have rc : codeAny (model X.prog X.w) X.A (.call (.ref fa) ⟨us, []⟩) (CR C8.CX0 X.stack X.prog X.w H s1 Q C8.E0) s1 := by
    refine run_pin (k := 1) (N := N) (ps := [ev]) (us := us) (vs := [.ref a]) lk hcode SC hr hpin I1.env0 b r rfl ?_
    refine ⟨_, fd_body (X := cxH C8.CX0 X.prog X.w X.K X.mg X.base N x scope fa cdv X.A X.stack s1 H C8.E0 (a, oe)) hN0 hv0 hd0 hcd0 hz hf (List.mem_cons_self ..) hbody T, ?_⟩
    refine ⟨fs, tag, v, ?_, e1, e2, e3, q⟩
    rfl
  refine wpAny_call (codeAny_mono rc fun r s2 hq => ?_)
  cases r with
  | error e => exact (show False from hq).elim
  | ok fl =>
    cases fl with
    | ret u => exact I1.after hq
    | next => exact False.elim hq
    | brk => exact False.elim hq
    | cont => exact False.elim hq
end
/-- the exception is told: what is wanted at the heap H' where it is caught -/
def WhyX (K : PySem.W.Frag) (cs : List Value) (ps : List (List Str × Str)) (l : Str × Str) (Q : VK) : XK := fun cls d H' =>
  PySem.W.exmAny K cls cs = some true ∧ ∃ C dd fs tag v, cls = .ref C ∧ d = some dd ∧ H' dd = some (.xd fs) ∧ Xfs K C (fdNames ps l) ∧ fs.lookup ("tag" : Str) = some (.str tag) ∧ fdRun ps l tag fs = some v ∧
    ∀ H'' b, ExA H' H'' → H'' b = none → Q (.ref b) (upd H'' b (.tup [.str tag, v]))
def TTwhy (K : PySem.W.Frag) (cs : List Value) (ps : List (List Str × Str)) (l : Str × Str) : (XK → Hp → VK → Prop) → Hp → VK → Prop := fun tl H Q =>
  tl (WhyX K cs ps l Q) H (fun v H' => 2 ≤ sizeLine ∧ ∀ b, H' b = none → Q (.ref b) (upd H' b (.tup [.str "", v])))
/-- the def itself: its body -/
def whyB (a e x1 x2 x3 fx : Str) : List Stmt → Bool
  | [.Try [.Return (some (.Tuple [.Constant (.str z) _ _, .Call (.Name a' _) [] [] _] _ _)) _] [.ExceptHandler (some (.Tuple [.Name y1 _, .Name y2 _, .Name y3 _] _ _)) (some e') [.Return (some (.Tuple [.Attribute (.Name e2 _) t _, .Call (.Name fx' _) [.Name e3 _] [] _] _ _)) _] _] [] [] _] =>
    z == "" && a' == a && y1 == x1 && y2 == x2 && y3 == x3 && e' == e && e2 == e && e3 == e && fx' == fx && t == "tag"
  | _ => false
section
variable {X : Cx}
theorem why_gives {Ng : List Str} {x a e q x1 x2 x3 fx : Str} {sg : Scope} {g : Addr} {cdg c1 c2 c3 : Value} {ps : List (List Str × Str)} {l : Str × Str} {bg : List Stmt} (hB : whyB a e x1 x2 x3 fx bg = true)
    (hn : ∀ Y : Cx, Y.mg = X.mg → Y.env.scope = sg → Names Y x1 c1 ∧ Names Y x2 c2 ∧ Names Y x3 c3 ∧ Gl Y fx) (hfx : (fx == ("__debug__" : Str)) = false) (F : FdOk X.K X.mg fx ps l) (hr : RoomH 3 X.A)
    (hN : Ng.Nodup) (hN0 : Ng[0]? = some a) (hN1 : Ng[1]? = some e) (he : sg.names.lookup e = some .local) (hde : (e == ("__debug__" : Str)) = false) (hce : (e == ("__classdict__" : Str)) = false) (h0 : ∀ f : Addr, (L2.start Ng [V.ref f])[0]? = some (some (V.ref f)))
    (hl1 : 1 < Ng.length) :
    LamX.GivesTo X Ng x sg g cdg bg a q (TTwhy X.K [c1, c2, c3] ps l) := by
  intro f c' s H Q tl act hc h
  unfold whyB at hB
  split at hB
  rotate_left
  · cases hB
  rename_i z j1 q1 a' q2 q3 kq q4 q5 y1 q6 y2 q7 y3 q8 kr q9 e' e2 q10 t q11 fx' q12 e3 q13 q14 kt q15 q16 q17 q18
  simp only [Bool.and_eq_true, beq_iff_eq] at hB
  obtain ⟨⟨⟨⟨⟨⟨⟨⟨⟨rfl, rfl⟩, rfl⟩, rfl⟩, rfl⟩, rfl⟩, rfl⟩, rfl⟩, rfl⟩, rfl⟩ := hB
  obtain ⟨n1, n2, n3, ngl⟩ := hn (cxOf C8.CX0 X.prog X.w X.K X.mg X.base Ng x sg g cdg X.A X.stack s H C8.E0).nox rfl rfl
  have two : 2 ≤ sizeLine := by rw [sizeLine_eq]; decide
  refine ⟨_, pss_one (ps_try_as3 (X := (cxOf C8.CX0 X.prog X.w X.K X.mg X.base Ng x sg g cdg X.A X.stack s H C8.E0).nox) (i := 1)
      (tb := fun W D σ H => ∃ Ech : XK, (∀ cls d σ' H', Ech cls d H' → W cls d σ' H') ∧ σ[0]? = some (some (.ref f)) ∧ H c' = some (LamX.CodeO c' q) ∧ tl Ech H fun v H' => 2 ≤ sizeLine ∧ ∀ b, H' b = none → D.rt (.ref b) (upd H' b (.tup [.str "", v])))
      (ts := fun a cls d D σ H => σ[1]? = some (some (.ref a)) ∧ ∃ C dd fs tag v, cls = .ref C ∧ d = some dd ∧ H dd = some (.xd fs) ∧ Xfs X.K C (fdNames ps l) ∧ fs.lookup ("tag" : Str) = some (.str tag) ∧ fdRun ps l tag fs = some v ∧
        ∀ H'' b, ExA H H'' → H'' b = none → D.rt (.ref b) (upd H'' b (.tup [.str tag, v])))
      rfl rfl hN hN1 he n1 n2 n3 (fun W pn xe tk _ => ?_) (fun a oe cls d pn hz hf => ?_)), ?_⟩
  · refine ⟨fun pins s' σ H' D I h' => ?_⟩
    obtain ⟨Ech, hW, h1, h2, h3⟩ := h'
    have hp := act W pn xe Ech q2 q3 tk hW
    exact (pss_one (ps_ret (pos := q5) (pe_tup (pos := q4) (x1 := kq) (pa_cons (pe_str (x := "") (j := j1) (pos := q1)) (pa_cons hp pa_nil))))).run pins s' σ H' D I ⟨h1, h2, h3⟩
  · refine ⟨fun pins s' σ H' D I h' => ?_⟩
    obtain ⟨e1, C, dd, fs, tag, v, rfl, rfl, e2, T, e3, e4, qq⟩ := h'
    have rr : RoomH 2 ((cxOf C8.CX0 X.prog X.w X.K X.mg X.base Ng x sg g cdg X.A X.stack s H C8.E0).nox.suite a ((a, oe) :: pn)).A := by
      have r1 := hr.deeper (envOfC x sg s.heap.objs.size g cdg)
      exact ⟨r1.dp, r1.un⟩
    have p1 := pe_xf2 (X := (cxOf C8.CX0 X.prog X.w X.K X.mg X.base Ng x sg g cdg X.A X.stack s H C8.E0).nox.suite a ((a, oe) :: pn)) (pos := q11) T.xf (T.no "tag" (tag_in ps l)) hz hf (List.mem_cons_self ..) (pe_var (pos := q10) (i := 1) hN1 (.inl he) hde hce) rfl
    have p2 := pe_fdcall (X := (cxOf C8.CX0 X.prog X.w X.K X.mg X.base Ng x sg g cdg X.A X.stack s H C8.E0).nox.suite a ((a, oe) :: pn)) (p1 := q12) (p2 := q13) (pos := q14) F T rr hz hf (List.mem_cons_self ..) ngl hfx hN1 (.inl he) hde hce
    exact (pss_one (ps_ret (pos := q16) (pe_tup (pos := q15) (x1 := kt) (pa_cons p1 (pa_cons p2 pa_nil))))).run pins s' σ H' D I
      ⟨.ref a, e1, rfl, fs, .str tag, e2, e3, e1, fs, tag, v, e2, e3, e4, fun H'' hx => ⟨two, fun b hb => qq H'' b hx hb⟩⟩
  · refine ⟨_, fun cls d σ' H' hx => ⟨hx.1, fun a ha hlen => ?_⟩, h0 f, hc, h⟩
    refine ⟨?_, hx.2⟩
    rw [List.getElem?_set_self (by rw [hlen]; exact hl1)]
end
end Mp
end
section
set_option Elab.async false
set_option linter.all false
set_option maxRecDepth 100000
set_option maxHeartbeats 4000000
/-! MpWhyS: asking, in the layer. -/
namespace Mp
open PySem PySem.Spec PyProof.Rows L2 L2H

section
variable {S : Sta} {ow : Addr → Prop} {io : List Addr} {H : Hp}
theorem lookup_rv {f : Str} : ∀ {ns : List Str} {ds : List Mp.D} {fs : List (Str × V)} {d : Mp.D}, fs.map (·.1) = ns → RVs S ow io H ds (fs.map (·.2)) → (ns.zip ds).lookup f = some d → ∃ v, fs.lookup f = some v ∧ RV S ow io H d v
  | ns, ds, [], d, h1, h2, h => by
    subst h1
    cases h
  | ns, ds, (g, v) :: fs, d, h1, h2, h => by
    subst h1
    rw [List.map_cons] at h h2
    cases ds with
    | nil => cases h
    | cons d0 ds =>
      unfold RVs at h2
      obtain ⟨v', r', e, q1, q2⟩ := h2
      cases e
      rw [List.zip_cons_cons] at h
      by_cases hg : f = g
      · subst hg
        rw [lookup_hd] at h ⊢
        cases h
        exact ⟨v, rfl, q1⟩
      · rw [lookup_tl _ _ hg] at h ⊢
        exact lookup_rv rfl q2 h
theorem fdRun_rv {ns : List Str} {ds : List Mp.D} {fs : List (Str × V)} {tag : Str} (h1 : fs.map (·.1) = ns) (h2 : RVs S ow io H ds (fs.map (·.2))) : ∀ {ps : List (List Str × Str)} {l : Str × Str} {d : Mp.D}, fdRunG .non ps l tag (ns.zip ds) = some d → ∃ v, fdRun ps l tag fs = some v ∧ RV S ow io H d v
  | [], (w, f), d, h => by
    unfold fdRun
    unfold fdRunG at h ⊢
    by_cases q : tag = w
    · rw [if_pos q] at h ⊢
      exact lookup_rv h1 h2 h
    · rw [if_neg q] at h ⊢
      cases h
      exact ⟨_, rfl, .mk_non⟩
  | (ws, f) :: r, l, d, h => by
    unfold fdRun
    unfold fdRunG at h ⊢
    by_cases q : tag ∈ ws
    · rw [if_pos q] at h ⊢
      exact lookup_rv h1 h2 h
    · rw [if_neg q] at h ⊢
      exact fdRun_rv h1 h2 h
end
/-- what an exception is told as -/
structure WhyOk (S : Sta) (cs : List Value) (ps : List (List Str × Str)) (l : Str × Str) (wd : Exn → Option Mp.D) : Prop where
  ok : ∀ x d, wd x = some d → PySem.W.exmAny S.K (.ref (S.ca x.c)) cs = some true ∧ Xfs S.K (S.ca x.c) (fdNames ps l) ∧ ∃ tag dv, ((x.ns.map S.nm).zip x.ds).lookup ("tag" : Str) = some (.str tag) ∧ fdRunG .non ps l tag ((x.ns.map S.nm).zip x.ds) = some dv ∧ d = .tup [.str tag, dv]
def whyF (wd : Exn → Option Mp.D) (fb : Fe) : Fe := fun fr m => whyR wd (fb fr m)
theorem exN {io : List Addr} {H H1 : Hp} (e : LamX.ExtN H H1) (d : ∀ a, NT H1 a → NT H a) : Ex io H io H1 := ⟨List.prefix_refl _, fun _ h n => absurd h n, fun a o h s _ => e a o h fun ps z => by rw [z] at s; exact s, d⟩
theorem extN_nt {H H1 : Hp} (e : LamX.ExtN H H1) (a : Addr) (n : NT H1 a) : NT H a := fun u h s => n u (e a u h fun ps z => by rw [z] at s; exact s) s
theorem RH.extN {S : Sta} {ow : Addr → Prop} {io : List Addr} {H H1 : Hp} {m : MH} (h : RH S ow io H m) (e : LamX.ExtN H H1) (t : LamX.Tabs S.tb H1) : RH S ow io H1 m where
  tab := t
  len := h.len
  nd := h.nd
  at_ := fun n u q => by
    obtain ⟨a, e1, e2, e3⟩ := h.at_ n u q
    have x : Ex io H io H1 := exN e (extN_nt e)
    refine ⟨a, e1, ?_, e3⟩
    have kp : ∀ o, H a = some o → sol o → H1 a = some o := fun o h s => e a o h fun ps z => by rw [z] at s; exact s
    cases u with
    | lst xs => obtain ⟨vs, e, q⟩ := e2; exact ⟨vs, kp _ e True.intro, q.ex x⟩
    | dct ks xs => obtain ⟨kvs, e, q1, q⟩ := e2; exact ⟨kvs, kp _ e True.intro, q1, q.ex x⟩
    | ins C ns ds => obtain ⟨dx, fs, e, q1, q⟩ := e2; exact ⟨dx, fs, kp _ e True.intro, q1, q.ex x⟩
theorem extA_ex {io : List Addr} {H H1 : Hp} (e : ExA H H1) : Ex io H io H1 := ⟨List.prefix_refl _, fun _ h n => absurd h n, fun a o h _ _ => e a o h, fun a n u h s => n u (e a u h) s⟩
theorem RH.extA {S : Sta} {ow : Addr → Prop} {io : List Addr} {H H1 : Hp} {m : MH} (h : RH S ow io H m) (e : ExA H H1) : RH S ow io H1 m := h.extN (fun b o q _ => e b o q) (h.tab.ext e)
/-- the reading: asked and told -/
theorem why_tell {S : Sta} {W : WX} {cs : List Value} {ps : List (List Str × Str)} {l : Str × Str} {wd : Exn → Option Mp.D} {fb : Fe} {X : Cx} (ov : Ov S X) (wo : WhyOk S cs ps l wd) {σ : L2.St} {H : Hp} {Q : VK} (h : tR S W (whyF wd fb) σ H Q) :
    LamX.tLam S.tb (TTwhy X.K cs ps l) (fun E => tR S (fun c d _ H' => E c d H') fb) σ H Q := by
  obtain ⟨ow, io, fr, m, rp, p⟩ := h
  refine ⟨rp.h.tab, fun H1 eN T1 => ?_⟩
  have x1 : Ex io H io H1 := exN eN (extN_nt eN)
  have rh1 : RH S ow io H1 m := rp.h.extN eN T1
  refine ⟨ow, io, fr, m, rp.ex x1 rh1, ?_⟩
  have p := p.move x1
  have two : 2 ≤ sizeLine := by rw [sizeLine_eq]; decide
  unfold whyF whyR at p
  cases q : fb fr m with
  | bad => rw [q] at p; exact p
  | ok d m1 =>
    rw [q] at p
    intro io2 H2 v x2 r2 v2
    refine ⟨two, fun b hb => ?_⟩
    have n2 : b ∉ io2 ∧ ¬ ow b := ⟨fun z => (r2.mem z).1 (.of hb), fun z => rp.o b z (x1.dom b (x2.dom b (.of hb)))⟩
    exact p io2 _ _ (x2.trans (.fresh hb)) (r2.fresh hb) (.mk_tup hb n2 (.cons .mk_str (.cons v2 .nil)))
  | exc x m1 =>
    rw [q] at p
    dsimp only at p
    cases qd : wd x with
    | none => rw [qd] at p; exact p.elim
    | some d =>
      rw [qd] at p
      obtain ⟨w1, w2, tag, dv, w3, w4, rfl⟩ := wo.ok x d qd
      intro io2 H2 dx fs x2 r2 e2 n2 nw rf
      obtain ⟨f1, f2⟩ := rf
      obtain ⟨vt, l1, rt⟩ := lookup_rv f1 f2 w3
      obtain ⟨vv, l2, rv⟩ := fdRun_rv f1 f2 w4
      cases rt.of_str
      rw [ov.K]
      refine ⟨w1, S.ca x.c, dx, fs, tag, vv, rfl, rfl, e2, w2, l1, l2, fun H'' b hA hb => ?_⟩
      have x3 : Ex io2 H2 io2 H'' := extA_ex hA
      have n3 : b ∉ io2 ∧ ¬ ow b := ⟨fun z => ((r2.extA hA).mem z).1 (.of hb), fun z => rp.o b z (x1.dom b (x2.dom b (x3.dom b (.of hb))))⟩
      exact p io2 _ _ ((x2.trans x3).trans (.fresh hb)) ((r2.extA hA).fresh hb) (.mk_tup hb n3 (.cons .mk_str (.cons (rv.ex x3) .nil)))
/-- the asking def x, in the text's top -/
structure WhyDef (S : Sta) (x : Str) (wd : Exn → Option Mp.D) : Prop where
  ex : ∃ (g : Addr) (a e x1 x2 x3 fx : Str) (pg : Arguments) (bg : List Stmt) (sg : Scope) (dV kV doc pm cdv ct oc c1 c2 c3 : Value) (an od : Option Addr) (osl : Array (Option Value)) (Ng : List Str) (ps : List (List Str × Str)) (l : Str × Str),
    S.mg x = some (.ref g) ∧ PySem.W.keepIn S.K (.ref g) = true ∧ S.K.lookup g = some ⟨oc, od, .func (PySem.W.fnOf x x pg bg sg dV kV doc pm an cdv ct), osl⟩ ∧ PySem.W.codeIn S.K cdv x = true ∧ L2.Binds S.K (PySem.W.fnOf x x pg bg sg dV kV doc pm an cdv ct) [a] [] ∧ FnScope Ng [a] sg ∧
    Ng = [a, e] ∧ (a == e) = false ∧ Vis sg a ∧ (a == ("__debug__" : Str)) = false ∧ (a == ("__classdict__" : Str)) = false ∧ whyB a e x1 x2 x3 fx bg = true ∧
    (sg.names.lookup x1 = some .globalImplicit ∧ (x1 == ("__debug__" : Str)) = false ∧ S.mg x1 = some c1) ∧ (sg.names.lookup x2 = some .globalImplicit ∧ (x2 == ("__debug__" : Str)) = false ∧ S.mg x2 = some c2) ∧ (sg.names.lookup x3 = some .globalImplicit ∧ (x3 == ("__debug__" : Str)) = false ∧ S.mg x3 = some c3) ∧
    sg.names.lookup fx = some .globalImplicit ∧ (fx == ("__debug__" : Str)) = false ∧ FdOk S.K S.mg fx ps l ∧ sg.names.lookup e = some .local ∧ (e == ("__debug__" : Str)) = false ∧ (e == ("__classdict__" : Str)) = false ∧ WhyOk S [c1, c2, c3] ps l wd
section
variable {X : Cx} {S : Sta} {W : WX}
theorem se_why {wd : Exn → Option Mp.D} {x : Str} {k : Nat} {c P : Addr} {params : Arguments} {body : Expr} {scope : Scope} {fb : Fe} {p lpos pos : Pos} (ov : Ov S X) (wo : WhyDef S x wd) (hr : Room (k + 2) X.A) (hk : 1 ≤ k) (hg : Gl X x) (hdb : (x == ("__debug__" : Str)) = false)
    (TB : LamX.TabB X.base X.mg c P) (hcode : X.env.code = .ref c) (hmT : (P, X.env.qual ++ "<lambda>") ∈ S.tb) (hu : ∀ q ∈ S.tb, q.1 = P → q.2 = X.env.qual ++ "<lambda>") (L : LamX.LamS X.env.scope scope) (hdef : defaultsOf params X.env = ([], []))
    (hbind : ∀ (q : Str) (cl : List (Str × Addr)) (pm cv ctv : Value), bindArgs (PySem.W.kla_fn "<lambda>" q params body scope cl pm cv ctv) ⟨[], []⟩ = pure [])
    (hbody : ∀ (A : Around) (outer : List Env) (s : Shared) (H : Hp) (E : XK) (f c' : Addr), Room k (A.deeper (LamX.lamEnv X scope s.heap.objs.size f c')) → SE (LamX.lamCx X A outer s H E scope f c') S (fun c d _ H' => E c d H') body fb) :
    SE X S W (.Call (.Name x p) [.Lambda params body scope lpos] [] pos) (whyF wd fb) := by
  obtain ⟨g, a, e, x1, x2, x3, fx, pg, bg, sg, dV, kV, doc, pm, cdv, ct, oc, c1, c2, c3, an, od, osl, Ng, ps, l, h1, h2, h3, h4, h5, h6, hNg, hae, hva, hda, hca, hB, hx1, hx2, hx3, hfx, hfd, hF, he, hde, hce, hW⟩ := wo.ex
  subst hNg
  rw [← ov.mg] at h1 hx1 hx2 hx3
  rw [← ov.K] at h2 h3 h4 h5
  have r3 : RoomH 3 X.A := (roomH_of hr).mono (by omega)
  have gv : LamX.GivesTo X [a, e] x sg g cdv bg a (X.env.qual ++ "<lambda>") (TTwhy X.K [c1, c2, c3] ps l) := by
    refine why_gives hB (fun Y hY hs => ?_) hfd (by rw [ov.K, ov.mg]; exact hF) r3 ?_ rfl rfl he hde hce (fun _ => rfl) (by simp)
    · have gl : ∀ {y : Str}, sg.names.lookup y = some .globalImplicit → Gl Y y := fun {y} q => by
        show Y.env.scope.names.lookup y = _
        rw [hs]
        exact q
      exact ⟨⟨gl hx1.1, hx1.2.1, .inl (by rw [hY]; exact hx1.2.2)⟩, ⟨gl hx2.1, hx2.2.1, .inl (by rw [hY]; exact hx2.2.2)⟩, ⟨gl hx3.1, hx3.2.1, .inl (by rw [hY]; exact hx3.2.2)⟩, gl hfx⟩
    · have hne : a ≠ e := fun z => by
        rw [z] at hae
        simp at hae
      simp [hne]
  refine PE.imp (LamX.pe_lamcall (t := fun E => tR S (fun c d _ H' => E c d H') fb) (k := k) hg h1 h2 h3 h4 h5 h6 rfl hva gv TB hcode hmT hu hr L hdef hbind hbody hdb hda hca) fun σ H Q h => why_tell ov hW h
end
end Mp
end
section
set_option Elab.async false
set_option linter.all false
set_option maxRecDepth 100000
set_option maxHeartbeats 2000000
/-! MpMore: slices, isinstance, constants of the top. -/
namespace Mp
open PySem PySem.Spec PyProof.Rows L2

section
variable {X : Cx} {S : Sta} {W : WX} {a b : Expr} {fa fl fh : Fe} {pos p2 : Pos}
/-! ### slices -/
theorem cut_rv {ow : Addr → Prop} {io : List Addr} {H : Hp} {xs : List Mp.D} {vs : List V} (h : RVs S ow io H xs vs) (lo hi : Option Int) : RVs S ow io H (cutD xs lo hi) (cutV vs lo hi) := by
  unfold cutD cutV
  rw [h.length]
  exact (h.drop _).take _
/-- a part of a slice: nothing, or an int -/
def tO (S : Sta) (W : WX) (f : Fe) : TO := fun σ H Q => ∃ ow io fr m, Rp S ow io H fr m σ ∧ (match f fr m with
  | .ok d m' => ∀ io' H', Ex io H io' H' → RH S ow io' H' m' → match optI d with | some o => Q o H' | none => False
  | .exc x m' => ∀ io' H' dx fs, Ex io H io' H' → RH S ow io' H' m' → H' dx = some (.xd fs) → dx ∉ io' → ¬ ow dx → RFs S ow io' H' x.ns x.ds fs → W (.ref (S.ca x.c)) (some dx) σ H'
  | .bad => False)
theorem so_none : PO X none (tO S W fun _ m => .ok .non m) := by
  refine ⟨fun pins s σ H Q I ⟨ow, io, fr, m, rp, p⟩ => po_none.run pins s σ H Q I ?_⟩
  exact p io H (.refl _ _) rp.h
def prtF (f : Fe) : Fe := fun fr m => (f fr m).bind fun x m1 => match x with | .int i => .ok (.int i) m1 | _ => .bad
theorem so_some (h : SE X S W a fa) : PO X (some a) (tO S W (prtF fa)) := by
  refine ⟨fun pins s σ H Q I ⟨ow, io, fr, m, rp, p⟩ => (po_some h).run pins s σ H Q I ?_⟩
  refine ⟨ow, io, fr, m, rp, ?_⟩
  unfold prtF at p
  cases q : fa fr m with
  | bad => rw [q] at p; exact p
  | exc x m1 => rw [q] at p; exact p
  | ok d m1 =>
    rw [q] at p
    intro io1 H1 v x1 r1 v1
    dsimp only [R.ok_bind] at p
    cases d with
    | int i =>
      cases v1.of_int
      exact ⟨i, rfl, p io1 H1 x1 r1⟩
    | _ => exact p.elim
def slF (fa fl fh : Fe) : Fe := fun fr m => (fa fr m).bind fun x m1 => (fl fr m1).bind fun l m2 => match optI l with
  | some l => (fh fr m2).bind fun h m3 => match optI h with
    | some h => optR (slD x l h) m3
    | none => .bad
  | none => .bad
theorem PostO.seq {ow : Addr → Prop} {io : List Addr} {H : Hp} {σ : L2.St} {Q : VK} {fr : Fr} {m : MH} {f : Fe} {k : Option Int → MH → R Mp.D} {Q1 : Option Int → Hp → Prop} (rp : Rp S ow io H fr m σ) (p : Post S W ow io H σ Q ((f fr m).bind fun l m2 => match optI l with | some l => k l m2 | none => .bad))
    (st : ∀ o m1 io1 H1, Ex io H io1 H1 → RH S ow io1 H1 m1 → Post S W ow io1 H1 σ Q (k o m1) → Q1 o H1) : tO S W f σ H Q1 := by
  refine ⟨ow, io, fr, m, rp, ?_⟩
  cases q : f fr m with
  | bad => rw [q] at p; exact p
  | exc y m2 => rw [q] at p; exact p
  | ok l m2 =>
    rw [q] at p
    intro io2 H2 x2 r2
    have p : Post S W ow io H σ Q (match optI l with | some l => k l m2 | none => .bad) := p
    cases ql : optI l with
    | none => rw [ql] at p; exact p.elim
    | some l' => rw [ql] at p; exact st l' m2 io2 H2 x2 r2 (p.move x2)
theorem se_sl {lo hi : Option Expr} (ov : Ov S X) (ha : SEo X S W a fa) (hl : PO X lo (tO S W fl)) (hh : PO X hi (tO S W fh)) : SE X S W (.Subscript a (.Slice lo hi none p2) pos) (slF fa fl fh) := by
  refine PE.imp (pe_slice (SlR.or sl_list (SlR.or sl_tupA sl_str)) ha hl hh) fun σ H Q ⟨ow, io, fr, m, rp, p⟩ => ?_
  unfold slF at p
  refine ⟨ow, io, fr, m, rp, p.seqO fun x m1 io1 H1 v x1 r1 v1 p1 => ?_⟩
  have rp1 := rp.ex x1 r1
  refine PostO.seq (k := fun l m2 => (fh fr m2).bind fun h m3 => match optI h with | some h => optR (slD x l h) m3 | none => .bad) rp1 p1 fun l m2 io2 H2 x2 r2 p2 => ?_
  have rp2 := rp1.ex x2 r2
  refine PostO.seq (k := fun h m3 => optR (slD x l h) m3) rp2 p2 fun h m3 io3 H3 x3 r3 p3 => ?_
  have rp3 := rp2.ex x3 r3
  have v3 := (v1.ex x2).ex x3
  rw [ov.K]
  unfold slD at p3
  split at p3
  · obtain ⟨p, vs, rfl, h1, h2⟩ := v3.of_lst
    exact .inl ⟨p, vs, rfl, .inl (.inl h1), fun b hb => p3.laid r3 hb (.mk_lst hb (notOwned rp3 hb) (cut_rv h2 _ _))⟩
  · obtain ⟨p, vs, rfl, h1, h2⟩ := v3.of_fz
    exact .inl ⟨p, vs, rfl, h1, fun b hb => p3.laid r3 hb (.mk_lst hb (notOwned rp3 hb) (cut_rv h2 _ _))⟩
  · rename_i xs
    have v4 := v3
    unfold RVo RV at v3
    obtain ⟨p, vs, rfl, h1, h2⟩ := v3
    refine .inr (.inl ⟨p, vs, rfl, h1.imp (fun z => z.1) id, fun hw => ?_, fun hw b hb => p3.laid r3 hb (.mk_tup hb (notOwned rp3 hb) (cut_rv h2 _ _))⟩)
    have e : cutD xs l h = xs := by
      unfold cutD
      rw [h2.length, hw.1, hw.2]
      rw [← h2.length]
      simp
    rw [e] at p3
    exact p3.here r3 v4
  · split at p3
    · rename_i hz
      cases v3.of_str
      exact .inr (.inr ⟨_, rfl, hz, p3.here r3 .mk_str⟩)
    · exact p3.elim
  · exact p3.elim
/-! ### isinstance -/
def tyName : Ty → String
  | .int => "int" | .bool => "bool" | .str => "str" | .list => "list" | .tuple => "tuple" | .dict => "dict" | .cls _ => "object"
def tyPl : Ty → Bool
  | .cls _ => false
  | _ => true
theorem isTy_ok {ow : Addr → Prop} {io : List Addr} {H : Hp} {x : Mp.D} {v : V} {m : MH} {t0 : Ty} {r0 : Bool} (rh : RH S ow io H m) (h : RV S ow io H x v) (e0 : isTy x m t0 = some r0) : ∃ tn : String, TyX S.K H v (.type tn) ∧ ∀ t r, isTy x m t = some r → kitB tn (tyName t) = some r := by
  cases x with
  | non =>
    cases h.of_non
    refine ⟨_, .base .non, fun t r e => ?_⟩
    cases t <;> first | (cases e; done) | (cases e; rfl) | (cases e; decide +kernel)
  | bl b =>
    cases h.of_bl
    refine ⟨_, .base (.bl b), fun t r e => ?_⟩
    cases t <;> first | (cases e; done) | (cases e; rfl) | (cases e; decide +kernel)
  | int b =>
    cases h.of_int
    refine ⟨_, .base (.int b), fun t r e => ?_⟩
    cases t <;> first | (cases e; done) | (cases e; rfl) | (cases e; decide +kernel)
  | str b =>
    cases h.of_str
    refine ⟨_, .base (.str b), fun t r e => ?_⟩
    cases t <;> first | (cases e; done) | (cases e; rfl) | (cases e; decide +kernel)
  | tup xs =>
    unfold RV at h
    obtain ⟨p, vs, rfl, h1, h2⟩ := h
    refine ⟨"tuple", ?_, fun t r e => ?_⟩
    · rcases h1 with ⟨h1 | ⟨o, h1⟩, _, _⟩ | ⟨o, its, n, k1, k2, _⟩
      · exact .base (.tup h1)
      · exact .fTuple h1
      · exact .kTuple k1 k2
    · cases t <;> first | (cases e; done) | (cases e; rfl) | (cases e; decide +kernel)
  | lst xs =>
    unfold RV at h
    obtain ⟨p, vs, rfl, h1, h2⟩ := h
    refine ⟨"list", .base (.lst h1.1), fun t r e => ?_⟩
    cases t <;> first | (cases e; done) | (cases e; rfl) | (cases e; decide +kernel)
  | fz xs =>
    unfold RV at h
    obtain ⟨p, vs, rfl, h1, h2⟩ := h
    refine ⟨"list", ?_, fun t r e => ?_⟩
    · rcases h1 with ⟨h1 | ⟨o, h1⟩, _, _⟩ | ⟨o, its, n, k1, k2, _⟩
      · exact .base (.lst h1)
      · exact .base (.frz h1)
      · exact .kList k1 k2
    · cases t <;> first | (cases e; done) | (cases e; rfl) | (cases e; decide +kernel)
  | dct ks xs =>
    unfold RV at h
    obtain ⟨p, kvs, rfl, h1, h2⟩ := h
    refine ⟨"dict", .base (.dK h1.1), fun t r e => ?_⟩
    cases t <;> first | (cases e; done) | (cases e; rfl) | (cases e; decide +kernel)
  | ins C ns ds => cases t0 <;> cases e0
  | cls C => cases t0 <;> cases e0
  | ref n =>
    cases q : m[n]? with
    | none => cases t0 <;> simp [isTy, q] at e0
    | some o =>
      obtain ⟨a, rfl, ea, ro⟩ := h.of_ref rh q
      cases o with
      | lst xs =>
        obtain ⟨vs, h1, h2⟩ := ro
        refine ⟨"list", .base (.lst h1), fun t r e => ?_⟩
        cases t <;> simp [isTy, q] at e <;> subst e <;> first | rfl | decide +kernel
      | dct ks xs =>
        obtain ⟨kvs, h1, h2⟩ := ro
        refine ⟨"dict", .base (.dK h1), fun t r e => ?_⟩
        cases t <;> simp [isTy, q] at e <;> subst e <;> first | rfl | decide +kernel
      | ins C ns ds => cases t0 <;> simp [isTy, q] at e0
theorem isTys_ok {ow : Addr → Prop} {io : List Addr} {H : Hp} {x : Mp.D} {v : V} {m : MH} (rh : RH S ow io H m) (h : RV S ow io H x v) : ∀ {ts : List Ty} {r : Bool}, ts ≠ [] → isTys x m ts = some r → ∃ tn : String, TyX S.K H v (.type tn) ∧ PySem.W.kitAny S.K (.type tn) (ts.map fun t => Value.type (tyName t)) = some r
  | [], _, n, _ => absurd rfl n
  | t :: ts, r, _, e => by
    have e' := e
    unfold isTys at e'
    cases q : isTy x m t with
    | none => rw [q] at e'; cases e'
    | some b =>
      obtain ⟨tn, h1, h2⟩ := isTy_ok rh h q
      refine ⟨tn, h1, ?_⟩
      have go : ∀ {us : List Ty} {r : Bool}, isTys x m us = some r → PySem.W.kitAny S.K (.type tn) (us.map fun t => Value.type (tyName t)) = some r := by
        intro us
        induction us with
        | nil =>
          intro r e
          unfold isTys at e
          cases e
          rfl
        | cons u us ih =>
          intro r e
          unfold isTys at e
          cases q2 : isTy x m u with
          | none => rw [q2] at e; cases e
          | some b2 =>
            rw [q2] at e
            rw [List.map_cons]
            refine kitAny_cons (kit_ty (h2 u b2 q2)) (fun hb => ?_) (fun hb => ?_)
            · subst hb
              exact ih e
            · subst hb
              cases e
              rfl
      exact go e
def isiF (fa : Fe) (ts : List Ty) : Fe := fun fr m => (fa fr m).bind fun x m1 => optR ((isTys x m1 ts).map .bl) m1
/-- the classes named -/
theorem pa_tys : ∀ {es : List Expr} {ts : List Ty}, Paired (fun e t => ∃ x p, e = Expr.Name x p ∧ Gl X x ∧ X.mg x = none ∧ bootBuiltins x = some (.type (tyName t)) ∧ x ≠ "__name__" ∧ (x == ("__debug__" : Str)) = false) es ts → PA X es (fun _ H Q => Q (ts.map fun t => V.ty (tyName t)) H)
  | _, _, .nil => pa_nil
  | _, _, .cons ⟨x, p, rfl, hg, hm, hv, hn, hd⟩ t => pa_cons (pe_bltn hg hm hv (v := V.ty _) rfl hn hd) (pa_tys t)
theorem clsV_tys : ∀ ts : List Ty, Paired ClsV (ts.map fun t => V.ty (tyName t)) (ts.map fun t => Value.type (tyName t))
  | [] => .nil
  | t :: ts => .cons (.ty _) (clsV_tys ts)
theorem boot_isi : bootBuiltins "isinstance" = some (.builtin "isinstance") := by decide +kernel
/-- isinstance(e, T) -/
theorem se_isi1 {p p3 : Pos} {t : Ty} {x : Str} (ov : Ov S X) (hg : Gl X "isinstance") (hm : X.mg "isinstance" = none) (ha : SE X S W a fa) (hn : nst a = true) (hx : Gl X x ∧ X.mg x = none ∧ bootBuiltins x = some (.type (tyName t)) ∧ x ≠ "__name__" ∧ (x == ("__debug__" : Str)) = false) :
    SE X S W (.Call (.Name "isinstance" p) [a, .Name x p3] [] pos) (isiF fa [t]) := by
  obtain ⟨hgx, hmx, hvx, hnx, hdx⟩ := hx
  refine PE.imp (pe_callB call_isi hg hm boot_isi (pa_cons ha (pa_cons (pe_bltn hgx hmx hvx (v := V.ty _) rfl hnx hdx) pa_nil) (starEach_ns hn)) (by decide) (by decide) (starEach_ns hn) rfl) fun σ H Q ⟨ow, io, fr, m, rp, p⟩ => ?_
  refine ⟨ow, io, fr, m, rp, ?_⟩
  unfold isiF at p
  refine p.seq fun x m1 io1 H1 v x1 r1 v1 p1 => ?_
  cases q : isTys x m1 [t] with
  | none => rw [q] at p1; exact p1.elim
  | some r =>
    rw [q] at p1
    obtain ⟨tn, h1, h2⟩ := isTys_ok r1 v1 (by simp) q
    rw [List.map_cons, List.map_nil] at h2
    refine ⟨v, _, _, _, r, rfl, .ty _, by rw [ov.K]; exact h1, ?_, p1.here r1 .mk_bl⟩
    rw [ov.K]
    unfold PySem.W.kitAny at h2
    cases q3 : PySem.W.kitOne S.K (.type tn) (.type (tyName t)) with
    | none => rw [q3] at h2; cases h2
    | some b => rw [q3] at h2; cases b <;> (cases h2; rfl)
/-- isinstance(e, (T, ..)) -/
theorem se_isi2 {p p3 : Pos} {kt : Nat} {es : List Expr} {ts : List Ty} (ov : Ov S X) (hg : Gl X "isinstance") (hm : X.mg "isinstance" = none) (ha : SE X S W a fa) (hn : nst a = true) (hne : ts ≠ []) (hl : ts.length ≤ 100)
    (hx : Paired (fun e t => ∃ x p, e = Expr.Name x p ∧ Gl X x ∧ X.mg x = none ∧ bootBuiltins x = some (.type (tyName t)) ∧ x ≠ "__name__" ∧ (x == ("__debug__" : Str)) = false) es ts) :
    SE X S W (.Call (.Name "isinstance" p) [a, .Tuple es kt p3] [] pos) (isiF fa ts) := by
  refine PE.imp (pe_callB call_isiT hg hm boot_isi (pa_cons ha (pa_cons (pe_tup (pa_tys hx)) pa_nil) (starEach_ns hn)) (by decide) (by decide) (starEach_ns hn) rfl) fun σ H Q ⟨ow, io, fr, m, rp, p⟩ => ?_
  refine ⟨ow, io, fr, m, rp, ?_⟩
  unfold isiF at p
  refine p.seq fun x m1 io1 H1 v x1 r1 v1 p1 => ?_
  have rp1 := rp.ex x1 r1
  refine ⟨by rw [List.length_map, sizeLine_eq]; omega, fun b hb => ?_⟩
  have xf : Ex io1 H1 io1 (upd H1 b (.tup (ts.map fun t => V.ty (tyName t)))) := .fresh hb
  have rf := r1.fresh (o := .tup (ts.map fun t => V.ty (tyName t))) hb
  cases q : isTys x m1 ts with
  | none => rw [q] at p1; exact p1.elim
  | some r =>
    rw [q] at p1
    obtain ⟨tn, h1, h2⟩ := isTys_ok rf (v1.ex xf) hne q
    refine ⟨v, b, _, _, _, r, rfl, upd_same, clsV_tys ts, by rw [ov.K]; exact h1, by rw [ov.K]; exact h2, p1 io1 _ _ xf rf .mk_bl⟩
/-! ### constants of the top -/
def CstOk (S : Sta) (x : Str) (d : Mp.D) : Prop := ∃ u v, S.mg x = some u ∧ RelV v u ∧ ∀ (ow : Addr → Prop) (io : List Addr) (H : Hp), RV S ow io H d v
theorem se_cst {x : Str} {d : Mp.D} (ov : Ov S X) (c : CstOk S x d) (hg : Gl X x) (hd : (x == ("__debug__" : Str)) = false) : SE X S W (.Name x pos) (fun _ m => .ok d m) := by
  obtain ⟨u, v, hm, r, h⟩ := c
  rw [← ov.mg] at hm
  exact PE.imp (pe_glob hg hm r hd) fun σ H Q ⟨ow, io, fr, m, rp, p⟩ => p.here rp.h (h ow io H)
end
end Mp
end
section
set_option Elab.async false
set_option linter.all false
set_option maxRecDepth 100000
set_option maxHeartbeats 2000000
/-! MpTxt: methods of texts, f-strings, xs[::-1]. -/
namespace Mp
open PySem PySem.Spec PyProof.Rows L2

def baseB : Expr → Bool
  | .Call (.Name _ _) [] [] _ => false
  | _ => true
theorem base_ok {o : Expr} {m : Str} {env : Env} {w : Sem Value} (h : baseB o = true) : attributeBase o m env w = w := by
  unfold attributeBase
  split
  · cases h
  · rfl
section
variable {X : Cx} {S : Sta} {W : WX} {a b : Expr} {fa fb : Fe} {apos pos : Pos}
def m1F (k : M1) (fa fb : Fe) : Fe := fun fr m => (fa fr m).bind fun x m1 => match x with
    | .str z => (fb fr m1).bind fun y m2 => optR (m1D k z y m2) m2
    | _ => .bad
theorem m1_gen {r : V → List V → Hp → VK → Prop} {k : M1} {e : Expr} (h : PE X e (tM1 r (tR S W fa) (tRo S W fb)))
    (hg : ∀ ow io H fr m σ z y u Q, Rp S ow io H fr m σ → RVo S ow io H y u → Post S W ow io H σ Q (optR (m1D k z y m) m) → r (.str z) [u] H Q) : SE X S W e (m1F k fa fb) := by
  refine PE.imp h fun σ H Q ⟨ow, io, fr, m, rp, p⟩ => ?_
  refine ⟨ow, io, fr, m, rp, p.seq fun x m1 io1 H1 v x1 h1 v1 p1 => ?_⟩
  cases x with
  | str z =>
    cases v1.of_str
    have r1 := rp.ex x1 h1
    refine ⟨⟨z, rfl⟩, ow, io1, fr, m1, r1, p1.seqO fun y m2 io2 H2 u x2 h2 v2 p2 => ?_⟩
    exact hg ow io2 H2 fr m2 σ z y u Q (r1.ex x2 h2) v2 p2
  | _ => exact p1.elim
theorem strs_rv {ow : Addr → Prop} {io : List Addr} {H : Hp} : ∀ {ds : List Mp.D} {vs : List V} {ys : List Str}, RVs S ow io H ds vs → strsD ds = some ys → vs = ys.map V.str
  | [], vs, ys, h, e => by
    unfold RVs at h
    unfold strsD at e
    cases e
    exact h
  | d :: ds, vs, ys, h, e => by
    unfold RVs at h
    obtain ⟨v, r, rfl, h1, h2⟩ := h
    cases d with
    | str x =>
      unfold strsD at e
      obtain ⟨zs, e1, rfl⟩ := Option.map_eq_some_iff.mp e
      rw [h1.of_str, strs_rv h2 e1]
      rfl
    | _ => cases e
theorem mk_strs {ow : Addr → Prop} {io : List Addr} {H : Hp} : ∀ ys : List Str, RVs S ow io H (ys.map Mp.D.str) (ys.map V.str)
  | [] => .nil
  | y :: ys => .cons .mk_str (mk_strs ys)
def m1Nm : M1 → Str
  | .partition => "partition"
  | .index => "index"
  | .split => "split"
  | .join => "join"
theorem se_m1 {k : M1} {name : Str} (ov : Ov S X) (hk : m1Nm k = name) (ha : SE X S W a fa) (hb : SEo X S W b fb) (hba : baseB a = true) (hn : nst b = true) (hl : (apos.endLine == pos.line) = true) :
    SE X S W (.Call (.Attribute a name apos) [b] [] pos) (m1F k fa fb) := by
  have hs : starEach [b] X.env = [(false, eval b X.env)] := starEach_ns hn
  have hbase : attributeBase a name X.env (eval a X.env) = eval a X.env := base_ok hba
  cases k with
  | partition =>
    subst hk
    refine m1_gen (pe_partition ha hb hs hbase hl) fun ow io H fr m σ z y u Q rp hy p => ?_
    cases y with
    | str w =>
      cases hy.of_str
      unfold m1D at p
      dsimp only at p
      split at p
      · rename_i hc
        exact ⟨z, w, rfl, rfl, hc.1, hc.2, fun q hq => p.laid rp.h hq (RV.mk_tup hq (notOwned rp hq) (.cons .mk_str (.cons .mk_str (.cons .mk_str .nil))))⟩
      · exact p.elim
    | _ => exact p.elim
  | index =>
    subst hk
    refine m1_gen (pe_m1 PySem.F.slot_str_index PySem.F.type_str_index mt_sindex ha hb hs hbase hl) fun ow io H fr m σ z y u Q rp hy p => ?_
    cases y with
    | str w =>
      cases hy.of_str
      unfold m1D at p
      dsimp only at p
      split at p
      · rename_i i rest hc
        exact ⟨z, w, i, rest, rfl, rfl, hc, p.here rp.h .mk_int⟩
      · exact p.elim
    | _ => exact p.elim
  | split =>
    subst hk
    refine m1_gen (pe_split ha hb hs hbase hl) fun ow io H fr m σ z y u Q rp hy p => ?_
    cases y with
    | str w =>
      cases hy.of_str
      unfold m1D at p
      dsimp only at p
      split at p
      · rename_i hc
        exact ⟨z, w, rfl, rfl, hc.1, hc.2, fun q hq => p.laid rp.h hq (RV.mk_lst hq (notOwned rp hq) (mk_strs _))⟩
      · exact p.elim
    | _ => exact p.elim
  | join =>
    subst hk
    refine m1_gen (pe_join ha hb hs hbase hl) fun ow io H fr m σ z y u Q rp hy p => ?_
    unfold m1D at p
    dsimp only at p
    cases e : seqD y m with
    | none => rw [e] at p; exact p.elim
    | some ds =>
      rw [e] at p
      dsimp only at p
      obtain ⟨q, vs, rfl, hs, q1⟩ := seqD_ok rp.h hy e
      unfold joinD at p
      cases e2 : strsD ds with
      | none => rw [e2] at p; exact p.elim
      | some ys =>
        rw [e2] at p
        dsimp only at p
        split at p
        · rename_i hc
          have hv := strs_rv q1 e2
          subst hv
          exact ⟨z, q, ys, rfl, rfl, by rw [ov.K]; exact hs, hc, p.here rp.h .mk_str⟩
        · exact p.elim
/-! ### f-strings -/
theorem se_fmt (ha : SE X S W a fa) : SE X S W (.FormattedValue a (-1) none pos) (fun fr m => (fa fr m).bind fun x m1 => optR (fmtD x) m1) := by
  refine PE.imp (pe_fmt ha) fun σ H Q ⟨ow, io, fr, m, rp, p⟩ => ?_
  refine ⟨ow, io, fr, m, rp, p.seq fun x m1 io1 H1 v x1 h1 v1 p1 => ?_⟩
  have r1 := rp.ex x1 h1
  cases x with
  | str y =>
    cases v1.of_str
    unfold fmtD at p1
    dsimp only at p1
    split at p1
    · rename_i hc
      exact .inl ⟨y, rfl, hc, p1.here r1.h .mk_str⟩
    · exact p1.elim
  | int i =>
    cases v1.of_int
    unfold fmtD at p1
    dsimp only at p1
    split at p1
    · rename_i hc
      exact .inr ⟨i, rfl, hc, p1.here r1.h .mk_str⟩
    · exact p1.elim
  | _ => exact p1.elim
def fsF : List Fe → Str → Fe
  | [], acc => fun _ m => .ok (.str acc) m
  | f :: fs, acc => fun fr m => (f fr m).bind fun x m1 => match x with
    | .str y => if (acc ++ y).length ≤ sizeLine then fsF fs (acc ++ y) fr m1 else .bad
    | _ => .bad
theorem fs_run {σ : L2.St} {Q : VK} {ow : Addr → Prop} {fr : Fr} : ∀ (fs : List Fe) (acc : Str) (io : List Addr) (H : Hp) (m : MH), Rp S ow io H fr m σ → Post S W ow io H σ Q (fsF fs acc fr m) → tJs (fs.map (tR S W)) acc σ H (fun out H1 => Q (.str out) H1)
  | [], acc, io, H, m, rp, p => p.here rp.h .mk_str
  | f :: fs, acc, io, H, m, rp, p => by
    unfold fsF at p
    refine ⟨ow, io, fr, m, rp, p.seq fun x m1 io1 H1 v x1 h1 v1 p1 => ?_⟩
    cases x with
    | str y =>
      cases v1.of_str
      dsimp only at p1
      split at p1
      · rename_i hc
        exact ⟨y, rfl, hc, fs_run fs (acc ++ y) io1 H1 m1 (rp.ex x1 h1) p1⟩
      · exact p1.elim
    | _ => exact p1.elim
theorem se_fs {v1 v2 : Expr} {rest : List Expr} {fs : List Fe} (h : PJ X (v1 :: v2 :: rest) (fs.map (tR S W))) : SE X S W (.JoinedStr (v1 :: v2 :: rest) pos) (fsF fs Str.empty) :=
  PE.imp (pe_joined h) fun σ H Q ⟨ow, io, fr, m, rp, p⟩ => fs_run fs Str.empty io H m rp p
/-! ### xs[::-1] -/
theorem RVs.reverse {ow : Addr → Prop} {io : List Addr} {H : Hp} : ∀ {ds : List Mp.D} {vs : List V}, RVs S ow io H ds vs → RVs S ow io H ds.reverse vs.reverse
  | [], _, h => by unfold RVs at h; subst h; exact .nil
  | d :: ds, _, h => by
    unfold RVs at h
    obtain ⟨v, r, rfl, h1, h2⟩ := h
    rw [List.reverse_cons, List.reverse_cons]
    exact (RVs.reverse h2).append (.cons h1 .nil)
theorem se_rev {k : Nat} {p1 p2 p3 : Pos} (ov : Ov S X) (ha : SEo X S W a fa) : SE X S W (.Subscript a (.Slice none none (some (.UnaryOp .USub (.Constant (.int 1) k p1) p2)) p3) pos) (fun fr m => (fa fr m).bind fun x m1 => optR (revD x) m1) := by
  refine PE.imp (pe_revL ha) fun σ H Q ⟨ow, io, fr, m, rp, p⟩ => ?_
  refine ⟨ow, io, fr, m, rp, p.seqO fun x m1 io1 H1 v x1 h1 v1 p1 => ?_⟩
  have r1 := rp.ex x1 h1
  cases x with
  | lst xs =>
    obtain ⟨q, vs, rfl, hH, q1⟩ := v1.of_lst
    exact ⟨q, vs, rfl, .inl (.inl hH), fun z hz => p1.laid r1.h hz (RV.mk_lst hz (notOwned r1 hz) q1.reverse)⟩
  | fz xs =>
    obtain ⟨q, vs, rfl, hH, q1⟩ := v1.of_fz
    exact ⟨q, vs, rfl, by rw [ov.K]; exact hH, fun z hz => p1.laid r1.h hz (RV.mk_lst hz (notOwned r1 hz) q1.reverse)⟩
  | _ => exact p1.elim
end
end Mp
end
section
set_option Elab.async false
set_option linter.all false
set_option maxRecDepth 100000
set_option maxHeartbeats 1000000
/-! MpOwn: lists that a frame owns. -/
namespace Mp
open PySem PySem.Spec PyProof.Rows L2
section
variable {S : Sta} {W : WX} {ow0 ow : Addr → Prop} {io0 io : List Addr} {H0 H : Hp} {f : F} {m : MH} {σ : L2.St} {D : Ends}
theorem RSl.own {s : Sl} {v : V} (h : RSl S ow io H s v) (o : Own s) : ∃ a, v = .ref a ∧ ow a := by
  cases s with
  | val d => exact o.elim
  | olst xs => obtain ⟨a, vs, rfl, _, _, h3, _⟩ := h; exact ⟨a, rfl, h3⟩
  | oins C ns ds => obtain ⟨a, dx, fs, rfl, _, _, _, h3, _⟩ := h; exact ⟨a, rfl, h3.1⟩
/-- what is known of an own list -/
theorem Rs.ownAt (rs : Rs S ow0 io0 H0 ow io H f m σ) {i : Nat} {xs : List Mp.D} (e : f[i]? = some (some (.olst xs))) :
    ∃ a vs, σ[i]? = some (some (.ref a)) ∧ H a = some (.lst vs) ∧ RVs S ow io H xs vs ∧ ow a ∧ a ∉ io ∧ ¬ ow0 a ∧ NT H0 a := by
  obtain ⟨v, e1, a, vs, rfl, h1, h2, h3, h4⟩ := rs.r.f.2 i _ e
  have h5 := (rs.ap i i _ _ a e True.intro e True.intro e1 e1).2
  exact ⟨a, vs, e1, h1, h2, h3, h4, h5, rs.n a h3 h5⟩
/-- an own list is written -/
theorem Rs.wrote (rs : Rs S ow0 io0 H0 ow io H f m σ) {i : Nat} {xs ys : List Mp.D} {a : Addr} {vs us : List V} (e : f[i]? = some (some (.olst xs))) (e1 : σ[i]? = some (some (.ref a))) (ha : H a = some (.lst vs)) (hu : RVs S ow io H ys us) :
    Rs S ow0 io0 H0 ow io (upd H a (.lst us)) (f.set i (some (.olst ys))) m σ ∧ Ey ow io H ow io (upd H a (.lst us)) := by
  obtain ⟨a', vs', g1, g2, g3, g4, g5, g6, g7⟩ := rs.ownAt e
  rw [g1] at e1
  cases e1
  have y : Ey ow io H ow io (upd H a (.lst us)) := .own g4 True.intro
  have hil : i < f.length := (List.getElem?_eq_some_iff.mp e).1
  refine ⟨⟨⟨rs.en.pre, rs.en.new, fun b o hb so hn => ?_, fun b hb => rs.en.dom b (y.dom b hb)⟩, ⟨rs.r.h.own g4 True.intro g2 True.intro, ⟨by rw [List.length_set]; exact rs.r.f.1, fun j s hj => ?_⟩, fun b hb => fun z => rs.r.o b hb (y.dom b z)⟩, rs.s, rs.n, fun j k zs ws b hj oj hk ok h1 h2 => ?_⟩, y⟩
  · have hba : b ≠ a := fun z => g7.no (z ▸ hb) so
    rw [upd_ne hba]
    exact rs.en.keep b o hb so hn
  · by_cases hij : i = j
    · subst hij
      rw [List.getElem?_set_self hil] at hj
      cases hj
      exact ⟨_, g1, a, us, rfl, upd_same, hu.ey y, g4, g5⟩
    · rw [List.getElem?_set_ne hij] at hj
      obtain ⟨v, q1, q2⟩ := rs.r.f.2 j s hj
      refine ⟨v, q1, ?_⟩
      cases s with
      | val d => exact RV.ey y q2
      | olst zs =>
        obtain ⟨b, ws, rfl, k1, k2, k3, k4⟩ := q2
        have hba : b ≠ a := fun z => hij ((rs.ap i j _ _ a e True.intro hj True.intro g1 (z ▸ q1)).1)
        exact ⟨b, ws, rfl, by rw [upd_ne hba]; exact k1, k2.ey y, k3, k4⟩
      | oins C ns ds =>
        obtain ⟨b, dx, fs, rfl, k1, k2, k3, k4, k5⟩ := q2
        have hba : b ≠ a := fun z => hij ((rs.ap i j _ _ a e True.intro hj True.intro g1 (z ▸ q1)).1)
        exact ⟨b, dx, fs, rfl, by rw [upd_ne hba]; exact k1, k2, k3.ey y, k4, k5⟩
  · have fj : ∃ zs', f[j]? = some (some zs') ∧ Own zs' := by
      by_cases hij : i = j
      · subst hij; exact ⟨_, e, True.intro⟩
      · rw [List.getElem?_set_ne hij] at hj; exact ⟨zs, hj, oj⟩
    have fk : ∃ ws', f[k]? = some (some ws') ∧ Own ws' := by
      by_cases hik : i = k
      · subst hik; exact ⟨_, e, True.intro⟩
      · rw [List.getElem?_set_ne hik] at hk; exact ⟨ws, hk, ok⟩
    obtain ⟨zs', fj, oj⟩ := fj
    obtain ⟨ws', fk, ok⟩ := fk
    exact rs.ap j k zs' ws' b fj oj fk ok h1 h2
/-- a new list, owned from the start, in a slot -/
theorem Rs.took (rs : Rs S ow0 io0 H0 ow io H f m σ) {i : Nat} {ys : List Mp.D} {a : Addr} {us : List V} (hi : i < f.length) (hil : i < σ.length) (ha : H a = none) (hu : RVs S ow io H ys us) :
    Rs S ow0 io0 H0 (fun b => ow b ∨ b = a) io (upd H a (.lst us)) (f.set i (some (.olst ys))) m (σ.set i (some (.ref a))) ∧ Ey ow io H (fun b => ow b ∨ b = a) io (upd H a (.lst us)) := by
  have x : Ex io H io (upd H a (.lst us)) := .fresh ha
  obtain ⟨n1, n2⟩ := notOwned rs.r ha
  have y : Ey ow io H (fun b => ow b ∨ b = a) io (upd H a (.lst us)) := ⟨x.pre, x.new, fun b hb hn => by
    rcases hb with hb | rfl
    · exact absurd hb hn
    · exact .of ha, fun b o hb so hn _ => x.keep b o hb so hn, x.dom⟩
  have nt0 : NT H0 a := rs.en.dom a (.of ha)
  have hrh : RH S (fun b => ow b ∨ b = a) io (upd H a (.lst us)) m := by
    have h := rs.r.h
    refine ⟨(h.fresh ha).tab, h.len, h.nd, fun n o z => ?_⟩
    obtain ⟨b, q1, q2, q3⟩ := h.at_ n o z
    have hbm : b ∈ io := List.mem_of_getElem? q1
    have hba : b ≠ a := fun z => n1 (z ▸ hbm)
    refine ⟨b, q1, ?_, fun z => z.elim q3 hba⟩
    cases o with
    | lst xs => obtain ⟨vs, k1, k2⟩ := q2; exact ⟨vs, by rw [upd_ne hba]; exact k1, k2.ey y⟩
    | dct ks xs => obtain ⟨vs, k1, k2, k3⟩ := q2; exact ⟨vs, by rw [upd_ne hba]; exact k1, k2, k3.ey y⟩
    | ins C ns ds => obtain ⟨dx, fs, k1, k2, k3⟩ := q2; exact ⟨dx, fs, by rw [upd_ne hba]; exact k1, k2, k3.ey y⟩
  have noref : ∀ (j : Nat) (b : Addr) (zs : Sl), f[j]? = some (some zs) → Own zs → σ[j]? = some (some (V.ref b)) → b ≠ a := fun j b zs hj oj hs hz => by
    obtain ⟨v, g1, g2⟩ := rs.r.f.2 j _ hj
    obtain ⟨b', rfl, g3⟩ := g2.own oj
    rw [g1] at hs
    cases hs
    rw [hz] at g3
    exact rs.r.o a g3 (.of ha)
  refine ⟨⟨rs.en.trans x, ⟨hrh, ⟨by rw [List.length_set, List.length_set]; exact rs.r.f.1, fun j s hj => ?_⟩, fun b hb z => ?_⟩, fun b hb => .inl (rs.s b hb), fun b hb hn => ?_, fun j k zs ws b hj oj hk ok h1 h2 => ?_⟩, y⟩
  · by_cases hij : i = j
    · subst hij
      rw [List.getElem?_set_self hi] at hj
      cases hj
      exact ⟨_, List.getElem?_set_self hil, a, us, rfl, upd_same, hu.ey y, .inr rfl, n1⟩
    · rw [List.getElem?_set_ne hij] at hj
      obtain ⟨v, q1, q2⟩ := rs.r.f.2 j s hj
      refine ⟨v, by rw [List.getElem?_set_ne hij]; exact q1, ?_⟩
      cases s with
      | val d => exact RV.ey y q2
      | olst zs =>
        obtain ⟨b, ws, rfl, k1, k2, k3, k4⟩ := q2
        exact ⟨b, ws, rfl, by rw [upd_ne (noref j b _ hj True.intro q1)]; exact k1, k2.ey y, .inl k3, k4⟩
      | oins C ns ds =>
        obtain ⟨b, dx, fs, rfl, k1, k2, k3, k4, k5⟩ := q2
        exact ⟨b, dx, fs, rfl, by rw [upd_ne (noref j b _ hj True.intro q1)]; exact k1, k2, k3.ey y, ⟨.inl k4.1, k4.2⟩, k5⟩
  · rcases hb with hb | rfl
    · exact rs.r.o b hb (x.dom b z)
    · exact z _ upd_same True.intro
  · rcases hb with hb | rfl
    · exact rs.n b hb hn
    · exact nt0
  · by_cases hij : i = j
    · subst hij
      rw [List.getElem?_set_self hil] at h1
      cases h1
      by_cases hik : i = k
      · exact ⟨hik, fun z => rs.r.o a (rs.s a z) (.of ha)⟩
      · rw [List.getElem?_set_ne hik] at h2 hk
        exact absurd rfl (noref k a ws hk ok h2)
    · rw [List.getElem?_set_ne hij] at h1 hj
      by_cases hik : i = k
      · subst hik
        rw [List.getElem?_set_self hil] at h2
        cases h2
        exact absurd rfl (noref j a zs hj oj h1)
      · rw [List.getElem?_set_ne hik] at h2 hk
        exact rs.ap j k zs ws b hj oj hk ok h1 h2
/-- an own list is given up -/
theorem Rs.gave (rs : Rs S ow0 io0 H0 ow io H f m σ) (i : Nat) : ∃ ow', Rs S ow0 io0 H0 ow' io H (frzF i f) m σ ∧ Ey ow io H ow' io H := by
  unfold frzF
  split
  rotate_left
  · exact ⟨ow, rs, .refl _ _ _⟩
  · rename_i xs e
    obtain ⟨a, vs, g1, g2, g3, g4, g5, g6, g7⟩ := rs.ownAt e
    have hil : i < f.length := (List.getElem?_eq_some_iff.mp e).1
    have y : Ey ow io H (fun b => ow b ∧ b ≠ a) io H := .less fun b hb => hb.1
    refine ⟨fun b => ow b ∧ b ≠ a, ⟨rs.en, ⟨rs.r.h.less fun b hb => hb.1, ⟨by rw [List.length_set]; exact rs.r.f.1, fun j s hj => ?_⟩, fun b hb => rs.r.o b hb.1⟩, fun b hb => ⟨rs.s b hb, fun z => g6 (z ▸ hb)⟩, fun b hb hn => rs.n b hb.1 hn, fun j k zs ws b hj oj hk ok h1 h2 => ?_⟩, y⟩
    · by_cases hij : i = j
      · subst hij
        rw [List.getElem?_set_self hil] at hj
        cases hj
        refine ⟨_, g1, ?_⟩
        show RV _ _ _ _ _ _
        unfold RV
        exact ⟨a, vs, rfl, ⟨g2, g5, fun z => z.2 rfl⟩, g3.ey y⟩
      · rw [List.getElem?_set_ne hij] at hj
        obtain ⟨v, q1, q2⟩ := rs.r.f.2 j s hj
        refine ⟨v, q1, ?_⟩
        cases s with
        | val d => exact RV.ey y q2
        | olst zs =>
          obtain ⟨b, ws, rfl, k1, k2, k3, k4⟩ := q2
          have hba : b ≠ a := fun z => hij ((rs.ap i j _ _ a e True.intro hj True.intro g1 (z ▸ q1)).1)
          exact ⟨b, ws, rfl, k1, k2.ey y, ⟨k3, hba⟩, k4⟩
        | oins C ns ds =>
          obtain ⟨b, dx, fs, rfl, k1, k2, k3, k4, k5⟩ := q2
          have hba : b ≠ a := fun z => hij ((rs.ap i j _ _ a e True.intro hj True.intro g1 (z ▸ q1)).1)
          exact ⟨b, dx, fs, rfl, k1, k2, k3.ey y, ⟨⟨k4.1, hba⟩, k4.2⟩, k5⟩
    · have hij : i ≠ j := fun z => by
        subst z
        rw [List.getElem?_set_self hil] at hj
        cases hj
        exact oj.elim
      have hik : i ≠ k := fun z => by
        subst z
        rw [List.getElem?_set_self hil] at hk
        cases hk
        exact ok.elim
      rw [List.getElem?_set_ne hij] at hj
      rw [List.getElem?_set_ne hik] at hk
      exact rs.ap j k zs ws b hj oj hk ok h1 h2
end
/-! ### the statements -/
section
variable {X : Cx} {S : Sta} {W : WX} {e k : Expr} {fe fk : Fe} {pos apos cpos np : Pos} {i : Nat} {x : Str} {G : Gt} {mkx : Nat → List Mp.D → Option Exn}
/-- ahead of a block: a list is given up -/
theorem ss_frz {body : List Stmt} {g : Fs} (h : PSs X body (tS S W g)) : PSs X body (tS S W fun f m => (SR.nx (frzF i f) m).then_ g) := by
  refine PSs.imp h fun D σ H ⟨ow0, io0, H0, ow, io, f, m, rs, p⟩ => ?_
  obtain ⟨ow', rs', y⟩ := rs.gave i
  exact ⟨ow0, io0, H0, ow', io, frzF i f, m, rs', PostS.move p y⟩
theorem own_tyV {H : Hp} {a : Addr} {vs : List V} {K : PySem.W.Frag} (h : H a = some (.lst vs)) : tyV K "list" (.ref a) H := .inl ⟨rfl, vs, SqL.of h⟩
/-- x.append(e) -/
theorem ss_app (hN : X.N[i]? = some x) (hv : Vis X.env.scope x) (hd : (x == ("__debug__" : Str)) = false) (hcd : (x == ("__classdict__" : Str)) = false) (he : SE X S W e fe) (hn : nst e = true) (hl : (apos.endLine == cpos.line) = true) :
    PS X (.Expr (.Call (.Attribute (.Name x np) "append" apos) [e] [] cpos) pos) (tS S W (appF i fe)) := by
  have hs1 : starEach [e] X.env = [(false, eval e X.env)] := starEach_ns hn
  refine PS.imp (ps_expr (pe_bm PySem.F.plainAttrs_list PySem.F.slot_list_append PySem.F.type_list_append mt_append (pe_var hN hv hd hcd) (pa_cons he pa_nil (starEach_ns hn)) (base_ok rfl) (by rw [hs1]; rfl) hl (starEach_ns hn) rfl) rfl) fun D σ H ⟨ow0, io0, H0, ow, io, f, m, rs, p⟩ => ?_
  unfold appF at p
  split at p
  rotate_left
  · exact p.elim
  rename_i xs es
  obtain ⟨a, vs, g1, g2, g3, g4, g5, g6, g7⟩ := rs.ownAt es
  refine ⟨_, g1, own_tyV g2, ow, io, f, m, rs.r, p.seq rs fun d m1 io1 H1 v x1 r1 v1 p1 => ?_⟩
  obtain ⟨a2, vs2, h1, h2, h3, h4, h5, h6, h7⟩ := r1.ownAt es
  rw [g1] at h1
  cases h1
  split at p1
  · rename_i hlen
    obtain ⟨rs2, y⟩ := r1.wrote (ys := xs ++ [d]) (us := vs2 ++ [v]) es g1 h2 (h3.append (.cons v1 .nil))
    exact ⟨a, vs2, v, rfl, rfl, h2, by rw [← h3.length]; exact hlen, p1 ow io1 _ σ y rs2⟩
  · exact p1.elim
/-- x.extend(e) -/
theorem ss_ext (hN : X.N[i]? = some x) (hv : Vis X.env.scope x) (hd : (x == ("__debug__" : Str)) = false) (hcd : (x == ("__classdict__" : Str)) = false) (he : SEo X S W e fe) (hn : nst e = true) (hl : (apos.endLine == cpos.line) = true) :
    PS X (.Expr (.Call (.Attribute (.Name x np) "extend" apos) [e] [] cpos) pos) (tS S W (extF i fe)) := by
  have hs1 : starEach [e] X.env = [(false, eval e X.env)] := starEach_ns hn
  refine PS.imp (ps_expr (pe_bm PySem.F.plainAttrs_list PySem.F.slot_list_extend PySem.F.type_list_extend mt_extend (pe_var hN hv hd hcd) (pa_cons he pa_nil (starEach_ns hn)) (base_ok rfl) (by rw [hs1]; rfl) hl (starEach_ns hn) rfl) rfl) fun D σ H ⟨ow0, io0, H0, ow, io, f, m, rs, p⟩ => ?_
  unfold extF at p
  split at p
  rotate_left
  · exact p.elim
  rename_i xs es
  obtain ⟨a, vs, g1, g2, g3, g4, g5, g6, g7⟩ := rs.ownAt es
  refine ⟨_, g1, own_tyV g2, ow, io, f, m, rs.r, ?_⟩
  cases q : fe f m with
  | bad => rw [q] at p; exact p
  | exc z m1 => rw [q] at p; exact fun io1 H1 dx fs y h e n w q => p ow io1 H1 σ dx fs y.ey (rs.ex y h) e n w q
  | ok d m1 =>
    rw [q] at p
    intro io1 H1 v x1 h1 v1
    have r1 := rs.ex x1 h1
    have p1 := PostS.move p x1.ey
    rw [SR.of_ok] at p1
    obtain ⟨a2, vs2, k1, k2, k3, k4, k5, k6, k7⟩ := r1.ownAt es
    rw [g1] at k1
    cases k1
    cases d with
    | lst ys =>
      dsimp only at p1
      split at p1
      · rename_i hlen
        obtain ⟨b, us, rfl, hb, qb⟩ := v1.of_lst
        obtain ⟨rs2, y⟩ := r1.wrote (ys := xs ++ ys) (us := vs2 ++ us) es g1 k2 (k3.append qb)
        exact ⟨a, b, vs2, us, rfl, rfl, k2, hb, by rw [← k3.length, ← qb.length]; exact hlen, p1 ow io1 _ σ y rs2⟩
      · exact p1.elim
    | _ => exact p1.elim
/-- x[k] = e -/
theorem ss_setO {tp : Pos} (hN : X.N[i]? = some x) (hv : Vis X.env.scope x) (hd : (x == ("__debug__" : Str)) = false) (hcd : (x == ("__classdict__" : Str)) = false) (hn : nsl k = true) (he : SE X S W e fe) (hk : SE X S W k fk)
    (hs : swapsWithSole [.Subscript (.Name x np) k tp] e pos.line X.env = pure false) (hw : swappedStores [.Subscript (.Name x np) k tp] e X.env = pure none)
    (h1 : (assignEach [.Subscript (.Name x np) k tp] X.env).map (·.2) = [assign (.Subscript (.Name x np) k tp) X.env]) :
    PS X (.Assign [.Subscript (.Name x np) k tp] e pos) (tS S W (setF i fk fe)) := by
  refine PS.imp (ps_asg he (pg_sub (pe_var hN hv hd hcd) hk set_list (ha := fun v => assign_sub hn)) hs hw h1) fun D σ H ⟨ow0, io0, H0, ow, io, f, m, rs, p⟩ => ?_
  unfold setF at p
  refine ⟨ow, io, f, m, rs.r, p.seq rs fun d m1 io1 H1 v x1 r1 v1 p1 => ?_⟩
  split at p1
  rotate_left
  · exact p1.elim
  rename_i xs es
  obtain ⟨a, vs, g1, g2, g3, g4, g5, g6, g7⟩ := r1.ownAt es
  refine ⟨_, g1, ow, io1, f, m1, r1.r, p1.seq r1 fun y m2 io2 H2 u x2 r2 u2 p2 => ?_⟩
  obtain ⟨a2, vs2, k1, k2, k3, k4, k5, k6, k7⟩ := r2.ownAt es
  rw [g1] at k1
  cases k1
  cases y with
  | int j =>
    dsimp only at p2
    cases ej : ixN xs.length j with
    | none => rw [ej] at p2; exact p2.elim
    | some n =>
      rw [ej] at p2
      cases u2.of_int
      obtain ⟨rs2, y⟩ := r2.wrote (ys := xs.set n d) (us := vs2.set n v) es g1 k2 (k3.set n (v1.ex x2))
      exact ⟨a, vs2, j, n, rfl, rfl, k2, by rw [← k3.length]; exact ej, p2 ow io2 _ σ y rs2⟩
  | _ => exact p2.elim
/-- t = x.pop() -/
theorem ss_pop {tgE : Expr} {t : Tg} (hN : X.N[i]? = some x) (hv : Vis X.env.scope x) (hd : (x == ("__debug__" : Str)) = false) (hcd : (x == ("__classdict__" : Str)) = false) (hg : PG X tgE (gR S t)) (hl : (apos.endLine == cpos.line) = true)
    (hs : swapsWithSole [tgE] (.Call (.Attribute (.Name x np) "pop" apos) [] [] cpos) pos.line X.env = pure false) (hw : swappedStores [tgE] (.Call (.Attribute (.Name x np) "pop" apos) [] [] cpos) X.env = pure none) (h1 : (assignEach [tgE] X.env).map (·.2) = [assign tgE X.env]) :
    PS X (.Assign [tgE] (.Call (.Attribute (.Name x np) "pop" apos) [] [] cpos) pos) (tS S W (popF t i)) := by
  refine PS.imp (ps_asg (pe_bm0 PySem.F.plainAttrs_list PySem.F.slot_list_pop PySem.F.type_list_pop mt_pop (pe_var hN hv hd hcd) (base_ok rfl) hl) hg hs hw h1) fun D σ H ⟨ow0, io0, H0, ow, io, f, m, rs, p⟩ => ?_
  unfold popF at p
  split at p
  rotate_left
  · exact p.elim
  rename_i xs es
  obtain ⟨a, vs, g1, g2, g3, g4, g5, g6, g7⟩ := rs.ownAt es
  split at p
  rotate_left
  · exact p.elim
  rename_i d ed
  split at p
  rotate_left
  · exact p.elim
  rename_i f1 ef
  obtain ⟨v, e1, q1⟩ := g3.get ed
  have ed' : xs.dropLast = xs.take (xs.length - 1) := List.dropLast_eq_take
  have ev' : vs.dropLast = vs.take (xs.length - 1) := by rw [List.dropLast_eq_take, g3.length]
  obtain ⟨rs2, y⟩ := rs.wrote (ys := xs.dropLast) (us := vs.dropLast) es g1 g2 (by rw [ed', ev']; exact g3.take _)
  refine ⟨_, g1, own_tyV g2, a, vs, v, rfl, rfl, g2, by rw [← g3.length]; exact e1, ?_⟩
  have p2 := PostS.move p y
  exact ⟨ow, io, d, f.set i (some (.olst xs.dropLast)), f1, q1.ey y, rs2.r.f, ef, fun σ' h o => p2 ow io _ σ' (.refl _ _ _) (rs2.asg ef h o)⟩
/-! ### expressions that give a new list -/
def tF (S : Sta) (W : WX) (f : Fe) : TE := fun σ H Q => ∃ ow io fr m, Rp S ow io H fr m σ ∧ (match f fr m with
  | .ok d m' => ∃ xs, d = .lst xs ∧ ∀ io1 H1 vs, Ex io H io1 H1 → RH S ow io1 H1 m' → RVs S ow io1 H1 xs vs → ∀ p, H1 p = none → Q (.ref p) (upd H1 p (.lst vs))
  | .exc x m' => ∀ io' H' dx fs, Ex io H io' H' → RH S ow io' H' m' → H' dx = some (.xd fs) → dx ∉ io' → ¬ ow dx → RFs S ow io' H' x.ns x.ds fs → W (.ref (S.ca x.c)) (some dx) σ H'
  | .bad => False)
abbrev SF (X : Cx) (S : Sta) (W : WX) (e : Expr) (f : Fe) : Prop := PE X e (tF S W f)
theorem sf_lst {es : List Expr} {fs : Fes} {lp : Pos} (h : PA X es (tRs S W fs)) : SF X S W (.List es lp) (fun fr m => (fs fr m).bind fun ds m1 => if ds.length ≤ sizeLine then .ok (.lst ds) m1 else .bad) := by
  refine PE.imp (pe_lst h) fun σ H Q ⟨ow, io, fr, m, rp, p⟩ => ?_
  refine ⟨ow, io, fr, m, rp, ?_⟩
  dsimp only at p
  cases q : fs fr m with
  | bad => rw [q] at p; exact p
  | exc x m1 => rw [q] at p; exact p
  | ok ds m1 =>
    rw [q, R.ok_bind] at p
    intro io1 H1 vs x1 h1 v1
    by_cases hl : ds.length ≤ sizeLine
    · rw [if_pos hl] at p
      obtain ⟨xs, e, p⟩ := p
      cases e
      exact ⟨by rw [← v1.length]; exact hl, fun a ha => p io1 H1 vs x1 h1 v1 a ha⟩
    · rw [if_neg hl] at p
      exact p.elim
theorem sf_mul {a b : Expr} {fa fb : Fe} (ha : SEo X S W a fa) (hb : SEo X S W b fb) : SF X S W (.BinOp a .Mult b pos) (fun fr m => (fa fr m).bind fun x m1 => (fb fr m1).bind fun y m2 => optR (binD .mul x y) m2) := by
  refine PE.imp (pe_op op_rep ha hb) fun σ H Q ⟨ow, io, fr, m, rp, p⟩ => ?_
  refine ⟨ow, io, fr, m, rp, ?_⟩
  dsimp only at p
  cases q : fa fr m with
  | bad => rw [q] at p; exact p
  | exc x m1 => rw [q] at p; exact p
  | ok x m1 =>
    rw [q, R.ok_bind] at p
    intro io1 H1 v x1 h1 v1
    have r1 := rp.ex x1 h1
    refine ⟨ow, io1, fr, m1, r1, ?_⟩
    cases q2 : fb fr m1 with
    | bad => rw [q2] at p; exact p
    | exc y m2 => rw [q2] at p; exact fun io' H' dx fs y => p io' H' dx fs (x1.trans y)
    | ok y m2 =>
      rw [q2, R.ok_bind] at p
      intro io2 H2 u x2 h2 u2
      have e : binD .mul x y = mulD x y := rfl
      rw [e] at p
      cases x with
      | lst xs =>
        cases y with
        | int k =>
          have e2 : mulD (.lst xs) (.int k) = if -(2 ^ 63) ≤ k ∧ k < 2 ^ 63 ∧ xs.length * k.toNat ≤ sizeLine then some (.lst (List.replicate k.toNat xs).flatten) else none := rfl
          rw [e2] at p
          by_cases hl : -(2 ^ 63) ≤ k ∧ k < 2 ^ 63 ∧ xs.length * k.toNat ≤ sizeLine
          · rw [if_pos hl, optR_some] at p
            obtain ⟨zs, ez, p⟩ := p
            cases ez
            cases u2.of_int
            obtain ⟨c, vs, rfl, hc, qc⟩ := (v1.ex x2).of_lst
            obtain ⟨k1, k2, k3⟩ := hl
            rw [qc.length] at k3
            exact ⟨c, _, vs, rfl, rfl, hc, k1, k2, k3, fun z hz => p io2 H2 _ (x1.trans x2) h2 (qc.rep _) z hz⟩
          · rw [if_neg hl] at p
            exact p.elim
        | _ => exact p.elim
      | int a1 =>
        cases y with
        | int b1 =>
          have e2 : mulD (.int a1) (.int b1) = if mulOk a1 b1 = true then some (.int (a1 * b1)) else none := rfl
          rw [e2] at p
          by_cases hl : mulOk a1 b1 = true
          · rw [if_pos hl, optR_some] at p
            obtain ⟨_, e, _⟩ := p
            cases e
          · rw [if_neg hl] at p
            exact p.elim
        | _ => exact p.elim
      | tup a1 =>
        cases y with
        | int b1 =>
          have e2 : mulD (.tup a1) (.int b1) = if -1000 ≤ b1 ∧ b1 ≤ 1000 ∧ a1.length ≤ 1000 then some (.tup (List.replicate b1.toNat a1).flatten) else none := rfl
          rw [e2] at p
          by_cases hl : -1000 ≤ b1 ∧ b1 ≤ 1000 ∧ a1.length ≤ 1000
          · rw [if_pos hl, optR_some] at p
            obtain ⟨_, e, _⟩ := p
            cases e
          · rw [if_neg hl] at p
            exact p.elim
        | _ => exact p.elim
      | _ => cases y <;> exact p.elim
/-- name = a new list -/
theorem ss_asgO {p0 : Pos} (hN : X.N.Nodup) (hi : X.N[i]? = some x) (hx : Loc X.env.scope x) (hf : X.fn x = true ∨ X.env.scope.names.lookup x = some .local) (he : SF X S W e fe)
    (hs : swapsWithSole [.Name x p0] e pos.line X.env = pure false) (hw : swappedStores [.Name x p0] e X.env = pure none) (h1 : (assignEach [.Name x p0] X.env).map (·.2) = [assign (.Name x p0) X.env]) :
    PS X (.Assign [.Name x p0] e pos) (tS S W (asgOF i fe)) := by
  refine PS.imp (ps_asg he (pg_name hN hi hx hf) hs hw h1) fun D σ H ⟨ow0, io0, H0, ow, io, f, m, rs, p⟩ => ?_
  unfold asgOF at p
  split at p
  rotate_left
  · exact p.elim
  rename_i hif
  refine ⟨ow, io, f, m, rs.r, ?_⟩
  cases q : fe f m with
  | bad => rw [q] at p; exact p
  | exc z m1 => rw [q] at p; exact fun io1 H1 dx fs y h e n w q => p ow io1 H1 σ dx fs y.ey (rs.ex y h) e n w q
  | ok d m1 =>
    rw [q, SR.of_ok] at p
    cases d with
    | lst xs =>
      refine ⟨xs, rfl, fun io1 H1 vs x1 h1 v1 a ha => ?_⟩
      have r1 := rs.ex x1 h1
      obtain ⟨rs2, y⟩ := r1.took (i := i) (ys := xs) hif (Nat.lt_of_lt_of_le hif r1.r.f.1) ha v1
      exact PostS.move p x1.ey _ _ _ _ y rs2
    | _ => exact p.elim
end
end Mp
end
section
set_option Elab.async false
set_option linter.all false
set_option maxRecDepth 100000
set_option maxHeartbeats 1000000
/-! MpAug: x op= e; x[k] op= e, x a list of the frame's own. -/
namespace Mp
open PySem PySem.Spec PyProof.Rows L2
def ipM : TIp := fun x y H Q => ∃ i j, x = .int i ∧ y = .int j ∧ i.natAbs.log2 + j.natAbs.log2 < 1000000 ∧ Q (.int (i * j)) H
section
variable {X : Cx} {S : Sta} {W : WX}
theorem ip_mul : PIp X .Mult ipM := by
  intro pins s σ H x y v u Q I r1 r2 h
  obtain ⟨i, j, e1, e2, hm, q⟩ := h
  subst e1; subst e2
  obtain ⟨t, rfl⟩ := r1
  obtain ⟨t', rfl⟩ := r2
  exact PyProof.Rows.imul_int ⟨.int _, H, I.tok _, ⟨_, rfl⟩, q⟩ (show CMulW i j from hm).ok
theorem pip_or {op : Operator} {r r' : TIp} (h : PIp X op r) (h' : PIp X op r') : PIp X op (fun x y H Q => r x y H Q ∨ r' x y H Q) := by
  intro pins s σ H x y v u Q I rx ry q
  rcases q with q | q
  · exact h pins s σ H x y v u Q I rx ry q
  · exact h' pins s σ H x y v u Q I rx ry q
def augB : BO → Bool
  | .add => true
  | .sub => true
  | .mul => true
  | _ => false
theorem pip_aug (o : BO) (ho : augB o = true) : ∃ r, PIp X (boOp o) r ∧ ∀ ow io H x y z v u (Q : VK), RV S ow io H x v → RV S ow io H y u → augD o x y = some z → (∀ w, RV S ow io H z w → Q w H) → r v u H Q := by
  cases o with
  | add =>
    refine ⟨_, pip_or ip_add (fun pins s σ H x y v u Q I rx ry h => in_addS pins s σ H x y v u Q I rx ry h), fun ow io H x y z v u Q hx hy e q => ?_⟩
    unfold augD at e
    dsimp only at e
    split at e
    · cases e; cases hx.of_int; cases hy.of_int
      exact .inl ⟨_, _, rfl, rfl, q _ .mk_int⟩
    · split at e
      · rename_i hl
        cases e; cases hx.of_str; cases hy.of_str
        exact .inr ⟨_, _, rfl, rfl, hl, q _ .mk_str⟩
      · cases e
    · cases e
  | sub =>
    refine ⟨_, ip_sub, fun ow io H x y z v u Q hx hy e q => ?_⟩
    unfold augD at e
    dsimp only at e
    split at e
    · cases e; cases hx.of_int; cases hy.of_int
      exact ⟨_, _, rfl, rfl, q _ .mk_int⟩
    · cases e
  | mul =>
    refine ⟨_, ip_mul, fun ow io H x y z v u Q hx hy e q => ?_⟩
    unfold augD at e
    dsimp only at e
    split at e
    · split at e
      · rename_i hl
        cases e; cases hx.of_int; cases hy.of_int
        unfold mulOk at hl
        rw [decide_eq_true_eq] at hl
        exact ⟨_, _, rfl, rfl, hl, q _ .mk_int⟩
      · cases e
    · cases e
  | _ => cases ho
theorem ss_aug {i : Nat} {x : Str} {e : Expr} {fe : Fe} {pos pos' : Pos} (o : BO) (ho : augB o = true) (hN : X.N.Nodup) (hi : X.N[i]? = some x) (hx : Loc X.env.scope x) (hf : X.fn x = true ∨ X.env.scope.names.lookup x = some .local) (he : SE X S W e fe) :
    PS X (.AugAssign (.Name x pos') (boOp o) e pos) (tS S W (augF i o fe)) := by
  obtain ⟨r, hr, hg⟩ := pip_aug (X := X) (S := S) o ho
  refine PS.imp (ps_aug hN hi hx he hr hf) fun D σ H ⟨ow0, io0, H0, ow, io, f, m, rs, p⟩ => ?_
  unfold augF at p
  split at p
  rotate_left
  · exact p.elim
  rename_i x0 es
  obtain ⟨v, e1, q1⟩ := rs.r.f.2 i _ es
  have q1 : RV S ow io H x0 v := q1
  refine ⟨v, e1, ow, io, f, m, rs.r, p.seq rs fun y m1 io1 H1 w x1 r1 w1 p1 => ?_⟩
  split at p1
  · rename_i z ez
    refine hg ow io1 H1 x0 y z v w _ (q1.ex x1) w1 ez fun u hu => ?_
    have et : tgD (.nm i) z f = some (f.set i (some (.val z))) := by unfold tgD; rfl
    have off : Off (slots (.nm i)) σ (σ.set i (some u)) := ⟨List.length_set, fun j hj => by
      unfold slots at hj
      rw [List.getElem?_set_ne (fun e => hj (by rw [e]; exact List.mem_singleton.mpr rfl))]⟩
    exact p1 ow io1 H1 _ (.refl _ _ _) (r1.asg et (r1.r.f.set (d := .val z) hu) off)
  · exact p1.elim
def rGetL : V → V → Hp → VK → Prop := fun o i H Q => ∃ p xs k v, o = .ref p ∧ i = .int k ∧ H p = some (.lst xs) ∧ atI xs k = some v ∧ Q v H
theorem pget_list : PGet X rGetL := by
  intro pins s σ H x y v u Q I rx ry h
  obtain ⟨p, xs, i, z, rfl, rfl, hq, he, q⟩ := h
  cases rx
  obtain ⟨t, rfl⟩ := ry
  obtain ⟨its, r, pl, hz⟩ := I.list (SqL.of (K := X.K) hq)
  obtain ⟨j, h1, h2, h3, h4, h5⟩ := atI_get he
  obtain ⟨w, ew, rw'⟩ := r.get h2
  have hl := r.length
  have hn := line63
  have fin : EP X pins σ Q w s := ⟨z, H, I, rw', q⟩
  by_cases h0 : 0 ≤ i
  · have hj : i.toNat = j := by
      rw [seqIndex_of h0 h5] at h1
      exact Option.some.inj h1
    exact wpAny_getItem_list pl.isList h0 (by omega) (by rw [hj]; simpa using ew) fin
  · have hj : (i + (its.toArray.size : Int)).toNat = j := by
      rw [seqIndex_neg (by omega) h4] at h1
      rw [List.size_toArray, ← hl]
      exact Option.some.inj h1
    exact wpAny_getItem_list_neg pl.isList (by omega) (by rw [List.size_toArray] <;> omega) (by omega) (by rw [hj]; simpa using ew) fin
theorem ss_augO {i : Nat} {x : Str} {k e : Expr} {fk fe : Fe} {pos np tp : Pos} (o : BO) (ho : augB o = true) (hN : X.N[i]? = some x) (hv : Vis X.env.scope x) (hd : (x == ("__debug__" : Str)) = false) (hcd : (x == ("__classdict__" : Str)) = false) (hn : nsl k = true) (hk : SE X S W k fk) (he : SE X S W e fe) :
    PS X (.AugAssign (.Subscript (.Name x np) k tp) (boOp o) e pos) (tS S W (augOF i fk o fe)) := by
  obtain ⟨r, hr, hg⟩ := pip_aug (X := X) (S := S) o ho
  have ha : ∀ ov iv new, augStore k ov iv new = (do holding [new, ov, iv] (setItem ov iv new); release [new, ov, iv] []; pure .next) := by
    intro ov iv new
    cases k <;> first | rfl | cases hn
  refine PS.imp (ps_augS (pe_var hN hv hd hcd) hk pget_list he hr set_list ha) fun D σ H ⟨ow0, io0, H0, ow, io, f, m, rs, p⟩ => ?_
  unfold augOF at p
  split at p
  rotate_left
  · exact p.elim
  rename_i xs es
  obtain ⟨a, vs, g1, g2, g3, g4, g5, g6, g7⟩ := rs.ownAt es
  refine ⟨_, g1, ow, io, f, m, rs.r, p.seq rs fun y m1 io1 H1 u x1 r1 u1 p1 => ?_⟩
  split at p1
  rotate_left
  · exact p1.elim
  rename_i kk
  cases u1.of_int
  split at p1
  rotate_left
  · exact p1.elim
  rename_i j x0 ej ex
  obtain ⟨a2, vs2, k1, k2, k3, k4, k5, k6, k7⟩ := r1.ownAt es
  rw [g1] at k1
  cases k1
  obtain ⟨v0, ev0, qv0⟩ := atI_rv k3 ex
  refine ⟨a, vs2, kk, v0, rfl, rfl, k2, ev0, ow, io1, f, m1, r1.r, p1.seq r1 fun w m2 io2 H2 v x2 r2 v2 p2 => ?_⟩
  split at p2
  rotate_left
  · exact p2.elim
  rename_i z ez
  refine hg ow io2 H2 x0 w z v0 v _ (qv0.ex x2) v2 ez fun v3 hv3 => ?_
  obtain ⟨a3, vs3, l1, l2, l3, l4, l5, l6, l7⟩ := r2.ownAt es
  rw [g1] at l1
  cases l1
  obtain ⟨rs2, y⟩ := r2.wrote (ys := xs.set j z) (us := vs3.set j v3) es g1 l2 (l3.set j hv3)
  exact ⟨a, vs3, kk, j, rfl, rfl, l2, by rw [← l3.length]; exact ej, p2 ow io2 _ σ y rs2⟩
end
end Mp
end
section
set_option Elab.async false
set_option linter.all false
set_option maxRecDepth 100000
set_option maxHeartbeats 2000000
/-! MpIns: own classes: fields, properties, methods, len, repr, ==. -/
namespace Mp
open PySem PySem.Spec PyProof.Rows L2
/-! ### the tree of a method call -/
theorem args_form {pos : Pos} {env : Env} : ∀ {es : List Expr}, es.all nst = true → (backTo pos (starEach es env)).all (!·.1) = true
  | [], _ => rfl
  | e :: es, h => by
    rw [List.all_cons, Bool.and_eq_true] at h
    rw [starEach_ns h.1]
    show (true && (backTo pos (starEach es env)).all (!·.1)) = true
    rw [args_form h.2]
    rfl
theorem mcall_tree {o : Expr} {m : Str} {apos pos : Pos} {env : Env} {es : List Expr} (hba : baseB o = true) (hn : es.all nst = true) (hlen : es.length < 29) (hl : (apos.endLine == pos.line) = true) :
    eval (.Call (.Attribute o m apos) es [] pos) env = (do
      let ov ← eval o env
      standAt apos.atName
      let (f, first) ← holding [ov] (getMethod ov m (do return (← importBound o env).getD true))
      callWith pos f first (backTo pos (starEach es env)) (backToKw pos (keywordEach [] env))) := by
  refine mcall_of (base_ok hba) fun ov => ?_
  have e : methodCallForm (es.length + ([] : List Keyword).length) (backTo pos (starEach es env)) (backToKw pos (keywordEach [] env)) = true := by
    unfold methodCallForm
    rw [args_form hn]
    show (true && true && decide (es.length + 0 + 0 < 30)) = true
    simp
    omega
  unfold methodCall
  rw [e]
  unfold calleeOf methodCallPos
  rw [hl]
  rfl
/-! ### fields by number -/
section
variable {S : Sta}
/-- no other name is written so -/
def NmI (S : Sta) (f : Nat) : Prop := ∀ g, S.nm g = S.nm f → g = f
theorem fs_lookup {ow : Addr → Prop} {io : List Addr} {H : Hp} {f : Nat} (hf : NmI S f) : ∀ {ns : List Nat} {ds : List D} {fs : List (Str × V)} {d : D}, fs.map (·.1) = ns.map S.nm → RVs S ow io H ds (fs.map (·.2)) → (ns.zip ds).lookup f = some d → ∃ v, fs.lookup (S.nm f) = some v ∧ RV S ow io H d v
  | [], _, fs, _, _, _, e => by simp at e
  | _ :: _, [], fs, _, _, _, e => by simp at e
  | n :: ns, d :: ds, [], _, h1, h2, e => by simp at h1
  | n :: ns, d :: ds, (x, v) :: fs, d', h1, h2, e => by
    rw [List.map_cons, List.map_cons, List.cons.injEq] at h1
    have h2 : RVs S ow io H (d :: ds) (v :: fs.map (·.2)) := h2
    unfold RVs at h2
    obtain ⟨v', r, e1, q1, q2⟩ := h2
    cases e1
    have h11 : x = S.nm n := h1.1
    rw [List.zip_cons_cons, List.lookup_cons] at e
    rw [List.lookup_cons]
    by_cases hn : f = n
    · subst hn
      simp only [beq_self_eq_true] at e
      cases e
      rw [h11]
      simp only [beq_self_eq_true]
      exact ⟨v, rfl, q1⟩
    · have b1 : (f == n) = false := by simpa using hn
      rw [b1] at e
      have b2 : (S.nm f == x) = false := by
        rw [h11]
        simp only [beq_eq_false_iff_ne, ne_eq]
        exact fun z => hn (hf n z.symm).symm
      rw [b2]
      exact fs_lookup hf h1.2 q2 e
theorem fs_none {f : Nat} (hf : NmI S f) : ∀ {ns : List Nat} {fs : List (Str × V)}, fs.map (·.1) = ns.map S.nm → ns.contains f = false → fs.lookup (S.nm f) = none
  | [], fs, h1, _ => by
    cases fs with
    | nil => rfl
    | cons p r => simp at h1
  | n :: ns, [], h1, _ => by simp at h1
  | n :: ns, (x, v) :: fs, h1, h2 => by
    rw [List.map_cons, List.map_cons, List.cons.injEq] at h1
    have h11 : x = S.nm n := h1.1
    rw [List.contains_cons, Bool.or_eq_false_iff] at h2
    have hn : f ≠ n := by simpa using h2.1
    rw [List.lookup_cons]
    have b2 : (S.nm f == x) = false := by
      rw [h11]
      simp only [beq_eq_false_iff_ne, ne_eq]
      exact fun z => hn (hf n z.symm).symm
    rw [b2]
    exact fs_none hf h1.2 h2.2
theorem insD_ok {ow : Addr → Prop} {io : List Addr} {H : Hp} {m : MH} {x : D} {v : V} {C : Nat} {ns : List Nat} {ds : List D} (rh : RH S ow io H m) (h : RV S ow io H x v) (e : insD x m = some (C, ns, ds)) :
    ∃ a dx fs, v = .ref a ∧ H a = some (.ins (S.ca C) dx fs) ∧ fs.map (·.1) = ns.map S.nm ∧ RVs S ow io H ds (fs.map (·.2)) := by
  cases x with
  | ins C' ns' ds' =>
    cases e
    unfold RV at h
    obtain ⟨a, dx, fs, e, r, q1, q⟩ := h
    exact ⟨a, dx, fs, e, r.1, q1, q⟩
  | ref n =>
    unfold insD at e
    dsimp only at e
    cases em : m[n]? with
    | none => rw [em] at e; cases e
    | some mo =>
      rw [em] at e
      cases mo with
      | ins C' ns' ds' =>
        cases e
        unfold RV at h
        obtain ⟨a, rfl, h0⟩ := h
        obtain ⟨a', e1, ⟨dx, fs, e2, e3, e4⟩, _⟩ := rh.at_ n _ em
        rw [h0] at e1
        cases e1
        exact ⟨a, dx, fs, rfl, e2, e3, e4⟩
      | _ => cases e
  | _ => cases e
end
/-! ### what the top gives of a class -/
/-- the class C has the method f: n parameters (the object among them) -/
def MthOk (S : Sta) (k : Nat) (C f n : Nat) (fn : List D → MH → R D) : Prop :=
  ∃ (ga : Addr) (fd : FuncData) (ps : List Str), Cls S.K (S.ca C) ∧ Meth S.K (S.ca C) (S.nm f) ga ∧ ps.length = n ∧ Binds S.K fd ps [] ∧ FnOk S.P S.w S.K S.mg S.base (L2.CX S.P S.w) k ga fd ps (spOf S n fn)
/-- .. a property -/
def PrpOk (S : Sta) (k : Nat) (C f : Nat) (fn : List D → MH → R D) : Prop :=
  ∃ (pa ga : Addr) (fd : FuncData) (ps : List Str), Cls S.K (S.ca C) ∧ PropOf S.K (S.ca C) (S.nm f) pa ga ∧ ps.length = 1 ∧ Binds S.K fd ps [] ∧ FnOk S.P S.w S.K S.mg S.base (L2.CX S.P S.w) k ga fd ps (spOf S 1 fn)
def FldOk (S : Sta) (C f : Nat) : Prop := Cls S.K (S.ca C) ∧ NoAttr S.K (S.ca C) (S.nm f)
theorem MthOk.mono {S : Sta} {j k C f n : Nat} {fn : List D → MH → R D} (h : MthOk S j C f n fn) (l : j ≤ k) : MthOk S k C f n fn :=
  let ⟨ga, fd, ps, h1, h2, h3, h4, F⟩ := h; ⟨ga, fd, ps, h1, h2, h3, h4, F.mono l⟩
theorem PrpOk.mono {S : Sta} {j k C f : Nat} {fn : List D → MH → R D} (h : PrpOk S j C f fn) (l : j ≤ k) : PrpOk S k C f fn :=
  let ⟨pa, ga, fd, ps, h1, h2, h3, h4, F⟩ := h; ⟨pa, ga, fd, ps, h1, h2, h3, h4, F.mono l⟩
section
variable {X : Cx} {S : Sta} {W : WX} {a b o : Expr} {fa fb fo : Fe} {apos pos : Pos} {es : List Expr} {fs : Fes} {k f : Nat} {ci : Ci} {fn : Nat → List D → MH → R D}
/-- a wish that no exception meets -/
def E0 : XK := fun _ _ _ => False
theorem pass0 {A : Prop} {H : Hp} {s : Shared} {e : Value} {s' : Shared} {outer : List Env} {P : Program} {w : World} (h : L2.CX P w outer H s E0 e s') : A := by
  obtain ⟨_, _, _, _, _, _, _, _, _, _, _, _, q⟩ := h
  exact q.elim
/-- a def runs that raises nothing -/
theorem run_fn0 {pins : List (Addr × Obj)} {σ : L2.St} {H : Hp} {s : Shared} {Q : VK} {us : List Value} {vs : List V} {ga : Addr} {fd : FuncData} {ps : List Str} {sp : Sp} {A : Around} {E : Value → Shared → Prop}
    (F : FnOk X.prog X.w X.K X.mg X.base (L2.CX X.prog X.w) k ga fd ps sp) (hr : Room k A) (hb : Binds X.K fd ps []) (I : Inv X pins σ H s) (env : Env0 X.prog X.w X.K X.mg X.base A X.stack s H) (r : Vals vs us) (h : sp vs H Q E0) :
    wpAny (model X.prog X.w) A (call (.ref ga) us) (EP X pins σ Q) E s := by
  have hl : us.length = ps.length := by rw [← r.length]; exact F.len _ _ _ _ h
  have b := hb s us I.kIn (by rw [List.append_nil]; exact hl)
  rw [List.append_nil] at b
  refine wpAny_call (codeAny_mono (F.run A X.stack s H ⟨us, []⟩ us vs Q E0 hr env b r h) fun r s' hq => ?_)
  cases r with
  | error e => exact pass0 hq
  | ok fl =>
    cases fl with
    | ret u => exact I.after hq
    | next => exact False.elim hq
    | brk => exact False.elim hq
    | cont => exact False.elim hq
theorem post_isOk {ow : Addr → Prop} {io : List Addr} {H : Hp} {σ : L2.St} {Q : VK} {W' : WX} {r : R D} (p : Post S W ow io H σ Q (isOk r)) : Post S W' ow io H σ Q r := by
  cases r with
  | ok d m => exact p
  | exc x m => exact p.elim
  | bad => exact p
/-- o.f: a field or a property -/
def fldF (ci : Ci) (fn : Nat → List D → MH → R D) (f : Nat) (fa : Fe) : Fe := fun fr m => (fa fr m).bind fun x m1 => match insD x m1 with
    | some (C, ns, ds) => match ci.pr C f with
      | some (some g) => isOk (fn g [x] m1)
      | some none => match (ns.zip ds).lookup f with
        | some d => .ok d m1
        | none => .bad
      | none => .bad
    | none => .bad
theorem se_fld {name : Str} (ov : Ov S X) (hnm : S.nm f = name) (nm : NmI S f) (hr : Room (k + 1) X.A) (h1 : ∀ C, ci.pr C f = some none → FldOk S C f) (h2 : ∀ C g, ci.pr C f = some (some g) → PrpOk S k C f (fn g)) (ha : SE X S W a fa) (hba : baseB a = true) :
    SE X S W (.Attribute a name apos) (fldF ci fn f fa) := by
  subst hnm
  refine ⟨fun pins s σ H Q I ⟨ow, io, fr, m, rp, p⟩ => ?_⟩
  refine attr_of (base_ok hba) (thn (ha.run pins s σ H (fun v H1 => ∃ x m1 io1, Ex io H io1 H1 ∧ RH S ow io1 H1 m1 ∧ RV S ow io1 H1 x v ∧ Post S W ow io1 H1 σ Q (match insD x m1 with
    | some (C, ns, ds) => match ci.pr C f with
      | some (some g) => isOk (fn g [x] m1)
      | some none => match (ns.zip ds).lookup f with
        | some d => .ok d m1
        | none => .bad
      | none => .bad
    | none => .bad)) I ⟨ow, io, fr, m, rp, p.seq fun x m1 io1 H1 v x1 r1 v1 p1 => ⟨x, m1, io1, x1, r1, v1, p1⟩⟩) fun u s1 ⟨v, H1, I1, rx, x, m1, io1, x1, r1, v1, p1⟩ => ?_)
  cases ei : insD x m1 with
  | none => rw [ei] at p1; exact p1.elim
  | some t =>
    obtain ⟨C, ns, ds⟩ := t
    rw [ei] at p1
    dsimp only at p1
    obtain ⟨aa, dx, fs, rfl, hH, q1, q2⟩ := insD_ok r1 v1 ei
    obtain rfl : u = Value.ref aa := rx
    cases ep : ci.pr C f with
    | none => rw [ep] at p1; exact p1.elim
    | some og =>
      rw [ep] at p1
      cases og with
      | none =>
        dsimp only at p1
        obtain ⟨c, na⟩ := h1 C ep
        cases el : (ns.zip ds).lookup f with
        | none => rw [el] at p1; exact p1.elim
        | some d =>
          rw [el] at p1
          obtain ⟨v, e1, q3⟩ := fs_lookup nm q1 q2 el
          rw [← ov.K] at c na
          exact getattr_ok I1 hH c na e1 fun u' s2 I2 ru => ⟨v, H1, I2, ru, p1.here r1 q3⟩
      | some g =>
        dsimp only at p1
        obtain ⟨pa, ga, fd, ps, c, hp, hps, hb, F⟩ := h2 C g ep
        have F := fnok_over ov F
        rw [← ov.K] at c hp hb
        refine getprop_ok (dvs := []) (ds := []) (E := E0) I1 hH c hp F hr hb .nil (fun pins σ H s e s' I' z => pass0 z) ?_
        exact ⟨ow, io1, [x], m1, r1, (rp.ex x1 r1).o, .cons v1 .nil, rfl, (post_isOk (W' := fun c d _ H' => E0 c d H') p1).wish⟩
/-- o.f(..): a method -/
def mthF (ci : Ci) (fn : Nat → List D → MH → R D) (f : Nat) (fo : Fe) (fs : Fes) : Fe := fun fr m => (fo fr m).bind fun x m1 => match insD x m1 with
    | some (C, ns, _) => match ci.mt C f with
      | some g => if ns.contains f = true then .bad else (fs fr m1).bind fun ds m2 => fn g (x :: ds) m2
      | none => .bad
    | none => .bad
theorem se_mth {name : Str} (ov : Ov S X) (hnm : S.nm f = name) (nm : NmI S f) (hr : Room k X.A) (tk : Takes X W) (hM : ∀ C g, ci.mt C f = some g → MthOk S k C f (es.length + 1) (fn g)) (ho : SE X S W o fo) (ha : PA X es (tRs S W fs)) (hn : es.all nst = true) (hlen : es.length < 29)
    (hba : baseB o = true) (hln : (apos.endLine == pos.line) = true) (hl : ∀ fr m ds m', fs fr m = .ok ds m' → ds.length = es.length) (h0 : es = [] → fs = fun _ m => .ok [] m) :
    SE X S W (.Call (.Attribute o name apos) es [] pos) (mthF ci fn f fo fs) := by
  subst hnm
  refine ⟨fun pins s σ H Q I ⟨ow, io, fr, m, rp, p⟩ => ?_⟩
  refine PySem.W.methodCall_KW (thn (ho.run pins s σ H (fun v H1 => ∃ x m1 io1, Ex io H io1 H1 ∧ RH S ow io1 H1 m1 ∧ RV S ow io1 H1 x v ∧ Post S W ow io1 H1 σ Q (match insD x m1 with
    | some (C, ns, _) => match ci.mt C f with
      | some g => if ns.contains f = true then .bad else (fs fr m1).bind fun ds m2 => fn g (x :: ds) m2
      | none => .bad
    | none => .bad)) I ⟨ow, io, fr, m, rp, p.seq fun x m1 io1 H1 v x1 r1 v1 p1 => ⟨x, m1, io1, x1, r1, v1, p1⟩⟩) fun u s1 ⟨v, H1, I1, rx, x, m1, io1, x1, r1, v1, p1⟩ => ?_) (mcall_tree hba hn hlen hln)
  cases ei : insD x m1 with
  | none => rw [ei] at p1; exact p1.elim
  | some t =>
    obtain ⟨C, ns, ds⟩ := t
    rw [ei] at p1
    dsimp only at p1
    obtain ⟨aa, dx, gs, rfl, hH, q1, q2⟩ := insD_ok r1 v1 ei
    obtain rfl : u = Value.ref aa := rx
    cases ep : ci.mt C f with
    | none => rw [ep] at p1; exact p1.elim
    | some g =>
      rw [ep] at p1
      dsimp only at p1
      obtain ⟨ga, fd, ps, c, hm, hps, hb, F⟩ := hM C g ep
      have F := fnok_over ov F
      rw [← ov.K] at c hm hb
      by_cases hc : ns.contains f = true
      · rw [if_pos hc] at p1; exact p1.elim
      rw [if_neg hc] at p1
      refine getmeth_ok I1 hH c hm (fs_none nm q1 (by simpa using hc)) ?_
      have rp1 := rp.ex x1 r1
      have key : Posts S W ow io1 H1 σ (fun vs H2 => spOf S (es.length + 1) (fn g) (.ref aa :: vs) H2 Q (fun c d H' => W c d σ H')) (fs fr m1) := by
        cases q : fs fr m1 with
        | ok ds m2 =>
          rw [q] at p1
          have p1 : Post S W ow io1 H1 σ Q (fn g (x :: ds) m2) := p1
          exact fun io2 H2 vs x2 r2 v2 => ⟨ow, io2, x :: ds, m2, r2, (rp1.ex x2 r2).o, .cons (v1.ex x2) v2, by rw [List.length_cons, hl _ _ _ _ q], (p1.move x2).wish⟩
        | exc y m2 => rw [q] at p1; exact p1
        | bad => rw [q] at p1; exact p1
      cases es with
      | nil =>
        rw [h0 rfl] at key
        exact PySem.W.callWith_K0 (first := [.ref aa]) I1.kIn hm.kp (run_fnS (us := [.ref aa]) (vs := [.ref aa]) F hr hb (passAt tk σ) I1 (.cons rfl .nil) (key io1 H1 [] (.refl _ _) r1 .nil))
      | cons e es =>
        rw [List.all_cons, Bool.and_eq_true] at hn
        refine PySem.W.callWith_K (first := [.ref aa]) (h₀ := X.base) I1.ok.mod.kin hm.kp (thn (ha.run pos pins s1 σ H1 _ I1 ⟨ow, io1, fr, m1, rp1, key⟩) fun us s2 ⟨vs, H2, I2, r, q⟩ => ⟨I2.kIn, ?_⟩) (starEach_ns hn.1) (stars_any hn.2)
        exact run_fnS (us := .ref aa :: us) (vs := .ref aa :: vs) F hr hb (passAt tk σ) I2 (.cons rfl r) q
end
end Mp
end
section
set_option Elab.async false
set_option linter.all false
set_option maxRecDepth 100000
set_option maxHeartbeats 2000000
/-! MpIns2: len, repr, == of own instances. -/
namespace Mp
open PySem PySem.Spec PyProof.Rows L2
section
variable {X : Cx} {S : Sta} {W : WX} {a b o : Expr} {fa fb fo : Fe} {apos pos p : Pos} {k f : Nat} {ci : Ci} {fn : Nat → List D → MH → R D}
def dunNm : Du → Str
  | .len => "__len__"
  | .repr => "__repr__"
def dunB : Du → Str
  | .len => "len"
  | .repr => "repr"
/-- what comes back -/
def dunBk : Du → V → Prop
  | .len, v => ∃ n : Int, v = .int n ∧ 0 ≤ n ∧ n < 2 ^ 63
  | .repr, v => ∃ x : Str, v = .str x
def rDun (X : Cx) (k : Nat) (kd : Du) : List V → Hp → VK → Prop := fun xs H Q => ∃ (aa C dx : Addr) (gs : List (Str × V)) (ga : Addr) (fd : FuncData) (ps : List Str) (sp : Sp), xs = [.ref aa] ∧ H aa = some (.ins C dx gs) ∧ PySem.W.findIn X.K (.ref C) (dunNm kd) = some (some (.ref ga)) ∧ PySem.W.isFn X.K (.ref ga) = true ∧
  Binds X.K fd ps [] ∧ FnOk X.prog X.w X.K X.mg X.base (L2.CX X.prog X.w) k ga fd ps sp ∧ sp [.ref aa] H (fun v H' => dunBk kd v ∧ Q v H') E0
theorem call_lenI (hr : Room (k + 1) X.A) : CallR X (.builtin "len") (rDun X k .len) := by
  rintro pins s σ H xs us Q I r ⟨aa, C, dx, gs, ga, fd, ps, sp, rfl, hH, hs, hf, hb, F, q⟩
  cases r with
  | cons r rr =>
    cases rr
    cases r
    obtain ⟨mA, O, _⟩ := ins_get I.hok hH
    obtain ⟨od, J, _⟩ := O.look
    obtain ⟨m, hF⟩ := I.fr
    refine PySem.W.len_K hF I.ok.mod.kin J hs hf ?_
    refine thn (run_fn0 (us := [.ref aa]) (vs := [.ref aa]) F hr.in1 hb I I.env0.in1 (.cons rfl .nil) q) fun u s1 ⟨v, H1, I1, rv, ⟨n, e1, h0, h1⟩, q1⟩ => ?_
    subst e1
    obtain ⟨t, rfl⟩ := (show ∃ t, u = Value.int n t from rv)
    exact ⟨⟨h0, h1⟩, .int n, H1, I1.tok _, ⟨_, rfl⟩, q1⟩
theorem call_reprI (hr : Room (k + 1) X.A) : CallR X (.builtin "repr") (rDun X k .repr) := by
  rintro pins s σ H xs us Q I r ⟨aa, C, dx, gs, ga, fd, ps, sp, rfl, hH, hs, hf, hb, F, q⟩
  cases r with
  | cons r rr =>
    cases rr
    cases r
    obtain ⟨mA, O, _⟩ := ins_get I.hok hH
    obtain ⟨od, J, _⟩ := O.look
    obtain ⟨m, hF⟩ := I.fr
    refine PySem.W.repr_K (by have := hr.in1.units0; exact this) hF I.ok.mod.kin J hs hf ?_
    refine thn (run_fn0 (us := [.ref aa]) (vs := [.ref aa]) F hr.in1 hb I I.env0.in1 (.cons rfl .nil) q) fun u s1 ⟨v, H1, I1, rv, ⟨x, e1⟩, q1⟩ => ?_
    subst e1
    obtain ⟨t, rfl⟩ := (show ∃ t, u = Value.str x t from rv)
    exact ⟨.str x, H1, I1, ⟨_, rfl⟩, q1⟩
theorem call_dun (hr : Room (k + 1) X.A) : (kd : Du) → ∃ id, bootBuiltins (dunB kd) = some (.builtin id) ∧ CallR X (.builtin id) (rDun X k kd)
  | .len => ⟨"len", by decide +kernel, call_lenI hr⟩
  | .repr => ⟨"repr", by decide +kernel, call_reprI hr⟩
def dunF (ci : Ci) (fn : Nat → List D → MH → R D) (kd : Du) (f : Nat) (fa : Fe) : Fe := fun fr m => (fa fr m).bind fun x m1 => match insD x m1 with
    | some (C, _, _) => match ci.mt C f with
      | some g => (isOk (fn g [x] m1)).bind fun d m2 => optR (duD kd d) m2
      | none => .bad
    | none => .bad
theorem duD_rv {ow : Addr → Prop} {io : List Addr} {H : Hp} {kd : Du} {d d' : D} {v : V} (e : duD kd d = some d') (h : RV S ow io H d v) : d' = d ∧ dunBk kd v := by
  unfold duD at e
  split at e
  · cases h.of_int
    cases kd with
    | len =>
      dsimp only at e
      split at e
      · rename_i hc
        cases e
        exact ⟨rfl, _, rfl, hc.1, hc.2⟩
      · cases e
    | repr => cases e
  · cases h.of_str
    cases kd with
    | len => cases e
    | repr => cases e; exact ⟨rfl, _, rfl⟩
  · cases e
theorem se_dun (kd : Du) (ov : Ov S X) (hnm : S.nm f = dunNm kd) (hr : Room (k + 1) X.A) (hM : ∀ C g, ci.mt C f = some g → MthOk S k C f 1 (fn g)) (hg : Gl X (dunB kd)) (hm : X.mg (dunB kd) = none) (ha : SE X S W a fa) (hn : nst a = true) :
    SE X S W (.Call (.Name (dunB kd) p) [a] [] pos) (dunF ci fn kd f fa) := by
  obtain ⟨id, hv, hc⟩ := call_dun (X := X) (k := k) hr kd
  refine PE.imp (pe_callB hc hg hm hv (pa_cons ha pa_nil (starEach_ns hn)) (by cases kd <;> decide) (by cases kd <;> decide) (starEach_ns hn) rfl) fun σ H Q ⟨ow, io, fr, m, rp, p⟩ => ?_
  refine ⟨ow, io, fr, m, rp, p.seq fun x m1 io1 H1 v x1 r1 v1 p1 => ?_⟩
  cases ei : insD x m1 with
  | none => rw [ei] at p1; exact p1.elim
  | some t =>
    obtain ⟨C, ns, ds⟩ := t
    rw [ei] at p1
    dsimp only at p1
    obtain ⟨aa, dx, gs, rfl, hH, q1, q2⟩ := insD_ok r1 v1 ei
    cases ep : ci.mt C f with
    | none => rw [ep] at p1; exact p1.elim
    | some g =>
      rw [ep] at p1
      dsimp only at p1
      obtain ⟨ga, fd, ps, c, hme, hps, hb, F⟩ := hM C g ep
      have F := fnok_over ov F
      have hat := hme.at_
      have hfn := hme.fn
      rw [hnm] at hat
      rw [← ov.K] at hat hfn hb
      refine ⟨aa, _, dx, gs, ga, fd, ps, _, rfl, hH, hat, hfn, hb, F, ow, io1, [x], m1, r1, (rp.ex x1 r1).o, .cons v1 .nil, rfl, ?_⟩
      cases q : fn g [x] m1 with
      | exc y m2 => rw [q] at p1; exact p1.elim
      | bad => rw [q] at p1; exact p1.elim
      | ok d m2 =>
        rw [q] at p1
        have p1 : Post S W ow io1 H1 σ Q (optR (duD kd d) m2) := p1
        intro io2 H2 v2 x2 r2 w2
        cases e : duD kd d with
        | none => rw [e] at p1; exact p1.elim
        | some d' =>
          obtain ⟨e1, e2⟩ := duD_rv e w2
          subst e1
          rw [e] at p1
          exact ⟨e2, p1 io2 H2 v2 x2 r2 w2⟩
end
end Mp
end
section
set_option Elab.async false
set_option linter.all false
set_option maxRecDepth 100000
set_option maxHeartbeats 2000000
/-! MpIns3: == and != by an own __eq__. -/
namespace Mp
open PySem PySem.Spec PyProof.Rows L2
section
variable {prog : Program} {w : World} {A : Around} {E : Value → Shared → Prop} {s : Shared} {K : PySem.W.Frag} {x C L f : Addr} {h₀ : Heap} {mm : Str → Option Value} {ox : Obj} {od : Option Obj} {b tb : Value}
theorem ifBound_objNe {M : Model} {args : List Value} {Q : Option Value → Shared → Prop} (X : K.In s.heap) (I : PySem.W.InstAt s.heap x ox C od) (hs : PySem.W.findIn K (.ref C) "__ne__" = some (some (.builtin "object.__ne__")))
    (h : wpAny M A (call (.builtin "object.__ne__") (.ref x :: args)) (fun v => Q (some v)) E s) : wpAny M A (callSpecialIfBound? (.ref x) "__ne__" args) Q E s := by
  simp only [callSpecialIfBound?, bindSpecialIfBound?]
  refine wpAny_holding (wpAny_bind (wpAny_bind (wpAny_bind (I.type.here ((PySem.W.looks_findIn X hs).here ?_)))))
  refine wpAny_bind (wpAny_askSetting (wpAny_ite ?_))
  have fin : wpAny M A (call (.builtin "object.__ne__") ([.ref x] ++ args) >>= fun v => pure (some v)) Q E s := wpAny_bind (wpAny_mono h (fun v s' h' => wpAny_pure h') fun _ _ h' => h')
  split
  · exact wpAny_bind (wpAny_of_eq (F.cmp_object.ne.bind _) (wpAny_pure (by exact fin)))
  · exact wpAny_tryCatch (wpAny_bind (wpAny_of_eq (F.cmp_object.ne.bind _) (wpAny_pure (by exact fin))))
theorem entry_ne (hu : A.units < cLine) (X : K.In s.heap) (I : PySem.W.InstAt s.heap x ox C od) (hs : PySem.W.findIn K (.ref C) "__eq__" = some (some (.ref f))) (hf : PySem.W.isFn K (.ref f) = true) {Q : Fin → Shared → Prop}
    (h : wpAny (model prog w) A (call (.ref f) [.ref x, b]) (fun v s' => ∃ t, v = .bool t ∧ Q (.done (.ret (.bool (!t)))) s') E s) :
    wpAny (model prog w) A (Builtin.«object.__ne__» ⟨[.ref x, b], []⟩) Q E s := by
  unfold Builtin.«object.__ne__»
  repeat (first
    | with_reducible refine wpAny_cRoomFor hu ?_
    | (refine wpAny_bind (m := callSpecialIfBound? (.ref x) (Str.ofString "__eq__") [b])
        (PySem.W.ifBound_K X I hs hf (wpAny_mono h (fun r s' hr => by
          obtain ⟨t, rfl, hq⟩ := hr
          repeat (first | exact hq | exact wpAny_pure hq | exact wpAny_truthy_bool hq | (refine wpAny_bind (m := truthy (.bool _)) (wpAny_truthy_bool ?_)) | wp_step)) fun _ _ e => e)))
    | wp_step)
theorem ne_K {Q : Value → Shared → Prop} (hu : A.units + 1 < cLine) (FF : PyProof.Rows.Fr h₀ L s.heap mm) (X₀ : K.In h₀) (I : PySem.W.InstAt s.heap x ox C od) (hb : PySem.W.Looks (model prog w) s.heap (typeOf b) tb) (hn : PySem.W.notFirst K C tb = true)
    (hne : PySem.W.findIn K (.ref C) "__ne__" = some (some (.builtin "object.__ne__"))) (hm : PySem.W.mroIn K C (.type "object") = some true) (hs : PySem.W.findIn K (.ref C) "__eq__" = some (some (.ref f))) (hf : PySem.W.isFn K (.ref f) = true)
    (h : wpAny (model prog w) A.in1 (call (.ref f) [.ref x, b]) (fun v s' => ∃ t, v = .bool t ∧ Q (.bool (!t)) s') E s) : wpAny (model prog w) A (richCompare .NotEq (.ref x) b) Q E s := by
  have X := X₀.keeps FF.keep
  have one : wpAny (model prog w) A (tryCompare (.ref x) "__ne__" b) (fun r s' => ∃ v, r = some v ∧ Q v s') E s := by
    unfold tryCompare
    refine wpAny_bind (ifBound_objNe X I hne (wpAny_call (codeAny_call_builtin F.cmp_object.ne.plain F.cmpEntry_ne (PySem.W.check_slot F.cmpKind_ne F.cmpSplit_ne (I.type.andThen (PySem.W.looks_mroIn X hm)) (F.cmpArgs_ne _ _)
      (entry_ne (A := A.in1) hu X I hs hf (wpAny_mono h (fun v s' hv => ?_) fun _ _ e => e))))))
    obtain ⟨t, rfl, hq⟩ := hv
    first | exact ⟨t, rfl, wpAny_pure ⟨_, rfl, hq⟩⟩ | exact ⟨t, rfl, ⟨_, rfl, hq⟩⟩ | exact ⟨t, rfl, _, rfl, wpAny_pure ⟨_, rfl, hq⟩⟩
  unfold richCompare
  simp only [oneThing_ref]
  refine wpAny_holding (wpAny_bind (wpAny_cRoomFor (by omega) ?_))
  refine wpAny_bind (I.type.here (wpAny_bind (hb.here ?_)))
  split
  · rename_i q
    have e : PySem.W.subIn K tb (.ref C) = some false := by
      rcases Bool.or_eq_true_iff.mp hn with e | e
      · rw [beq_iff_eq.mp e] at q; simp at q
      · exact beq_iff_eq.mp e
    refine wpAny_bind ((PySem.W.looks_subIn X e).here ?_)
    simp only [Bool.false_eq_true, if_false]
    refine wpAny_bind (wpAny_mono one (fun r s' z => ?_) fun _ _ e => e)
    obtain ⟨v, rfl, hq⟩ := z
    exact wpAny_pure hq
  · refine wpAny_bind (wpAny_pure ?_)
    simp only [Bool.false_eq_true, if_false]
    refine wpAny_bind (wpAny_mono one (fun r s' z => ?_) fun _ _ e => e)
    obtain ⟨v, rfl, hq⟩ := z
    exact wpAny_pure hq
end
/-- the class of a value, as the machine asks it -/
def tyV (S : Sta) : D → MH → Option Value
  | .non, _ => some (.type "NoneType")
  | .bl _, _ => some (.type "bool")
  | .int _, _ => some (.type "int")
  | .str _, _ => some (.type "str")
  | .tup _, _ => some (.type "tuple")
  | .lst _, _ => some (.type "list")
  | .fz _, _ => some (.type "list")
  | .dct _ _, _ => some (.type "dict")
  | .cls _, _ => none
  | .ins C _ _, _ => some (.ref (S.ca C))
  | .ref n, m => match m[n]? with
    | some (.lst _) => some (.type "list")
    | some (.dct _ _) => some (.type "dict")
    | some (.ins C _ _) => some (.ref (S.ca C))
    | none => none
section
variable {X : Cx} {S : Sta} {W : WX} {a b : Expr} {fa fb : Fe} {pos : Pos} {k f : Nat} {ci : Ci} {fn : Nat → List D → MH → R D}
theorem looks_lst {pins : List (Addr × Obj)} {σ : L2.St} {H : Hp} {s : Shared} (I : Inv X pins σ H s) {aa : Addr} {vs : List V} (h : SqL X.K H aa vs) {M : Model} : PySem.W.Looks M s.heap (typeOf (.ref aa)) (.type "list") := by
  obtain ⟨its, rv, p, _⟩ := I.list h
  obtain ⟨o, ho, hc, _⟩ := p.isList
  rw [← hc]
  exact (PySem.W.Looks.ld ho).andThen .now
theorem looks_ins {pins : List (Addr × Obj)} {σ : L2.St} {H : Hp} {s : Shared} (I : Inv X pins σ H s) {aa C dx : Addr} {gs : List (Str × V)} (h : H aa = some (.ins C dx gs)) {M : Model} : PySem.W.Looks M s.heap (typeOf (.ref aa)) (.ref C) := by
  obtain ⟨mA, O, _⟩ := ins_get I.hok h
  obtain ⟨od, J, _⟩ := O.look
  exact J.type
theorem looks_dk {pins : List (Addr × Obj)} {σ : L2.St} {H : Hp} {s : Shared} (I : Inv X pins σ H s) {aa : Addr} {kvs : List (Key × V)} (h : H aa = some (.dK kvs)) {M : Model} : PySem.W.Looks M s.heap (typeOf (.ref aa)) (.type "dict") := by
  obtain ⟨_, _, vs, _, p⟩ := (show ObjOk X.prog X.w H s.heap aa (.dK kvs) from I.hok aa _ h)
  obtain ⟨o, es, ep, h1, h2, _⟩ := p
  rw [← h2.1]
  exact (PySem.W.Looks.ld h1).andThen .now
theorem looks_rv {pins : List (Addr × Obj)} {σ : L2.St} {H : Hp} {s : Shared} {ow : Addr → Prop} {io : List Addr} {m : MH} {y : D} {v : V} {u t : Value} (I : Inv X pins σ H s) (ov : Ov S X) (rh : RH S ow io H m) (h : RV S ow io H y v) (r : RelV v u) (e : tyV S y m = some t) {M : Model} : PySem.W.Looks M s.heap (typeOf u) t := by
  cases y with
  | non => cases e; cases h.of_non; cases (show u = Value.none from r); exact .now
  | bl _ => cases e; cases h.of_bl; cases (show u = Value.bool _ from r); exact .now
  | int _ => cases e; cases h.of_int; obtain ⟨t, rfl⟩ := (show ∃ t, u = Value.int _ t from r); exact .now
  | str _ => cases e; cases h.of_str; obtain ⟨t, rfl⟩ := (show ∃ t, u = Value.str _ t from r); exact .now
  | tup xs =>
    cases e
    unfold RV at h
    obtain ⟨aa, vs, rfl, h1, _⟩ := h
    obtain rfl : u = Value.ref aa := r
    have h1 : SqT X.K H aa vs := by rw [ov.K]; exact h1.imp (fun z => z.1) id
    obtain ⟨its, rv, p, _⟩ := I.tuple h1
    obtain ⟨o, ho, hc, _⟩ := id p
    rw [← hc]
    exact (PySem.W.Looks.ld ho).andThen .now
  | lst xs =>
    cases e
    unfold RV at h
    obtain ⟨aa, vs, rfl, h1, _⟩ := h
    obtain rfl : u = Value.ref aa := r
    exact looks_lst I (.inl (.inl h1.1))
  | fz xs =>
    cases e
    unfold RV at h
    obtain ⟨aa, vs, rfl, h1, _⟩ := h
    obtain rfl : u = Value.ref aa := r
    exact looks_lst I (by rw [ov.K]; exact h1.imp (fun z => z.1) id)
  | dct ks xs =>
    cases e
    unfold RV at h
    obtain ⟨aa, kvs, rfl, h1, _⟩ := h
    obtain rfl : u = Value.ref aa := r
    exact looks_dk I h1.1
  | cls _ => cases e
  | ins C ns ds =>
    cases e
    unfold RV at h
    obtain ⟨aa, dx, fs, rfl, h1, _⟩ := h
    obtain rfl : u = Value.ref aa := r
    exact looks_ins I h1.1
  | ref n =>
    unfold RV at h
    obtain ⟨aa, rfl, h0⟩ := h
    obtain rfl : u = Value.ref aa := r
    unfold tyV at e
    dsimp only at e
    cases em : m[n]? with
    | none => rw [em] at e; cases e
    | some mo =>
      rw [em] at e
      obtain ⟨a', e1, e2, _⟩ := rh.at_ n _ em
      rw [h0] at e1
      cases e1
      cases mo with
      | lst xs => cases e; obtain ⟨vs, e3, _⟩ := e2; exact looks_lst I (.inl (.inl e3))
      | dct ks xs => cases e; obtain ⟨kvs, e3, _⟩ := e2; exact looks_dk I e3
      | ins C ns ds => cases e; obtain ⟨dx, fs, e3, _⟩ := e2; exact looks_ins I e3
theorem sub_ty {K : PySem.W.Frag} {C : Addr} : ∀ T ∈ (["NoneType", "bool", "int", "str", "tuple", "list", "dict"] : List String), PySem.W.subIn K (.type T) (.ref C) = some false := by
  intro T hT
  have key : ∃ l : List String, fastBuiltinMro T = some (l.map Value.type) := by
    simp only [List.mem_cons, List.not_mem_nil, or_false] at hT
    rcases hT with rfl | rfl | rfl | rfl | rfl | rfl | rfl
    · exact ⟨["NoneType", "object"], by decide +kernel⟩
    · exact ⟨["bool", "int", "object"], by decide +kernel⟩
    · exact ⟨["int", "object"], by decide +kernel⟩
    · exact ⟨["str", "object"], by decide +kernel⟩
    · exact ⟨["tuple", "object"], by decide +kernel⟩
    · exact ⟨["list", "object"], by decide +kernel⟩
    · exact ⟨["dict", "object"], by decide +kernel⟩
  obtain ⟨l, e⟩ := key
  show (fastBuiltinMro T).map (·.contains (.ref C)) = some false
  rw [e]
  simp
/-- what may stand right: its class does not go first -/
theorem notFirst_ok {C : Nat} {y : D} {m : MH} (e : eqY C y m = true) : ∃ t, tyV S y m = some t ∧ PySem.W.notFirst S.K (S.ca C) t = true := by
  have ty : ∀ T ∈ (["NoneType", "bool", "int", "str", "tuple", "list", "dict"] : List String), PySem.W.notFirst S.K (S.ca C) (.type T) = true := fun T hT => by
    unfold PySem.W.notFirst
    rw [sub_ty T hT]
    simp
  have self : PySem.W.notFirst S.K (S.ca C) (.ref (S.ca C)) = true := by
    unfold PySem.W.notFirst
    simp
  cases y with
  | ins C' ns ds =>
    have : C' = C := by unfold eqY at e; simpa using e
    subst this
    exact ⟨_, rfl, self⟩
  | ref n =>
    unfold eqY at e
    unfold tyV
    dsimp only at e ⊢
    cases em : m[n]? with
    | none => rw [em] at e; cases e
    | some mo =>
      rw [em] at e
      cases mo with
      | lst xs => exact ⟨_, rfl, ty _ (by simp)⟩
      | dct ks xs => exact ⟨_, rfl, ty _ (by simp)⟩
      | ins C' ns ds =>
        have : C' = C := by simpa using e
        subst this
        exact ⟨_, rfl, self⟩
  | non => exact ⟨_, rfl, ty _ (by simp)⟩
  | bl _ => exact ⟨_, rfl, ty _ (by simp)⟩
  | int _ => exact ⟨_, rfl, ty _ (by simp)⟩
  | str _ => exact ⟨_, rfl, ty _ (by simp)⟩
  | tup _ => exact ⟨_, rfl, ty _ (by simp)⟩
  | lst _ => exact ⟨_, rfl, ty _ (by simp)⟩
  | fz _ => exact ⟨_, rfl, ty _ (by simp)⟩
  | dct _ _ => exact ⟨_, rfl, ty _ (by simp)⟩
  | cls _ => cases e
/-- the class at C compares by its own __eq__ -/
def EqiOk (S : Sta) (k C f : Nat) (fn : List D → MH → R D) : Prop := MthOk S k C f 2 fn ∧ PySem.W.findIn S.K (.ref (S.ca C)) "__ne__" = some (some (.builtin "object.__ne__")) ∧ PySem.W.mroIn S.K (S.ca C) (.type "object") = some true
def rEqi (X : Cx) (S : Sta) (k : Nat) (ng : Bool) : R2 := fun v w H Q => ∃ (aa C dx : Addr) (gs : List (Str × V)) (ga : Addr) (fd : FuncData) (ps : List Str) (sp : Sp), v = .ref aa ∧ H aa = some (.ins C dx gs) ∧ PySem.W.findIn X.K (.ref C) "__eq__" = some (some (.ref ga)) ∧ PySem.W.isFn X.K (.ref ga) = true ∧
  PySem.W.findIn X.K (.ref C) "__ne__" = some (some (.builtin "object.__ne__")) ∧ PySem.W.mroIn X.K C (.type "object") = some true ∧ (∃ (ow : Addr → Prop) (io : List Addr) (m : MH) (y : D) (t : Value), RH S ow io H m ∧ RV S ow io H y w ∧ tyV S y m = some t ∧ PySem.W.notFirst X.K C t = true) ∧
  Binds X.K fd ps [] ∧ FnOk X.prog X.w X.K X.mg X.base (L2.CX X.prog X.w) k ga fd ps sp ∧ sp [.ref aa, w] H (fun z H' => ∃ t, z = .bl t ∧ Q (.bl (xor ng t)) H') E0
theorem op_eqi (ov : Ov S X) (hr : Room (k + 1) X.A) : OpR X (compareOp .Eq) (rEqi X S k false) := by
  rintro pins s σ H v w u1 u2 Q I r1 r2 ⟨aa, C, dx, gs, ga, fd, ps, sp, rfl, hH, hs, hf, hne, hmo, ⟨ow, io, m, y, t, rh, hy, ht, hn⟩, hb, F, q⟩
  obtain rfl : u1 = Value.ref aa := r1
  obtain ⟨mA, O, _⟩ := ins_get I.hok hH
  obtain ⟨od, J, _⟩ := O.look
  obtain ⟨m', hF⟩ := I.fr
  show wpAny (model X.prog X.w) X.A (richCompare .Eq (.ref aa) u2) (EP X pins σ Q) X.xe s
  refine PySem.W.cmp_K (op := .Eq) hr.units0 hF I.ok.mod.kin J (looks_rv I ov rh hy r2 ht) hn hs hf ?_
  refine thn (run_fn0 (us := [.ref aa, u2]) (vs := [.ref aa, w]) F (hr.mono (Nat.le_succ k)) hb I I.env0 (.cons rfl (.cons r2 .nil)) q) fun z s1 ⟨v, H1, I1, rv, ⟨t, e1, q1⟩⟩ => ?_
  subst e1
  obtain rfl : z = Value.bool t := rv
  have e2 : xor false t = t := by cases t <;> rfl
  rw [e2] at q1
  exact ⟨.bl t, H1, I1, rfl, q1⟩
theorem op_nei (ov : Ov S X) (hr : Room (k + 1) X.A) : OpR X (compareOp .NotEq) (rEqi X S k true) := by
  rintro pins s σ H v w u1 u2 Q I r1 r2 ⟨aa, C, dx, gs, ga, fd, ps, sp, rfl, hH, hs, hf, hne, hmo, ⟨ow, io, m, y, t, rh, hy, ht, hn⟩, hb, F, q⟩
  obtain rfl : u1 = Value.ref aa := r1
  obtain ⟨mA, O, _⟩ := ins_get I.hok hH
  obtain ⟨od, J, _⟩ := O.look
  obtain ⟨m', hF⟩ := I.fr
  show wpAny (model X.prog X.w) X.A (richCompare .NotEq (.ref aa) u2) (EP X pins σ Q) X.xe s
  refine ne_K (by have := hr.units; omega) hF I.ok.mod.kin J (looks_rv I ov rh hy r2 ht) hn hne hmo hs hf ?_
  refine thn (run_fn0 (us := [.ref aa, u2]) (vs := [.ref aa, w]) F hr.in1 hb I I.env0.in1 (.cons rfl (.cons r2 .nil)) q) fun z s1 ⟨v, H1, I1, rv, ⟨t, e1, q1⟩⟩ => ?_
  subst e1
  obtain rfl : z = Value.bool t := rv
  have e2 : xor true t = !t := by cases t <;> rfl
  rw [e2] at q1
  exact ⟨t, rfl, .bl (!t), H1, I1, rfl, q1⟩
def eqiF (ci : Ci) (fn : Nat → List D → MH → R D) (ng : Bool) (f : Nat) (fa fb : Fe) : Fe := fun fr m => (fa fr m).bind fun x m1 => (fb fr m1).bind fun y m2 => match insD x m2 with
    | some (C, _, _) => match ci.mt C f with
      | some g => if eqY C y m2 = true then (isOk (fn g [x, y] m2)).bind fun d m3 => match d with
        | .bl t => .ok (.bl (xor ng t)) m3
        | _ => .bad
        else .bad
      | none => .bad
    | none => optR ((eqD x y).map fun t => .bl (xor ng t)) m2
def ngOp (ng : Bool) : CmpOp := if ng = true then .NotEq else .Eq
def ngCo (ng : Bool) : CO := if ng = true then .ne else .eq
theorem ng_op (ng : Bool) : coOp (ngCo ng) = ngOp ng := by cases ng <;> rfl
theorem op_eqn (ng : Bool) (ov : Ov S X) (hr : Room (k + 1) X.A) : OpR X (compareOp (ngOp ng)) (rEqi X S k ng) := by
  cases ng with
  | false => exact op_eqi ov hr
  | true => exact op_nei ov hr
theorem eqi_core (ng : Bool) (hu : X.A.units + 65 < cLine) (ov : Ov S X) (hnm : S.nm f = "__eq__") (hr : Room (k + 1) X.A) (hM : ∀ C g, ci.mt C f = some g → EqiOk S k C f (fn g)) : ∃ r, OpR X (compareOp (ngOp ng)) r ∧
    ∀ (σ : L2.St) (H : Hp) (Q : VK), tR S W (eqiF ci fn ng f fa fb) σ H Q → tOp r (tR S W fa) (tR S W fb) σ H Q := by
  obtain ⟨r0, h0, g0⟩ := co_ok (S := S) (W := W) (X := X) hu ov (ngCo ng)
  rw [ng_op] at h0
  refine ⟨_, OpR.or h0 (op_eqn (S := S) (k := k) ng ov hr), fun σ H Q ⟨ow, io, fr, m, rp, p⟩ => ?_⟩
  refine ⟨ow, io, fr, m, rp, p.seq fun x m1 io1 H1 v x1 r1 v1 p1 => ?_⟩
  refine ⟨ow, io1, fr, m1, rp.ex x1 r1, p1.seq fun y m2 io2 H2 w x2 r2 w2 p2 => ?_⟩
  have v2 := v1.ex x2
  have rp2 := (rp.ex x1 r1).ex x2 r2
  cases ei : insD x m2 with
  | none =>
    rw [ei] at p2
    refine .inl (g0 ow io2 H2 fr m2 σ x y v w Q rp2 v2.o w2.o ?_)
    dsimp only at p2
    cases ng with
    | false =>
      show Post S W ow io2 H2 σ Q (optR ((eqD x y).map .bl) m2)
      have e : (fun t => D.bl (xor false t)) = D.bl := by funext t; cases t <;> rfl
      rw [e] at p2
      exact p2
    | true =>
      show Post S W ow io2 H2 σ Q (optR ((eqD x y).map fun z => .bl (!z)) m2)
      have e : (fun t => D.bl (xor true t)) = fun z => D.bl (!z) := by funext t; cases t <;> rfl
      rw [e] at p2
      exact p2
  | some t =>
    obtain ⟨C, ns, ds⟩ := t
    rw [ei] at p2
    dsimp only at p2
    obtain ⟨aa, dx, gs, rfl, hH, q1, q2⟩ := insD_ok r2 v2 ei
    cases ep : ci.mt C f with
    | none => rw [ep] at p2; exact p2.elim
    | some g =>
      rw [ep] at p2
      dsimp only at p2
      obtain ⟨⟨ga, fd, ps, c, hme, hps, hbd, F⟩, hne, hmo⟩ := hM C g ep
      have F := fnok_over ov F
      have hat := hme.at_
      have hfn := hme.fn
      rw [hnm] at hat
      by_cases hy : eqY C y m2 = true
      · rw [if_pos hy] at p2
        obtain ⟨t, ht, hn⟩ := notFirst_ok (S := S) hy
        rw [← ov.K] at hat hfn hbd hne hmo hn
        refine .inr ⟨aa, _, dx, gs, ga, fd, ps, _, rfl, hH, hat, hfn, hne, hmo, ⟨ow, io2, m2, y, t, r2, w2, ht, hn⟩, hbd, F, ow, io2, [x, y], m2, r2, rp2.o, .cons v2 (.cons w2 .nil), rfl, ?_⟩
        cases q : fn g [x, y] m2 with
        | exc z m3 => rw [q] at p2; exact p2.elim
        | bad => rw [q] at p2; exact p2.elim
        | ok d m3 =>
          rw [q] at p2
          intro io3 H3 v3 x3 r3 w3
          cases d with
          | bl t =>
            cases w3.of_bl
            exact ⟨t, rfl, p2 io3 H3 _ x3 r3 .mk_bl⟩
          | _ => exact p2.elim
      · rw [if_neg hy] at p2
        exact p2.elim
theorem se_eqI (ng : Bool) (hu : X.A.units + 65 < cLine) (ov : Ov S X) (hnm : S.nm f = "__eq__") (hr : Room (k + 1) X.A) (hM : ∀ C g, ci.mt C f = some g → EqiOk S k C f (fn g)) (ha : SE X S W a fa) (hb : SE X S W b fb) (hm : behindInMarks (ngOp ng) b = false) :
    SE X S W (.Compare a [ngOp ng] [b] pos) (eqiF ci fn ng f fa fb) := by
  obtain ⟨r, h, g⟩ := eqi_core (W := W) (fa := fa) (fb := fb) ng hu ov hnm hr hM
  exact PE.imp (pe_cmpR h ha hb hm) g
theorem isB_eqi (ng : Bool) : IsB (eqiF ci fn ng f fa fb) := by
  intro fr m d m' e
  unfold eqiF at e
  obtain ⟨x, m1, _, e⟩ := bind_ok e
  obtain ⟨y, m2, _, e⟩ := bind_ok e
  split at e
  · split at e
    · split at e
      · obtain ⟨z, m3, _, e⟩ := bind_ok e
        split at e
        · cases e; exact ⟨_, rfl⟩
        · cases e
      · cases e
    · cases e
  · cases q : eqD x y with
    | none => rw [q] at e; cases e
    | some t => rw [q] at e; cases e; exact ⟨_, rfl⟩
theorem st_eqI (ng : Bool) (hu : X.A.units + 65 < cLine) (ov : Ov S X) (hnm : S.nm f = "__eq__") (hr : Room (k + 1) X.A) (hM : ∀ C g, ci.mt C f = some g → EqiOk S k C f (fn g)) (ha : SE X S W a fa) (hb : SE X S W b fb) (hm : behindInMarks (ngOp ng) b = false) :
    STt X S W (.Compare a [ngOp ng] [b] pos) (eqiF ci fn ng f fa fb) := by
  obtain ⟨r, h, g⟩ := eqi_core (W := W) (fa := fa) (fb := fb) ng hu ov hnm hr hM
  exact PT.imp (pt_cmpR h ha hb hm) fun σ H Q ⟨ow, io, fr, m, rp, p⟩ => g _ _ _ ⟨ow, io, fr, m, rp, post_of_tst (isB_eqi ng) p⟩
end
end Mp
end
section
set_option Elab.async false
set_option linter.all false
set_option maxRecDepth 100000
set_option maxHeartbeats 2000000
/-! MpIns4: isinstance against an own class; sorted({x: 0 for x in ..}). -/
namespace Mp
open PySem PySem.Spec PyProof.Rows L2
def tyNames : List String := ["NoneType", "bool", "int", "str", "tuple", "list", "dict"]
/-- the class at C, asked for by isinstance -/
structure IscOk (S : Sta) (ci : Ci) (C : Nat) : Prop where
  ty : ∀ T ∈ tyNames, PySem.W.kitOne S.K (.type T) (.ref (S.ca C)) = some false
  ins : ∀ C' b, ci.isc C' C = some b → Cls S.K (S.ca C') ∧ PySem.W.findIn S.K (.ref (S.ca C')) "__class__" = some (some (.builtin "object.__class__")) ∧ PySem.W.specialIn S.K (.builtin "object.__class__") "__get__" = some (some (.builtin "getset_descriptor.__get__")) ∧
    PySem.W.takesIn S.K (.builtin "object.__class__") = some true ∧ PySem.W.mroIn S.K (S.ca C') (.type "object") = some true ∧ PySem.W.kitOne S.K (.ref (S.ca C')) (.ref (S.ca C)) = some b
section
variable {X : Cx} {S : Sta} {W : WX} {a b : Expr} {fa fb : Fe} {pos : Pos} {k f : Nat} {ci : Ci}
theorem isinst_ins {pins : List (Addr × Obj)} {σ : L2.St} {H : Hp} {s : Shared} {aa C dx : Addr} {gs : List (Str × V)} {c : Value} {t : Bool} {A : Around} {E : Value → Shared → Prop} {Q : Value → Shared → Prop} (I : Inv X pins σ H s) (hH : H aa = some (.ins C dx gs)) (cl : Cls X.K C)
    (ha : PySem.W.findIn X.K (.ref C) "__class__" = some (some (.builtin "object.__class__"))) (hn : PySem.W.specialIn X.K (.builtin "object.__class__") "__get__" = some (some (.builtin "getset_descriptor.__get__")))
    (htk : PySem.W.takesIn X.K (.builtin "object.__class__") = some true) (hm : PySem.W.mroIn X.K C (.type "object") = some true) (e : PySem.W.kitOne X.K (.ref C) c = some t) (h : ∀ tk, Q (.bool t) { s with toks := tk }) :
    wpAny (model X.prog X.w) A (call (.builtin "isinstance") [.ref aa, c]) Q E s :=
  isinst_ok (x := .ref aa) I rfl (.ins hH cl ha hn htk hm) e h
theorem isinst_lst {pins : List (Addr × Obj)} {σ : L2.St} {H : Hp} {s : Shared} {aa : Addr} {vs : List V} {c : Value} {t : Bool} {A : Around} {E : Value → Shared → Prop} {Q : Value → Shared → Prop} (I : Inv X pins σ H s) (hl : SqL X.K H aa vs) (e : PySem.W.kitOne X.K (.type "list") c = some t) (h : ∀ tk, Q (.bool t) { s with toks := tk }) :
    wpAny (model X.prog X.w) A (call (.builtin "isinstance") [.ref aa, c]) Q E s := by
  obtain ⟨its, rv, p, _⟩ := I.list hl
  obtain ⟨o, ho, hc, _⟩ := p.isList
  exact PySem.W.kia_one PySem.W.kitx_list I.kIn ⟨o, ho, hc⟩ e (fun z => nomatch z) h
theorem isinst_rv {pins : List (Addr × Obj)} {σ : L2.St} {H : Hp} {s : Shared} {ow : Addr → Prop} {io : List Addr} {m : MH} {x : D} {v : V} {u : Value} {C : Nat} {t : Bool} {A : Around} {E : Value → Shared → Prop} {Q : Value → Shared → Prop} (I : Inv X pins σ H s) (ov : Ov S X) (rh : RH S ow io H m) (h : RV S ow io H x v) (r : RelV v u)
    (O : IscOk S ci C) (e : isCD ci.isc C m x = some t) (hq : ∀ tk, Q (.bool t) { s with toks := tk }) : wpAny (model X.prog X.w) A (call (.builtin "isinstance") [u, .ref (S.ca C)]) Q E s := by
  have ty : ∀ T ∈ tyNames, PySem.W.kitOne X.K (.type T) (.ref (S.ca C)) = some false := by rw [ov.K]; exact O.ty
  have key : ∀ {C' : Nat} {aa dx : Addr} {gs : List (Str × V)}, H aa = some (.ins (S.ca C') dx gs) → ci.isc C' C = some t → wpAny (model X.prog X.w) A (call (.builtin "isinstance") [.ref aa, .ref (S.ca C)]) Q E s := fun hH e => by
    obtain ⟨c1, c2, c3, c4, c5, c6⟩ := O.ins _ _ e
    rw [← ov.K] at c1 c2 c3 c4 c5 c6
    exact isinst_ins I hH c1 c2 c3 c4 c5 c6 hq
  cases x with
  | non => cases e; cases h.of_non; cases (show u = Value.none from r); exact PySem.W.kia_one PySem.W.kitx_none I.kIn True.intro (ty _ (by decide)) (fun z => nomatch z) hq
  | bl _ => cases e; cases h.of_bl; cases (show u = Value.bool _ from r); exact PySem.W.kia_one PySem.W.kitx_bool I.kIn True.intro (ty _ (by decide)) (fun z => nomatch z) hq
  | int _ => cases e; cases h.of_int; obtain ⟨t, rfl⟩ := (show ∃ t, u = Value.int _ t from r); exact PySem.W.kia_one PySem.W.kitx_int I.kIn True.intro (ty _ (by decide)) (fun z => nomatch z) hq
  | str _ => cases e; cases h.of_str; obtain ⟨t, rfl⟩ := (show ∃ t, u = Value.str _ t from r); exact PySem.W.kia_one PySem.W.kitx_str I.kIn True.intro (ty _ (by decide)) (fun z => nomatch z) hq
  | tup xs =>
    cases e
    unfold RV at h
    obtain ⟨aa, vs, rfl, h1, _⟩ := h
    obtain rfl : u = Value.ref aa := r
    have h1 : SqT X.K H aa vs := by rw [ov.K]; exact h1.imp (fun z => z.1) id
    obtain ⟨its, rv, p, _⟩ := I.tuple h1
    obtain ⟨o, ho, hc, _⟩ := id p
    exact PySem.W.kia_one PySem.W.kitx_tuple I.kIn ⟨o, ho, hc⟩ (ty _ (by decide)) (fun z => nomatch z) hq
  | lst xs =>
    cases e
    unfold RV at h
    obtain ⟨aa, vs, rfl, h1, _⟩ := h
    obtain rfl : u = Value.ref aa := r
    exact isinst_lst I (.inl (.inl h1.1)) (ty _ (by decide)) hq
  | fz xs =>
    cases e
    unfold RV at h
    obtain ⟨aa, vs, rfl, h1, _⟩ := h
    obtain rfl : u = Value.ref aa := r
    exact isinst_lst I (by rw [ov.K]; exact h1.imp (fun z => z.1) id) (ty _ (by decide)) hq
  | dct ks xs =>
    cases e
    unfold RV at h
    obtain ⟨aa, kvs, rfl, h1, _⟩ := h
    obtain rfl : u = Value.ref aa := r
    exact isinst_ok (x := .ref aa) I rfl (.dK h1.1) (ty _ (by decide)) hq
  | cls _ => cases e
  | ins C' ns ds =>
    unfold RV at h
    obtain ⟨aa, dx, fs, rfl, h1, _⟩ := h
    obtain rfl : u = Value.ref aa := r
    exact key h1.1 e
  | ref n =>
    unfold RV at h
    obtain ⟨aa, rfl, h0⟩ := h
    obtain rfl : u = Value.ref aa := r
    unfold isCD at e
    dsimp only at e
    cases em : m[n]? with
    | none => rw [em] at e; cases e
    | some mo =>
      rw [em] at e
      obtain ⟨a', e1, e2, _⟩ := rh.at_ n _ em
      rw [h0] at e1
      cases e1
      cases mo with
      | lst xs => cases e; obtain ⟨vs, e3, _⟩ := e2; exact isinst_lst I (.inl (.inl e3)) (ty _ (by decide)) hq
      | dct ks xs => cases e; obtain ⟨kvs, e3, _⟩ := e2; exact isinst_ok (x := .ref aa) I rfl (.dK e3) (ty _ (by decide)) hq
      | ins C' ns ds => obtain ⟨dx, fs, e3, _⟩ := e2; exact key e3 e
def rIsc (X : Cx) (S : Sta) (ci : Ci) (C : Nat) : List V → Hp → VK → Prop := fun xs H Q => ∃ (v : V) (ow : Addr → Prop) (io : List Addr) (m : MH) (x : D) (t : Bool), xs = [v, .ref (S.ca C)] ∧ RH S ow io H m ∧ RV S ow io H x v ∧ isCD ci.isc C m x = some t ∧ Q (.bl t) H
theorem call_isc (ov : Ov S X) {C : Nat} (O : IscOk S ci C) : CallR X (.builtin "isinstance") (rIsc X S ci C) := by
  rintro pins s σ H xs us Q I r ⟨v, ow, io, m, x, t, rfl, rh, hv, e, q⟩
  cases r with
  | cons r rr =>
    cases rr with
    | cons r2 rr =>
      cases rr
      cases r2
      exact isinst_rv I ov rh hv r O e fun tk => ⟨.bl t, H, I.tok tk, rfl, q⟩
def iscF (ci : Ci) (C : Nat) (fa : Fe) : Fe := fun fr m => (fa fr m).bind fun x m1 => optR ((isCD ci.isc C m1 x).map .bl) m1
theorem se_isC {p p2 : Pos} {C : Nat} {x : Str} (ov : Ov S X) (O : IscOk S ci C) (hg : Gl X "isinstance") (hm : X.mg "isinstance" = none) (ha : SE X S W a fa) (hn : nst a = true) (hgx : Gl X x) (hmx : X.mg x = some (.ref (S.ca C))) (hd : (x == ("__debug__" : Str)) = false) :
    SE X S W (.Call (.Name "isinstance" p) [a, .Name x p2] [] pos) (iscF ci C fa) := by
  have px : PE X (.Name x p2) (fun σ H Q => Q (.ref (S.ca C)) H) := ⟨fun pins s σ H Q I h => ld_glob I hgx hmx ⟨.ref (S.ca C), H, I, rfl, h⟩ hd⟩
  refine PE.imp (pe_callB (call_isc ov O) hg hm boot_isi (pa_cons ha (pa_cons px pa_nil) (starEach_ns hn)) (by decide) (by decide) (starEach_ns hn) rfl) fun σ H Q ⟨ow, io, fr, m, rp, p⟩ => ?_
  refine ⟨ow, io, fr, m, rp, p.seq fun y m1 io1 H1 v x1 r1 v1 p1 => ?_⟩
  cases e : isCD ci.isc C m1 y with
  | none => rw [e] at p1; exact p1.elim
  | some t =>
    rw [e] at p1
    exact ⟨v, ow, io1, m1, y, t, rfl, r1, v1, e, p1.here r1 .mk_bl⟩
end
end Mp
end
section
set_option Elab.async false
set_option linter.all false
set_option maxRecDepth 100000
set_option maxHeartbeats 2000000
/-! MpIni: a new instance: self.f = e in __init__, what __init__ promises, C(..). -/
namespace Mp
open PySem PySem.Spec PyProof.Rows L2
section
variable {S : Sta} {W : WX} {ow0 ow : Addr → Prop} {io0 io : List Addr} {H0 H : Hp} {f : F} {m : MH} {σ : L2.St} {D : Ends}
theorem RSl.ndo {s : Sl} {v : V} {a : Addr} (h : RSl S ow io H s v) (o : Own s) (e : v = .ref a) : a ∉ io ∧ ∃ u, H a = some u ∧ wro u ∧ sol u := by
  cases s with
  | val d => exact o.elim
  | olst xs => obtain ⟨b, vs, rfl, h1, _, _, h4⟩ := h; cases e; exact ⟨h4, _, h1, True.intro, True.intro⟩
  | oins C ns ds => obtain ⟨b, dx, fs, rfl, h1, _, _, _, h5⟩ := h; cases e; exact ⟨h5, _, h1, True.intro, True.intro⟩
/-- an own object is written -/
theorem Rs.writeG (rs : Rs S ow0 io0 H0 ow io H f m σ) {i : Nat} {s0 s1 : Sl} {a : Addr} {u : HO} (e : f[i]? = some (some s0)) (o0 : Own s0) (e1 : σ[i]? = some (some (.ref a))) (so : sol u) (o1 : Own s1) (h1 : RSl S ow io (upd H a u) s1 (.ref a)) :
    Rs S ow0 io0 H0 ow io (upd H a u) (f.set i (some s1)) m σ ∧ Ey ow io H ow io (upd H a u) := by
  obtain ⟨v, g1, g2⟩ := rs.r.f.2 i _ e
  rw [e1] at g1
  cases g1
  obtain ⟨a', ea, g4⟩ := g2.own o0
  cases ea
  obtain ⟨g5, u0, eu, wu, _⟩ := g2.ndo o0 rfl
  have g6 : ¬ ow0 a := (rs.ap i i _ _ a e o0 e o0 e1 e1).2
  have g7 : NT H0 a := rs.n a g4 g6
  have y : Ey ow io H ow io (upd H a u) := .own g4 so
  have hil : i < f.length := (List.getElem?_eq_some_iff.mp e).1
  refine ⟨⟨⟨rs.en.pre, rs.en.new, fun b o hb so hn => ?_, fun b hb => rs.en.dom b (y.dom b hb)⟩, ⟨rs.r.h.own g4 so eu wu, ⟨by rw [List.length_set]; exact rs.r.f.1, fun j s hj => ?_⟩, fun b hb => fun z => rs.r.o b hb (y.dom b z)⟩, rs.s, rs.n, fun j k zs ws b hj oj hk ok h1 h2 => ?_⟩, y⟩
  · have hba : b ≠ a := fun z => g7.no (z ▸ hb) so
    rw [upd_ne hba]
    exact rs.en.keep b o hb so hn
  · by_cases hij : i = j
    · subst hij
      rw [List.getElem?_set_self hil] at hj
      cases hj
      exact ⟨_, e1, h1⟩
    · rw [List.getElem?_set_ne hij] at hj
      obtain ⟨v, q1, q2⟩ := rs.r.f.2 j s hj
      refine ⟨v, q1, ?_⟩
      cases s with
      | val d => exact RV.ey y q2
      | olst zs =>
        obtain ⟨b, ws, rfl, k1, k2, k3, k4⟩ := q2
        have hba : b ≠ a := fun z => hij ((rs.ap i j _ _ a e o0 hj True.intro e1 (z ▸ q1)).1)
        exact ⟨b, ws, rfl, by rw [upd_ne hba]; exact k1, k2.ey y, k3, k4⟩
      | oins C ns ds =>
        obtain ⟨b, dx, fs, rfl, k1, k2, k3, k4, k5⟩ := q2
        have hba : b ≠ a := fun z => hij ((rs.ap i j _ _ a e o0 hj True.intro e1 (z ▸ q1)).1)
        exact ⟨b, dx, fs, rfl, by rw [upd_ne hba]; exact k1, k2, k3.ey y, k4, k5⟩
  · have fj : ∃ zs', f[j]? = some (some zs') ∧ Own zs' := by
      by_cases hij : i = j
      · subst hij; exact ⟨_, e, o0⟩
      · rw [List.getElem?_set_ne hij] at hj; exact ⟨zs, hj, oj⟩
    have fk : ∃ ws', f[k]? = some (some ws') ∧ Own ws' := by
      by_cases hik : i = k
      · subst hik; exact ⟨_, e, o0⟩
      · rw [List.getElem?_set_ne hik] at hk; exact ⟨ws, hk, ok⟩
    obtain ⟨zs', fj, oj⟩ := fj
    obtain ⟨ws', fk, ok⟩ := fk
    exact rs.ap j k zs' ws' b fj oj fk ok h1 h2
theorem putF_new {n : Str} {v : V} : ∀ {fs : List (Str × V)}, n ∉ fs.map (·.1) → putF n v fs = fs ++ [(n, v)]
  | [], _ => rfl
  | (g, x) :: r, h => by
    rw [List.map_cons, List.mem_cons, not_or] at h
    have hg : ¬ g = n := fun z => h.1 z.symm
    show (if g = n then (g, v) :: r else (g, x) :: putF n v r) = _
    rw [if_neg hg, putF_new h.2]
    rfl
end
section
variable {X : Cx} {S : Sta} {W : WX} {e : Expr} {fe : Fe} {pos pos' np : Pos} {x name : Str} {ci : Ci} {g : Nat}
/-- self.f = e, self the new instance -/
theorem ss_fldO (ov : Ov S X) (hN : X.N[0]? = some x) (hv : Vis X.env.scope x) (hd : (x == ("__debug__" : Str)) = false) (hcd : (x == ("__classdict__" : Str)) = false) (hnm : S.nm g = name) (nm : NmI S g) (hF : ∀ C, ci.pr C g = some none → FldOk S C g)
    (he : SE X S W e fe) (hs : swapsWith e (some (.Attribute (.Name x np) name pos')) pos.line X.env = pure false) :
    PS X (.Assign [.Attribute (.Name x np) name pos'] e pos) (tS S W (fldOF ci g fe)) := by
  subst hnm
  refine PS.imp (ps_fld (pe_var hN hv hd hcd) he hs) fun D σ H ⟨ow0, io0, H0, ow, io, f, m, rs, p⟩ => ?_
  unfold fldOF at p
  split at p
  rotate_left
  · exact p.elim
  rename_i C ns ds r
  split at p
  rotate_left
  · exact p.elim
  rename_i hc
  refine ⟨ow, io, _, m, rs.r, p.seq rs fun d m1 io1 H1 v x1 r1 v1 p1 => ?_⟩
  obtain ⟨w, e1, a, dx, fs, rfl, h1, h2, h3, h4, h5⟩ := r1.r.f.2 0 (.oins C ns ds) rfl
  refine ⟨_, e1, a, S.ca C, dx, fs, rfl, h1, ?_, ?_, ?_, ?_⟩
  · rw [ov.K]; exact (hF C hc.1).1
  · rw [ov.K]; exact (hF C hc.1).2
  · have := congrArg List.length h2
    rw [List.length_map, List.length_map] at this
    omega
  · have hnew : S.nm g ∉ fs.map (·.1) := by
      rw [h2]
      intro z
      obtain ⟨k, hk, ek⟩ := List.mem_map.mp z
      rw [nm k ek] at hk
      have := hc.2.1
      rw [List.contains_iff_mem.mpr hk] at this
      cases this
    rw [putF_new hnew]
    obtain ⟨rs2, y⟩ := r1.writeG (i := 0) (s0 := .oins C ns ds) (s1 := .oins C (ns ++ [g]) (ds ++ [d])) (u := .ins (S.ca C) dx (fs ++ [(S.nm g, v)])) rfl True.intro e1 True.intro True.intro
      ⟨a, dx, _, rfl, upd_same, by rw [List.map_append, List.map_append, h2]; rfl, by rw [List.map_append]; exact RVs.own (o := .ins (S.ca C) dx (fs ++ [(S.nm g, v)])) h4.1 True.intro (h3.append (.cons v1 .nil)), h4, h5⟩
    exact p1 ow io1 _ σ y rs2
end
/-! ### the new instance's address is no matter of data -/
section
variable {S : Sta} {b : Addr} {ow : Addr → Prop} {io : List Addr} {H : Hp}
def Sta.at (S : Sta) (b : Addr) : Sta := { S with slf := b }
mutual
theorem RV.slf : ∀ {d : Mp.D} {v : V}, RV S ow io H d v → RV (S.at b) ow io H d v
  | .non, _, h => by unfold RV at h ⊢; exact h
  | .bl _, _, h => by unfold RV at h ⊢; exact h
  | .int _, _, h => by unfold RV at h ⊢; exact h
  | .str _, _, h => by unfold RV at h ⊢; exact h
  | .tup xs, _, h => by
    unfold RV at h ⊢
    obtain ⟨a, vs, e, r, q⟩ := h
    exact ⟨a, vs, e, r, RVs.slf q⟩
  | .lst xs, _, h => by
    unfold RV at h ⊢
    obtain ⟨a, vs, e, r, q⟩ := h
    exact ⟨a, vs, e, r, RVs.slf q⟩
  | .fz xs, _, h => by
    unfold RV at h ⊢
    obtain ⟨a, vs, e, r, q⟩ := h
    exact ⟨a, vs, e, r, RVs.slf q⟩
  | .dct ks xs, _, h => by
    unfold RV at h ⊢
    obtain ⟨a, kvs, e, r, q1, q⟩ := h
    exact ⟨a, kvs, e, r, q1, RVs.slf q⟩
  | .ins C ns ds, _, h => by
    unfold RV at h ⊢
    obtain ⟨a, dx, fs, e, r, q1, q⟩ := h
    exact ⟨a, dx, fs, e, r, q1, RVs.slf q⟩
  | .ref n, _, h => by unfold RV at h ⊢; exact h
  | .cls n, _, h => by unfold RV at h ⊢; exact h
theorem RVs.slf : ∀ {ds : List Mp.D} {vs : List V}, RVs S ow io H ds vs → RVs (S.at b) ow io H ds vs
  | [], _, h => by unfold RVs at h ⊢; exact h
  | d :: ds, _, h => by
    unfold RVs at h ⊢
    obtain ⟨v, r, e, h1, h2⟩ := h
    exact ⟨v, r, e, RV.slf h1, RVs.slf h2⟩
end
theorem RO.slf {a : Addr} {o : MO} (h : RO S ow io H a o) : RO (S.at b) ow io H a o := by
  cases o with
  | lst xs => obtain ⟨vs, e, q⟩ := h; exact ⟨vs, e, q.slf⟩
  | dct ks xs => obtain ⟨kvs, e, q1, q⟩ := h; exact ⟨kvs, e, q1, q.slf⟩
  | ins C ns ds => obtain ⟨dx, fs, e, q1, q⟩ := h; exact ⟨dx, fs, e, q1, q.slf⟩
theorem RH.slf {m : MH} (h : RH S ow io H m) : RH (S.at b) ow io H m :=
  ⟨h.tab, h.len, h.nd, fun n o e => let ⟨a, e1, e2, e3⟩ := h.at_ n o e; ⟨a, e1, e2.slf, e3⟩⟩
theorem Sta.at_at (S : Sta) : (S.at b).at S.slf = S := rfl
theorem RV.sfl {d : Mp.D} {v : V} (h : RV (S.at b) ow io H d v) : RV S ow io H d v := RV.slf (S := S.at b) (b := S.slf) h
theorem RVs.sfl {d : List Mp.D} {v : List V} (h : RVs (S.at b) ow io H d v) : RVs S ow io H d v := RVs.slf (S := S.at b) (b := S.slf) h
theorem RH.sfl {m : MH} (h : RH (S.at b) ow io H m) : RH S ow io H m := RH.slf (S := S.at b) (b := S.slf) h
end
/-! ### __init__ -/
/-- an __init__: the object is new -/
def spIni (S : Sta) (C n : Nat) (fn : List Mp.D → MH → R Mp.D) : Sp := fun vs H Q E => ∃ (ow : Addr → Prop) (io : List Addr) (H0 : Hp) (ds : List Mp.D) (m : MH) (a dx : Addr) (us : List V), vs = .ref a :: us ∧ H = upd (upd H0 dx (.own a)) a (.ins (S.ca C) dx []) ∧ H0 a = none ∧ H0 dx = none ∧ dx ≠ a ∧
  RH S ow io H0 m ∧ (∀ a, ow a → ¬ NT H0 a) ∧ RVs S ow io H0 ds us ∧ ds.length + 1 = n ∧ Post S (fun c d _ H' => E c d H') ow io H0 [] (fun v H' => v = .ref a → Q .non H') (fn ds m)
section
variable {S : Sta} {x qual : Str} {params : Arguments} {body : List Stmt} {scope : Scope} {dvs : List V} {kws : List (Str × V)} {fa : Addr} {fd : FuncData} {N ps : List Str} {k n C : Nat} {G : Gt} {mkx : Nat → List Mp.D → Option Exn} {b : List St}
theorem start_rfI {ow : Addr → Prop} {io : List Addr} {H : Hp} {ds : List Mp.D} {us : List V} {s0 : Sl} {a : Addr} (h : RVs S ow io H ds us) (hn : ds.length + 1 = n) (hN : n ≤ N.length) (h0 : RSl S ow io H s0 (.ref a)) :
    RF S ow io H (some s0 :: (ds.map (fun d => some (Sl.val d)) ++ List.replicate (N.length - n) none)) (L2.start N (.ref a :: us)) := by
  refine ⟨?_, fun i s e => ?_⟩
  · unfold L2.start
    rw [List.length_cons, List.length_append, List.length_append, List.length_map, List.length_map, List.length_replicate, List.length_replicate, List.length_cons, ← h.length]
    omega
  · cases i with
    | zero =>
      have e : some (some s0) = some (some s) := e
      cases e
      exact ⟨_, rfl, h0⟩
    | succ i =>
      have e : (ds.map (fun d => some (Sl.val d)) ++ List.replicate (N.length - n) none)[i]? = some (some s) := e
      by_cases hi : i < ds.length
      · rw [List.getElem?_append_left (by rw [List.length_map]; exact hi), List.getElem?_map] at e
        cases ed : ds[i]? with
        | none => rw [ed] at e; cases e
        | some d =>
          rw [ed] at e
          cases e
          obtain ⟨v, e1, q⟩ := h.get ed
          refine ⟨v, ?_, q⟩
          unfold L2.start
          show (us.map some ++ _)[i]? = _
          rw [List.getElem?_append_left (by rw [List.length_map, ← h.length]; exact hi), List.getElem?_map, e1]
          rfl
      · rw [List.getElem?_append_right (by rw [List.length_map]; omega)] at e
        have := List.mem_of_getElem? e
        rw [List.mem_replicate] at this
        cases this.2
/-- what is wanted of an __init__ is wanted of its body -/
theorem start_ini {vs : List V} {H : Hp} {Q : VK} {E : XK} (hpl : n ≤ N.length) (h : spIni S C n (runI G mkx C n N.length b) vs H Q E) : ∃ a, tS (S.at a) (fun c d _ H' => E c d H') (exs G mkx b) { nx := fun _ H' => Q .non H', rt := Q } (L2.start N vs) H := by
  obtain ⟨ow, io, H0, ds, m, a, dx, us, rfl, rfl, ha, hdx, hne, rh, od, hv, hl, p⟩ := h
  refine ⟨a, ow, io, H0, fun z => ow z ∨ z = a, io, some (.oins C [] []) :: (ds.map (fun d => some (.val d)) ++ List.replicate (N.length - n) none), m, ?_, ?_⟩
  · have hd' : upd H0 dx (.own a) a = none := by rw [upd_ne (Ne.symm hne)]; exact ha
    have y1 : Ex io H0 io (upd H0 dx (.own a)) := .fresh hdx
    have rh1 := rh.fresh (o := .own a) hdx
    have n1 : a ∉ io := fun z => (rh.mem z).1 (.of ha)
    have y2 : Ey ow io (upd H0 dx (.own a)) (fun z => ow z ∨ z = a) io (upd (upd H0 dx (.own a)) a (.ins (S.ca C) dx [])) := .ownew hd'
    have x2 : Ex io (upd H0 dx (.own a)) io (upd (upd H0 dx (.own a)) a (.ins (S.ca C) dx [])) := .fresh hd'
    have y := (y1.ey (ow := ow)).trans y2
    refine ⟨y1.trans x2, ⟨(rh1.ownew hd').slf, start_rfI (RVs.slf (hv.ey y)) hl hpl ⟨a, dx, [], rfl, upd_same, rfl, .nil, ⟨.inr rfl, rfl⟩, n1⟩, fun z hz => ?_⟩, fun z hz => .inl hz, fun z hz hn => ?_, fun i j s t c hi oi hj oj h1 h2 => ?_⟩
    · rcases hz with hz | rfl
      · exact fun q => od z hz (y.dom z q)
      · exact fun q => q _ upd_same True.intro
    · rcases hz with hz | rfl
      · exact absurd hz hn
      · exact .of ha
    · have own0 : ∀ {i : Nat} {s : Sl}, (some (Sl.oins C [] []) :: (ds.map (fun d => some (Sl.val d)) ++ List.replicate (N.length - n) none))[i]? = some (some s) → Own s → i = 0 := fun {i s} e o => by
        cases i with
        | zero => rfl
        | succ i => exact (start_ap (xs := s) (i := i) (by simpa using e) o).elim
      have e1 := own0 hi oi
      have e2 := own0 hj oj
      subst e1 e2
      have h1 : some (some (V.ref a)) = some (some (V.ref c)) := h1
      cases h1
      exact ⟨rfl, fun z => od a z (.of ha)⟩
  · unfold runI at p
    rw [if_pos hl] at p
    cases q : exs G mkx b (some (.oins C [] []) :: (ds.map (fun d => some (.val d)) ++ List.replicate (N.length - n) none)) m with
    | nx f1 m1 =>
      rw [q] at p
      dsimp only at p
      intro ow' io' H' σ' y rs
      split at p
      · rename_i C' ns ds' r
        obtain ⟨v, g1, a', dx', fs, rfl, h1, h2, h3, h4, h5⟩ := rs.r.f.2 0 (.oins C' ns ds') rfl
        have e4 : a' = a := h4.2
        subst e4
        have na : ¬ ow a' := (rs.ap 0 0 _ _ a' rfl True.intro rfl True.intro g1 g1).2
        refine p io' H' (.ref a') rs.en (RH.sfl (rs.r.h.less rs.s)) ?_ rfl
        unfold RV
        exact ⟨a', dx', fs, rfl, ⟨h1, h5, na⟩, h2, RVs.sfl (h3.less rs.s)⟩
      · exact p.elim
    | rt d m1 => rw [q] at p; exact p.elim
    | ex y f1 m1 =>
      rw [q] at p
      exact fun ow' io' H' σ' dx fs y rs e n w q => p io' H' dx fs rs.en (RH.sfl (rs.r.h.less rs.s)) e n (fun z => w (rs.s _ z)) ⟨q.1, RVs.sfl (q.2.less rs.s)⟩
    | bk f1 m1 => rw [q] at p; exact p.elim
    | ct f1 m1 => rw [q] at p; exact p.elim
    | bad => rw [q] at p; exact p.elim
/-- an __init__ whose body means b -/
theorem fnI_ok (FD : FunD S.K x qual params body scope dvs kws fa fd) (sc : FnScope N ps scope) (hps : ps.length = n)
    (hbody : ∀ (a : Addr) (cdv : Value) (A : Around) (outer : List Env) (s : Shared) (H : Hp) (E : XK), Room k (A.deeper (envOfC qual scope s.heap.objs.size fa cdv)) →
      PSs (cxOf (L2.CX S.P S.w) S.P S.w S.K S.mg S.base N qual scope fa cdv A outer s H E) body (tS (S.at a) (fun c d _ H' => E c d H') (exs G mkx b))) :
    FnOk S.P S.w S.K S.mg S.base (L2.CX S.P S.w) (k + 1) fa fd ps (spIni S C n (runI G mkx C n N.length b)) := by
  have hpl : n ≤ N.length := by
    have := congrArg List.length sc.pre
    rw [List.length_take] at this
    omega
  refine FD.ok sc (fun vs H Q E h => ?_) fun cdv A outer s H vs Q E hr h => ?_
  · obtain ⟨ow, io, H0, ds, m, a, dx, us, rfl, _, _, _, _, _, _, hv, hl, _⟩ := h
    rw [List.length_cons, ← hv.length, hl, hps]
  · obtain ⟨a, t⟩ := start_ini hpl h
    exact ⟨_, hbody a cdv A outer s H E hr, t⟩
end
/-! ### C(..) -/
/-- the class called x makes instances: n values by place -/
def MkOk (S : Sta) (k : Nat) (x : Str) (C n : Nat) (fn : List Mp.D → MH → R Mp.D) : Prop :=
  ∃ (fa : Addr) (fd : FuncData) (ps : List Str), S.mg x = some (.ref (S.ca C)) ∧ Mk S.K (S.ca C) fa ∧ ps.length = n + 1 ∧ Binds S.K fd ps [] ∧ FnOk S.P S.w S.K S.mg S.base (L2.CX S.P S.w) k fa fd ps (spIni S C (n + 1) fn)
def MkKOk (S : Sta) (k : Nat) (x : Str) (C n : Nat) (ks : List Str) (b : List Mp.D → List Mp.D → Option (List Mp.D)) (fn : List Mp.D → MH → R Mp.D) : Prop :=
  ∃ (fa : Addr) (fd : FuncData) (ps : List Str) (g : List Value → List Value → List Value) (gV : List V → List V → List V), S.mg x = some (.ref (S.ca C)) ∧ Mk S.K (S.ca C) fa ∧ KBn S.K fd ps (n + 1) ks g gV ∧
    (∀ ow io H ds zs vs us as, RVs S ow io H ds vs → RVs S ow io H zs us → b ds zs = some as → ds.length = n ∧ zs.length = ks.length ∧ as.length + 1 = ps.length ∧ ∀ r, ∃ ws, gV (r :: vs) us = r :: ws ∧ RVs S ow io H as ws) ∧
    FnOk S.P S.w S.K S.mg S.base (L2.CX S.P S.w) k fa fd ps (spIni S C ps.length fn)
section
variable {X : Cx} {S : Sta} {W : WX} {x : Str} {p pos : Pos} {es : List Expr} {fs : Fes} {k n C : Nat} {fn : List Mp.D → MH → R Mp.D}
theorem run_makeS {pins : List (Addr × Obj)} {σ : L2.St} {H : Hp} {s : Shared} {Q : VK} {us : List Value} {vs : List V} {CA f : Addr} {fd : FuncData} {ps : List Str} {sp : Sp} {E : L2.St → XK} (M : Mk X.K CA f) (F : FnOk X.prog X.w X.K X.mg X.base (L2.CX X.prog X.w) k f fd ps sp) (hr : Room (k + 1) X.A) (hb : Binds X.K fd ps [])
    (hx : PassesAt (L2.CX X.prog X.w) X σ (E σ)) (I : Inv X pins σ H s) (r : Vals vs us)
    (h : ∀ x dx, H x = none → H dx = none → dx ≠ x → sp (.ref x :: vs) (upd (upd H dx (.own x)) x (.ins CA dx [])) (fun v H2 => v = .non ∧ Q (.ref x) H2) (E σ)) :
    wpAny (model X.prog X.w) X.A (call (.ref CA) us) (EP X pins σ Q) X.xe s := by
  have hq := h (s.heap.objs.size + 1) s.heap.objs.size (I.hok.fresh (Nat.le_succ _)) (I.hok.fresh (Nat.le_refl _)) (Nat.ne_of_lt (Nat.lt_succ_self _))
  have I2 := Inv.made (C := CA) I
  have r2 : Vals (V.ref (s.heap.objs.size + 1) :: vs) (Value.ref (s.heap.objs.size + 1) :: us) := .cons rfl r
  have hl : (Value.ref (s.heap.objs.size + 1) :: us).length = ps.length := by
    have e := r2.length
    rw [F.len _ _ _ _ hq] at e
    exact e.symm
  have b2 := hb _ (Value.ref (s.heap.objs.size + 1) :: us) I2.kIn (by rw [List.append_nil]; exact hl)
  rw [List.append_nil] at b2
  refine wpAny_call (make_map (f := f) I.kIn M.makes M.init (beq_iff_eq.mp M.fn) (codeAny_mono (F.run _ X.stack _ _ ⟨Value.ref (s.heap.objs.size + 1) :: us, []⟩ (Value.ref (s.heap.objs.size + 1) :: us) _ _ (E σ) (hr.make CA us [])
    (I2.env0.make CA us []) b2 r2 hq) fun r s' hq' => ?_))
  cases r with
  | error e => exact hx pins _ _ e s' I2 hq'
  | ok fl =>
    cases fl with
    | ret u =>
      obtain ⟨v, H', I3, rv, ev, q3⟩ := I2.after hq'
      subst ev
      exact ⟨rv, ⟨V.ref (s.heap.objs.size + 1), H', I3, rfl, q3⟩⟩
    | next => exact False.elim hq'
    | brk => exact False.elim hq'
    | cont => exact False.elim hq'
theorem ini_wish {ow : Addr → Prop} {io : List Addr} {H : Hp} {σ : L2.St} {Q : VK} {a : Addr} {r : R Mp.D} (p : Post S W ow io H σ Q r) : Post S (fun c d _ H' => W c d σ H') ow io H [] (fun v H' => v = .ref a → (V.non = .non ∧ Q (.ref a) H')) r := by
  cases r with
  | ok d m => exact fun io' H' v x h q e => ⟨rfl, by rw [← e]; exact p io' H' v x h q⟩
  | exc x m => exact p
  | bad => exact p
theorem se_make {e : Expr} (ov : Ov S X) (M : MkOk S k x C n fn) (hr : Room (k + 1) X.A) (tk : Takes X W) (hg : Gl X x) (ha : PA X (e :: es) (tRs S W fs)) (hn : (e :: es).all nst = true) (hdb : (x == ("__debug__" : Str)) = false)
    (hl : ∀ fr m ds m', fs fr m = .ok ds m' → ds.length = n) : SE X S W (.Call (.Name x p) (e :: es) [] pos) (fun fr m => (fs fr m).bind fun ds m1 => fn ds m1) := by
  obtain ⟨fa, fd, ps, hm, hk, hps, hb, F⟩ := M
  have F := fnok_over ov F
  rw [← ov.mg] at hm
  rw [← ov.K] at hk hb
  refine ⟨fun pins s σ H Q I h => ?_⟩
  refine wpAny_Call_Name_kw (ld_glob I hg hm ?_ hdb)
  obtain ⟨ow, io, fr, m, rp, pp⟩ := h
  have pp : Post S W ow io H σ Q ((fs fr m).bind fun ds m1 => fn ds m1) := pp
  rw [List.all_cons, Bool.and_eq_true] at hn
  have key : Posts S W ow io H σ (fun vs H1 => ∀ a dx, H1 a = none → H1 dx = none → dx ≠ a → spIni S C (n + 1) fn (.ref a :: vs) (upd (upd H1 dx (.own a)) a (.ins (S.ca C) dx [])) (fun v H2 => v = .non ∧ Q (.ref a) H2) (fun c d H' => W c d σ H')) (fs fr m) := by
    cases q : fs fr m with
    | ok ds m1 =>
      rw [q] at pp
      have pp : Post S W ow io H σ Q (fn ds m1) := pp
      exact fun io1 H1 vs x1 r1 v1 a dx h1 h2 h3 => ⟨ow, io1, H1, ds, m1, a, dx, vs, rfl, rfl, h1, h2, h3, r1, (rp.ex x1 r1).o, v1, by rw [hl _ _ _ _ q], ini_wish (pp.move x1)⟩
    | exc y m1 => rw [q] at pp; exact pp
    | bad => rw [q] at pp; exact pp
  refine PySem.W.callWith_K (h₀ := X.base) I.ok.mod.kin hk.kp (thn (ha.run pos pins s σ H _ I ⟨ow, io, fr, m, rp, key⟩) fun us s1 ⟨vs, H1, I1, r, q⟩ => ⟨I1.kIn, ?_⟩) (starEach_ns hn.1) (stars_any hn.2)
  exact run_makeS (E := fun σ c d H' => W c d σ H') hk F hr hb (passAt tk σ) I1 r q
theorem run_makeNS {pins : List (Addr × Obj)} {σ : L2.St} {H : Hp} {s : Shared} {Q : VK} {us ws : List Value} {vs zs : List V} {ks : List Str} {CA f : Addr} {fd : FuncData} {ps : List Str} {sp : Sp} {E : L2.St → XK} {g : List Value → List Value → List Value} {gV : List V → List V → List V}
    (M : Mk X.K CA f) (F : FnOk X.prog X.w X.K X.mg X.base (L2.CX X.prog X.w) k f fd ps sp) (hr : Room (k + 1) X.A) (hb : KBn X.K fd ps (n + 1) ks g gV)
    (hx : PassesAt (L2.CX X.prog X.w) X σ (E σ)) (I : Inv X pins σ H s) (r : Vals vs us) (rz : Vals zs ws) (l1 : vs.length = n) (l2 : zs.length = ks.length)
    (h : ∀ x dx, H x = none → H dx = none → dx ≠ x → sp (gV (.ref x :: vs) zs) (upd (upd H dx (.own x)) x (.ins CA dx [])) (fun v H2 => v = .non ∧ Q (.ref x) H2) (E σ)) :
    wpAny (model X.prog X.w) X.A (call (.ref CA) us (ks.zip ws)) (EP X pins σ Q) X.xe s := by
  have hq := h (s.heap.objs.size + 1) s.heap.objs.size (I.hok.fresh (Nat.le_succ _)) (I.hok.fresh (Nat.le_refl _)) (Nat.ne_of_lt (Nat.lt_succ_self _))
  have I2 := Inv.made (C := CA) I
  have r1 : Vals (V.ref (s.heap.objs.size + 1) :: vs) (Value.ref (s.heap.objs.size + 1) :: us) := .cons rfl r
  have r2 := hb.rel r1 rz
  have e1 : (Value.ref (s.heap.objs.size + 1) :: us).length = n + 1 := r1.length.symm.trans (congrArg Nat.succ l1)
  have e2 : ws.length = ks.length := rz.length.symm.trans l2
  refine wpAny_call (make_map (f := f) I.kIn M.makes M.init (beq_iff_eq.mp M.fn) (codeAny_mono (F.run _ X.stack _ _ ⟨Value.ref (s.heap.objs.size + 1) :: us, ks.zip ws⟩ (g (Value.ref (s.heap.objs.size + 1) :: us) ws) _ _ (E σ) (hr.make CA us (ks.zip ws))
    (I2.env0.make CA us (ks.zip ws)) (hb.to _ (Value.ref (s.heap.objs.size + 1) :: us) ws I2.kIn e1 e2) r2 hq) fun r s' hq' => ?_))
  cases r with
  | error e => exact hx pins _ _ e s' I2 hq'
  | ok fl =>
    cases fl with
    | ret u =>
      obtain ⟨v, H', I3, rv, ev, q3⟩ := I2.after hq'
      subst ev
      exact ⟨rv, ⟨V.ref (s.heap.objs.size + 1), H', I3, rfl, q3⟩⟩
    | next => exact False.elim hq'
    | brk => exact False.elim hq'
    | cont => exact False.elim hq'
theorem se_makeK {ks : List Str} {b : List Mp.D → List Mp.D → Option (List Mp.D)} {gs : Fes} {kws : List Keyword} (ov : Ov S X) (M : MkKOk S k x C n ks b fn) (hr : Room (k + 1) X.A) (tk : Takes X W) (hg : Gl X x)
    (ha : PA X es (tRs S W fs)) (hkw : PK X kws (tRs S W gs)) (hks : kws.map (·.arg) = ks.map some) (hn : es.all nst = true) (hdb : (x == ("__debug__" : Str)) = false) (h0 : es = [] → fs = fun _ m => .ok [] m) :
    SE X S W (.Call (.Name x p) es kws pos) (fun fr m => (fs fr m).bind fun ds m1 => (gs fr m1).bind fun zs m2 => match b ds zs with | some as => fn as m2 | none => .bad) := by
  obtain ⟨fa, fd, ps, g, gV, hm, hk, hb, hB, F⟩ := M
  have F := fnok_over ov F
  rw [← ov.mg] at hm
  rw [← ov.K] at hk hb
  obtain ⟨a1, a2, a3⟩ := kws_some (pos := pos) (env := X.env) hks
  refine ⟨fun pins s σ H Q I h => ?_⟩
  refine wpAny_Call_Name_kw (ld_glob I hg hm ?_ hdb)
  obtain ⟨ow, io, fr, m, rp, pp⟩ := h
  have pp : Post S W ow io H σ Q ((fs fr m).bind fun ds m1 => (gs fr m1).bind fun zs m2 => match b ds zs with | some as => fn as m2 | none => .bad) := pp
  have key : ∀ {ds : List Mp.D} {vs : List V} {io1 : List Addr} {H1 : Hp} {m1 : MH}, Rp S ow io1 H1 fr m1 σ → RVs S ow io1 H1 ds vs → Post S W ow io1 H1 σ Q ((gs fr m1).bind fun zs m2 => match b ds zs with | some as => fn as m2 | none => .bad) →
      Posts S W ow io1 H1 σ (fun us H2 => vs.length = n ∧ us.length = ks.length ∧ ∀ a dx, H2 a = none → H2 dx = none → dx ≠ a → spIni S C ps.length fn (gV (.ref a :: vs) us) (upd (upd H2 dx (.own a)) a (.ins (S.ca C) dx [])) (fun v H3 => v = .non ∧ Q (.ref a) H3) (fun c d H' => W c d σ H')) (gs fr m1) := fun {ds vs io1 H1 m1} rp1 hv pp => by
    cases q : gs fr m1 with
    | ok zs m2 =>
      rw [q] at pp
      have pp : Post S W ow io1 H1 σ Q (match b ds zs with | some as => fn as m2 | none => .bad) := pp
      intro io2 H2 us x2 r2 v2
      cases e : b ds zs with
      | none => rw [e] at pp; exact pp.elim
      | some as =>
        rw [e] at pp
        obtain ⟨l1, l2, l3, q1⟩ := hB ow io2 H2 ds zs vs us as (hv.ex x2) v2 e
        refine ⟨by rw [← (hv.ex x2).length]; exact l1, by rw [← v2.length]; exact l2, fun a dx h1 h2 h3 => ?_⟩
        obtain ⟨ws, e1, q2⟩ := q1 (.ref a)
        rw [e1]
        exact ⟨ow, io2, H2, as, m2, a, dx, ws, rfl, rfl, h1, h2, h3, r2, (rp1.ex x2 r2).o, q2, l3, ini_wish (pp.move x2)⟩
    | exc y m2 => rw [q] at pp; exact pp
    | bad => rw [q] at pp; exact pp
  cases es with
  | nil =>
    rw [h0 rfl] at pp
    have pp : Post S W ow io H σ Q ((gs fr m).bind fun zs m2 => match b [] zs with | some as => fn as m2 | none => .bad) := pp
    refine PySem.W.callWith_KW0 (h₀ := X.base) I.ok.mod.kin hk.kp a1 (thn (hkw.run pos pins s σ H _ I ⟨ow, io, fr, m, rp, key rp RVs.nil pp⟩) fun ws s1 ⟨zs, H1, I1, rz, l1, l2, q⟩ => ⟨I1.kIn, ?_⟩) (by rw [a3]; rfl)
    rw [a2]
    exact run_makeNS (us := []) (vs := []) (E := fun σ c d H' => W c d σ H') hk F hr hb (passAt tk σ) I1 .nil rz l1 l2 q
  | cons e es =>
    rw [List.all_cons, Bool.and_eq_true] at hn
    have key2 : Posts S W ow io H σ (fun vs H1 => tRs S W gs σ H1 (fun us H2 => vs.length = n ∧ us.length = ks.length ∧ ∀ a dx, H2 a = none → H2 dx = none → dx ≠ a → spIni S C ps.length fn (gV (.ref a :: vs) us) (upd (upd H2 dx (.own a)) a (.ins (S.ca C) dx [])) (fun v H3 => v = .non ∧ Q (.ref a) H3) (fun c d H' => W c d σ H'))) (fs fr m) :=
      pp.seqs fun ds m1 io1 H1 vs x1 r1 v1 p1 => ⟨ow, io1, fr, m1, rp.ex x1 r1, key (rp.ex x1 r1) v1 p1⟩
    refine PySem.W.callWith_KW (h₀ := X.base) I.ok.mod.kin hk.kp a1 (thn (ha.run pos pins s σ H _ I ⟨ow, io, fr, m, rp, key2⟩) fun us s1 ⟨vs, H1, I1, r, q⟩ => thn (hkw.run pos pins s1 σ H1 _ I1 q) fun ws s2 ⟨zs, H2, I2, rz, l1, l2, q2⟩ => ⟨I2.kIn, ?_⟩)
      (by rw [a3, starEach_ns hn.1]; show ((false || (backTo pos (starEach es X.env)).any (·.1)) || false) = false; rw [stars_any hn.2]; rfl) (starEach_ns hn.1)
    rw [a2]
    exact run_makeNS (E := fun σ c d H' => W c d σ H') hk F hr hb (passAt tk σ) I2 r rz l1 l2 q2
end
end Mp
end
section
set_option Elab.async false
set_option linter.all false
set_option maxRecDepth 100000
set_option maxHeartbeats 4000000
/-! MpCls: constants of classes; calls of classmethods and staticmethods by the class's name; cls(..) within a classmethod. -/
namespace Mp
open PySem PySem.Spec PyProof.Rows L2
/-- a constant of a class of the top -/
def CcOk (S : Sta) (x w : Str) (d : Mp.D) : Prop := ∃ (CA : Addr) (mc u : Value) (v : V), S.mg x = some (.ref CA) ∧ ClX.CRead S.K CA mc ∧ ClX.CVal S.K CA mc w v u ∧ ∀ ow io H, RV S ow io H d v
/-- what a def promises by place, n values -/
def spN (S : Sta) (n : Nat) (f : List Mp.D → MH → R Mp.D) : Sp := fun vs H Q E => ∃ ow io ds m, RH S ow io H m ∧ (∀ a, ow a → ¬ NT H a) ∧ RVs S ow io H ds vs ∧ ds.length = n ∧ Post S (fun c d _ H' => E c d H') ow io H [] Q (f ds m)
/-- the class x (number C) has the classmethod w, of n values (the class among them) -/
def CmOk (S : Sta) (k : Nat) (x w : Str) (C n : Nat) (fn : List Mp.D → MH → R Mp.D) : Prop :=
  ∃ (mc : Value) (p g : Addr), S.mg x = some (.ref (S.ca C)) ∧ ClX.CRead S.K (S.ca C) mc ∧ ClX.CMet S.K (S.ca C) mc w p g ∧ FnR S.P S.w S.K S.mg S.base (L2.CX S.P S.w) k g (spN S n fn)
/-- C.m is a staticmethod: its record at p, its def at g -/
structure CSta (K : PySem.W.Frag) (C : Addr) (mc : Value) (m : Str) (p g : Addr) : Prop where
  at_ : PySem.W.findCls K (.ref C) mc m = some (.get (.builtin "staticmethod.__get__") (.ref p) .none (.ref C))
  rc : ∃ rest, PySem.W.recIn K p "staticmethod" = some (.ref g :: rest)
  kp : PySem.W.keepIn K (.ref g) = true
def SmOk (S : Sta) (k : Nat) (x w : Str) (n : Nat) (fn : List Mp.D → MH → R Mp.D) : Prop :=
  ∃ (C : Addr) (mc : Value) (p g : Addr), S.mg x = some (.ref C) ∧ ClX.CRead S.K C mc ∧ CSta S.K C mc w p g ∧ FnR S.P S.w S.K S.mg S.base (L2.CX S.P S.w) k g (spN S n fn)
section
variable {X : Cx} {S : Sta} {W : WX} {x w : Str} {p apos pos : Pos} {e : Expr} {es : List Expr} {fs : Fes} {k n C : Nat} {fn : List Mp.D → MH → R Mp.D}
theorem se_cc {d : Mp.D} (ov : Ov S X) (c : CcOk S x w d) (hg : Gl X x) (hd : (x == ("__debug__" : Str)) = false) : SE X S W (.Attribute (.Name x p) w apos) (fun _ m => .ok d m) := by
  obtain ⟨CA, mc, u, v, hm, r, k, h⟩ := c
  rw [← ov.mg] at hm
  rw [← ov.K] at r k
  refine ⟨fun pins s σ H Q I ⟨ow, io, fr, m, rp, pp⟩ => ?_⟩
  refine attr_of (base_ok rfl) (ld_glob I hg hm ?_ hd)
  exact ClX.getcval_ok I r k fun s' I' => ⟨v, H, I', k.rel, pp.here rp.h (h ow io H)⟩
theorem key_N {f : List Mp.D → MH → R Mp.D} {σ : L2.St} {H : Hp} {Q : VK} {ow : Addr → Prop} {io : List Addr} {fr : Fr} {m : MH} (rp : Rp S ow io H fr m σ) {d0 : List Mp.D} {v0 : List V} (h0 : RVs S ow io H d0 v0)
    (hl : ∀ fr m ds m', fs fr m = .ok ds m' → (d0 ++ ds).length = n) (pp : Post S W ow io H σ Q ((fs fr m).bind fun ds m1 => f (d0 ++ ds) m1)) : Posts S W ow io H σ (fun vs H1 => spN S n f (v0 ++ vs) H1 Q (fun c d H' => W c d σ H')) (fs fr m) := by
  cases q : fs fr m with
  | ok ds m1 =>
    rw [q] at pp
    have pp : Post S W ow io H σ Q (f (d0 ++ ds) m1) := pp
    exact fun io1 H1 vs x1 r1 v1 => ⟨ow, io1, d0 ++ ds, m1, r1, (rp.ex x1 r1).o, (h0.ex x1).append v1, hl _ _ _ _ q, (pp.move x1).wish⟩
  | exc y m1 => rw [q] at pp; exact pp
  | bad => rw [q] at pp; exact pp
theorem run_cmS {kk : Nat} {pins : List (Addr × Obj)} {σ : L2.St} {H : Hp} {s : Shared} {CA g q : Addr} {sp : Sp} {E : L2.St → XK} {Q : VK} {us : List Value} {vs : List V} (F : FnR X.prog X.w X.K X.mg X.base (L2.CX X.prog X.w) kk g sp) (hr : Room kk X.A) (hx : PassesAt (L2.CX X.prog X.w) X σ (E σ)) (I : Inv X ((q, PySem.W.methodObj (.ref g) (.ref CA)) :: pins) σ H s)
    (r : Vals vs us) (h : sp (.ref CA :: vs) H Q (E σ)) : wpAny (model X.prog X.w) X.A (call (.ref q) us) (EP X pins σ Q) X.xe s := by
  have z : wpAny (model X.prog X.w) X.A (call (.ref q) us) (EP X ((q, PySem.W.methodObj (.ref g) (.ref CA)) :: pins) σ Q) X.xe s := by
    refine wpAny_call (PySem.W.method_call (ClX.pin_at I) (codeAny_mono (F X.A X.stack s H (.ref CA :: us) (.ref CA :: vs) Q (E σ) hr I.env0 (.cons rfl r) h) fun r s' hq => ?_))
    cases r with
    | error e => exact hx _ H s e s' I hq
    | ok fl =>
      cases fl with
      | ret u => exact I.after hq
      | next => exact False.elim hq
      | brk => exact False.elim hq
      | cont => exact False.elim hq
  exact thn z fun _ _ y => ClX.unpinE y
theorem se_cmth (ov : Ov S X) (M : CmOk S k x w C n fn) (hr : Room k X.A) (tk : Takes X W) (hg : Gl X x) (hd : (x == ("__debug__" : Str)) = false) (ha : PA X (e :: es) (tRs S W fs)) (hn : (e :: es).all nst = true) (hlen : (e :: es).length < 29)
    (hln : (apos.endLine == pos.line) = true) (hl : ∀ fr m ds m', fs fr m = .ok ds m' → ds.length + 1 = n) :
    SE X S W (.Call (.Attribute (.Name x p) w apos) (e :: es) [] pos) (fun fr m => (fs fr m).bind fun ds m1 => fn (.cls C :: ds) m1) := by
  obtain ⟨mc, pA, g, hm, r, c, F⟩ := M
  have F := fnr_over ov F
  rw [← ov.mg] at hm
  rw [← ov.K] at r c
  refine ⟨fun pins s σ H Q I ⟨ow, io, fr, m, rp, pp⟩ => ?_⟩
  refine PySem.W.methodCall_KW (ld_glob I hg hm ?_ hd) (mcall_tree rfl hn hlen hln)
  refine ClX.getmethcm_ok I r c fun s2 I2 => ?_
  have hn2 := hn
  rw [List.all_cons, Bool.and_eq_true] at hn2
  have key := key_N (v0 := [.ref (S.ca C)]) (d0 := [.cls C]) (n := n) rp (.cons (by unfold RV; rfl) .nil) (fun fr m ds m' e => by simpa using hl fr m ds m' e) pp
  refine ClX.callwith_cm I2 (ClX.base_none I (Nat.le_refl _)) c.fi (thn (ha.run pos _ s2 σ H _ I2 ⟨ow, io, fr, m, rp, key⟩) fun us s3 ⟨vs, H2, I3, rv, q2⟩ => ⟨⟨ClX.pin_at I3, I3.kIn⟩, ?_⟩) (starEach_ns hn2.1) (stars_any hn2.2)
  exact run_cmS (E := fun σ c d H' => W c d σ H') F hr (passAt tk σ) I3 rv q2
theorem se_smth (ov : Ov S X) (M : SmOk S k x w n fn) (hr : Room k X.A) (tk : Takes X W) (hg : Gl X x) (hd : (x == ("__debug__" : Str)) = false) (ha : PA X (e :: es) (tRs S W fs)) (hn : (e :: es).all nst = true) (hlen : (e :: es).length < 29)
    (hln : (apos.endLine == pos.line) = true) (hl : ∀ fr m ds m', fs fr m = .ok ds m' → ds.length = n) :
    SE X S W (.Call (.Attribute (.Name x p) w apos) (e :: es) [] pos) (fun fr m => (fs fr m).bind fun ds m1 => fn ds m1) := by
  obtain ⟨CA, mc, pA, g, hm, r, c, F⟩ := M
  have F := fnr_over ov F
  rw [← ov.mg] at hm
  rw [← ov.K] at r c
  refine ⟨fun pins s σ H Q I ⟨ow, io, fr, m, rp, pp⟩ => ?_⟩
  refine PySem.W.methodCall_KW (ld_glob I hg hm ?_ hd) (mcall_tree rfl hn hlen hln)
  obtain ⟨rest, hp⟩ := c.rc
  refine PySem.W.method_cls I.kIn r.ga (PySem.W.cls_bind I.kIn r.rd c.at_ (wpAny_call (PySem.W.sm_get (s := { s with toks := s.toks + 1 }) I.kIn hp (PySem.W.handed_on rfl ?_))))
  have hn2 := hn
  rw [List.all_cons, Bool.and_eq_true] at hn2
  have key := key_N (v0 := []) (d0 := []) (n := n) rp .nil (fun fr m ds m' e => by simpa using hl fr m ds m' e) pp
  have I2 : Inv X pins σ H { s with toks := s.toks + 1 } := I.tok _
  refine PySem.W.callWith_K (first := []) (h₀ := X.base) I2.ok.mod.kin c.kp (thn (ha.run pos pins _ σ H _ I2 ⟨ow, io, fr, m, rp, key⟩) fun us s3 ⟨vs, H2, I3, rv, q2⟩ => ⟨I3.kIn, ?_⟩) (starEach_ns hn2.1) (stars_any hn2.2)
  exact run_fnRS (E := fun σ c d H' => W c d σ H') F hr (passAt tk σ) I3 rv q2
/-- cls(..), cls a local name that holds the class C -/
theorem se_makeL {i : Nat} {cx : Str} (ov : Ov S X) (M : MkOk S k cx C n fn) (hr : Room (k + 1) X.A) (tk : Takes X W) (hN : X.N[i]? = some x) (hv : Vis X.env.scope x) (hd : (x == ("__debug__" : Str)) = false) (hcd : (x == ("__classdict__" : Str)) = false)
    (ha : PA X (e :: es) (tRs S W fs)) (hn : (e :: es).all nst = true) (hl : ∀ fr m ds m', fs fr m = .ok ds m' → ds.length = n) :
    SE X S W (.Call (.Name x p) (e :: es) [] pos) (fun fr m => match fr[i]? with | some (some (.val (.cls C'))) => if C' = C then (fs fr m).bind fun ds m1 => fn ds m1 else .bad | _ => .bad) := by
  obtain ⟨fa, fd, ps, hm, hk, hps, hb, F⟩ := M
  have F := fnok_over ov F
  rw [← ov.K] at hk hb
  refine ⟨fun pins s σ H Q I h => ?_⟩
  obtain ⟨ow, io, fr, m, rp, pp⟩ := h
  dsimp only at pp
  split at pp
  case h_2 => exact pp.elim
  rename_i C' eq
  split at pp
  case isFalse => exact pp.elim
  rename_i eC
  subst eC
  obtain ⟨v, e1, q1⟩ := rp.f.2 i _ eq
  have q1 : RV S ow io H (.cls C') v := q1
  unfold RV at q1
  subst q1
  refine wpAny_Call_Name_kw (thn ((pe_var (pos := p) hN hv hd hcd).run pins s σ H (fun v' H' => v' = V.ref (S.ca C') ∧ H' = H) I ⟨_, e1, rfl, rfl⟩) fun u s1 ⟨v1, H1, I1, rx, e2, e3⟩ => ?_)
  subst e2 e3
  obtain rfl : u = Value.ref (S.ca C') := rx
  have pp : Post S W ow io H1 σ Q ((fs fr m).bind fun ds m1 => fn ds m1) := pp
  rw [List.all_cons, Bool.and_eq_true] at hn
  have key : Posts S W ow io H1 σ (fun vs H1 => ∀ a dx, H1 a = none → H1 dx = none → dx ≠ a → spIni S C' (n + 1) fn (.ref a :: vs) (upd (upd H1 dx (.own a)) a (.ins (S.ca C') dx [])) (fun v H2 => v = .non ∧ Q (.ref a) H2) (fun c d H' => W c d σ H')) (fs fr m) := by
    cases q : fs fr m with
    | ok ds m1 =>
      rw [q] at pp
      have pp : Post S W ow io H1 σ Q (fn ds m1) := pp
      exact fun io1 H1 vs x1 r1 v1 a dx h1 h2 h3 => ⟨ow, io1, H1, ds, m1, a, dx, vs, rfl, rfl, h1, h2, h3, r1, (rp.ex x1 r1).o, v1, by rw [hl _ _ _ _ q], ini_wish (pp.move x1)⟩
    | exc y m1 => rw [q] at pp; exact pp
    | bad => rw [q] at pp; exact pp
  refine PySem.W.callWith_K (h₀ := X.base) I1.ok.mod.kin hk.kp (thn (ha.run pos pins s1 σ H1 _ I1 ⟨ow, io, fr, m, rp, key⟩) fun us s1 ⟨vs, H1, I1, r, q⟩ => ⟨I1.kIn, ?_⟩) (starEach_ns hn.1) (stars_any hn.2)
  exact run_makeS (E := fun σ c d H' => W c d σ H') hk F hr hb (passAt tk σ) I1 r q
end
end Mp
end
section
set_option Elab.async false
set_option linter.all false
set_option maxRecDepth 100000
set_option maxHeartbeats 4000000
/-! MpKw: methods, classmethods and staticmethods called with keywords. -/
namespace Mp
open PySem PySem.Spec PyProof.Rows L2
theorem mcallK_tree {o : Expr} {m : Str} {apos pos : Pos} {env : Env} {es : List Expr} {kws : List Keyword} (hba : baseB o = true) (hn : es.all nst = true) (hk : (backToKw pos (keywordEach kws env)).all (·.1.isSome) = true) (hlen : es.length + kws.length < 29) (hl : (apos.endLine == pos.line) = true) :
    eval (.Call (.Attribute o m apos) es kws pos) env = (do
      let ov ← eval o env
      standAt apos.atName
      let (f, first) ← holding [ov] (getMethod ov m (do return (← importBound o env).getD true))
      callWith pos f first (backTo pos (starEach es env)) (backToKw pos (keywordEach kws env))) := by
  refine mcall_of (base_ok hba) fun ov => ?_
  have e : methodCallForm (es.length + kws.length) (backTo pos (starEach es env)) (backToKw pos (keywordEach kws env)) = true := by
    unfold methodCallForm
    rw [args_form hn, hk]
    simp only [Bool.true_and, decide_eq_true_eq]
    split <;> omega
  unfold methodCall
  rw [e]
  unfold calleeOf methodCallPos
  rw [hl]
  rfl
/-- the def's values in order: what the binder b says, the layer's lists bear -/
def BndOk (S : Sta) (n : Nat) (ks : List Str) (N : Nat) (b : List Mp.D → List Mp.D → Option (List Mp.D)) (gV : List V → List V → List V) : Prop :=
  ∀ ow io H ds zs vs us as, RVs S ow io H ds vs → RVs S ow io H zs us → b ds zs = some as → ds.length = n ∧ zs.length = ks.length ∧ as.length = N ∧ RVs S ow io H as (gV vs us)
/-- the class C has the method f: n values by place (the object among them), the keywords ks -/
def MthKOk (S : Sta) (k : Nat) (C f n : Nat) (ks : List Str) (b : List Mp.D → List Mp.D → Option (List Mp.D)) (fn : List Mp.D → MH → R Mp.D) : Prop :=
  ∃ (ga : Addr) (fd : FuncData) (ps : List Str) (g : List Value → List Value → List Value) (gV : List V → List V → List V), Cls S.K (S.ca C) ∧ Meth S.K (S.ca C) (S.nm f) ga ∧ KBn S.K fd ps n ks g gV ∧ BndOk S n ks ps.length b gV ∧
    FnOk S.P S.w S.K S.mg S.base (L2.CX S.P S.w) k ga fd ps (spOf S ps.length fn)
def CmKOk (S : Sta) (k : Nat) (x w : Str) (C n : Nat) (ks : List Str) (b : List Mp.D → List Mp.D → Option (List Mp.D)) (fn : List Mp.D → MH → R Mp.D) : Prop :=
  ∃ (mc : Value) (p ga : Addr) (fd : FuncData) (ps : List Str) (g : List Value → List Value → List Value) (gV : List V → List V → List V), S.mg x = some (.ref (S.ca C)) ∧ ClX.CRead S.K (S.ca C) mc ∧ ClX.CMet S.K (S.ca C) mc w p ga ∧ KBn S.K fd ps n ks g gV ∧ BndOk S n ks ps.length b gV ∧
    FnOk S.P S.w S.K S.mg S.base (L2.CX S.P S.w) k ga fd ps (spOf S ps.length fn)
def SmKOk (S : Sta) (k : Nat) (x w : Str) (n : Nat) (ks : List Str) (b : List Mp.D → List Mp.D → Option (List Mp.D)) (fn : List Mp.D → MH → R Mp.D) : Prop :=
  ∃ (CA : Addr) (mc : Value) (p ga : Addr) (fd : FuncData) (ps : List Str) (g : List Value → List Value → List Value) (gV : List V → List V → List V), S.mg x = some (.ref CA) ∧ ClX.CRead S.K CA mc ∧ CSta S.K CA mc w p ga ∧ KBn S.K fd ps n ks g gV ∧ BndOk S n ks ps.length b gV ∧
    FnOk S.P S.w S.K S.mg S.base (L2.CX S.P S.w) k ga fd ps (spOf S ps.length fn)
section
variable {X : Cx} {S : Sta} {W : WX} {x w name : Str} {o : Expr} {fo : Fe} {p apos pos : Pos} {es : List Expr} {fs gs : Fes} {kws : List Keyword} {ks : List Str} {k n N f C : Nat} {ci : Ci} {fn : List Mp.D → MH → R Mp.D} {b : List Mp.D → List Mp.D → Option (List Mp.D)}
/-- the values of a call with keywords, the first ones known -/
theorem callWith_gen {P : Heap → Prop} {fv : Value} {first : List Value} {Q : Value → Shared → Prop} {pins : List (Addr × Obj)} {σ : L2.St} {H : Hp} {s : Shared}
    (I : Inv X pins σ H s) (ha : PA X es (tRs S W fs)) (hkw : PK X kws (tRs S W gs)) (hks : kws.map (·.arg) = ks.map some) (hn : es.all nst = true)
    (hk : ∀ h, P h → ∃ k, (k = Keeper.frame ∨ k = Keeper.machine ∨ k = Keeper.boundFrame) ∧ PySem.W.Looks (model X.prog X.w) h (keeperOf fv) k)
    (h0 : es = [] → fs = fun _ m => .ok [] m)
    {ow : Addr → Prop} {io : List Addr} {fr : Fr} {m : MH} (rp : Rp S ow io H fr m σ)
    (key : Posts S W ow io H σ (fun vs H1 => tRs S W gs σ H1 (fun us H2 => ∀ s2 (ws zs : List Value), Inv X pins σ H2 s2 → Vals vs ws → Vals us zs → P s2.heap ∧ wpAny (model X.prog X.w) X.A (call fv (first ++ ws) (ks.zip zs)) Q X.xe s2)) (fs fr m)) :
    wpAny (model X.prog X.w) X.A (callWith pos fv first (backTo pos (starEach es X.env)) (backToKw pos (keywordEach kws X.env))) Q X.xe s := by
  obtain ⟨a1, a2, a3⟩ := kws_some (pos := pos) (env := X.env) hks
  cases es with
  | nil =>
    rw [h0 rfl] at key
    have key : tRs S W gs σ H _ := key io H [] (.refl _ _) rp.h .nil
    refine PySem.W.callWith_of (P := P) (by rw [a3]; rfl) hk (evalArgs_kw2_nil a1 (thn (hkw.run pos pins s σ H _ I key) fun ws s1 ⟨zs, H1, I1, rz, q⟩ => ?_))
    rw [a2]
    exact q s1 [] ws I1 .nil rz
  | cons e es =>
    rw [List.all_cons, Bool.and_eq_true] at hn
    refine PySem.W.callWith_of (P := P) (by rw [a3, starEach_ns hn.1]; show ((false || (backTo pos (starEach es X.env)).any (·.1)) || false) = false; rw [stars_any hn.2]; rfl) hk
      (evalArgs_kw2 a1 (thn (ha.run pos pins s σ H _ I ⟨ow, io, fr, m, rp, key⟩) fun us s1 ⟨vs, H1, I1, r, q⟩ => thn (hkw.run pos pins s1 σ H1 _ I1 q) fun ws s2 ⟨zs, H2, I2, rz, q2⟩ => ?_) (starEach_ns hn.1))
    rw [a2]
    exact q2 s2 us ws I2 r rz
/-- from the values to the def's promise -/
theorem key_KN {σ : L2.St} {H : Hp} {Q : VK} {ow : Addr → Prop} {io : List Addr} {fr : Fr} {m : MH} {R0 : List V → List V → Hp → Prop} (rp : Rp S ow io H fr m σ) {d0 : List Mp.D} {v0 : List V} (hv0 : RVs S ow io H d0 v0) {gV : List V → List V → List V} (hB : BndOk S n ks N b gV)
    (pp : Post S W ow io H σ Q ((fs fr m).bind fun ds m1 => (gs fr m1).bind fun zs m2 => match b (d0 ++ ds) zs with | some as => fn as m2 | none => .bad))
    (hR : ∀ vs us H2, (v0 ++ vs).length = n → us.length = ks.length → spOf S N fn (gV (v0 ++ vs) us) H2 Q (fun c d H' => W c d σ H') → R0 vs us H2) :
    Posts S W ow io H σ (fun vs H1 => tRs S W gs σ H1 (fun us H2 => R0 vs us H2)) (fs fr m) := by
  refine pp.seqs fun ds m1 io1 H1 vs x1 r1 v1 p1 => ⟨ow, io1, fr, m1, rp.ex x1 r1, ?_⟩
  refine p1.seqs fun zs m2 io2 H2 us x2 r2 v2 p2 => ?_
  have hv := ((hv0.ex x1).append v1).ex x2
  cases e : b (d0 ++ ds) zs with
  | none => rw [e] at p2; exact p2.elim
  | some as =>
    rw [e] at p2
    obtain ⟨l1, l2, l3, q⟩ := hB ow io2 H2 (d0 ++ ds) zs (v0 ++ vs) us as hv v2 e
    exact hR vs us H2 (by rw [← hv.length]; exact l1) (by rw [← v2.length]; exact l2) ⟨ow, io2, as, m2, r2, ((rp.ex x1 r1).ex x2 r2).o, q, l3, p2.wish⟩
def mthKF (ci : Ci) (fn : Nat → List Mp.D → MH → R Mp.D) (b : List Mp.D → List Mp.D → Option (List Mp.D)) (f : Nat) (fo : Fe) (fs gs : Fes) : Fe := fun fr m => (fo fr m).bind fun x m1 => match insD x m1 with
    | some (C, ns, _) => match ci.mt C f with
      | some g => if ns.contains f = true then .bad else (fs fr m1).bind fun ds m2 => (gs fr m2).bind fun zs m3 => match b (x :: ds) zs with | some as => fn g as m3 | none => .bad
      | none => .bad
    | none => .bad
theorem se_mthK {fn : Nat → List Mp.D → MH → R Mp.D} (ov : Ov S X) (hnm : S.nm f = name) (nm : NmI S f) (hr : Room k X.A) (tk : Takes X W) (hM : ∀ C g, ci.mt C f = some g → MthKOk S k C f (es.length + 1) ks b (fn g)) (ho : SE X S W o fo) (ha : PA X es (tRs S W fs)) (hkw : PK X kws (tRs S W gs)) (hks : kws.map (·.arg) = ks.map some)
    (hn : es.all nst = true) (hlen : es.length + kws.length < 29) (hba : baseB o = true) (hln : (apos.endLine == pos.line) = true) (h0 : es = [] → fs = fun _ m => .ok [] m) :
    SE X S W (.Call (.Attribute o name apos) es kws pos) (mthKF ci fn b f fo fs gs) := by
  subst hnm
  obtain ⟨a1, a2, a3⟩ := kws_some (pos := pos) (env := X.env) hks
  refine ⟨fun pins s σ H Q I ⟨ow, io, fr, m, rp, p⟩ => ?_⟩
  refine PySem.W.methodCall_KW (thn (ho.run pins s σ H (fun v H1 => ∃ x m1 io1, Ex io H io1 H1 ∧ RH S ow io1 H1 m1 ∧ RV S ow io1 H1 x v ∧ Post S W ow io1 H1 σ Q (match insD x m1 with
    | some (C, ns, _) => match ci.mt C f with
      | some g => if ns.contains f = true then .bad else (fs fr m1).bind fun ds m2 => (gs fr m2).bind fun zs m3 => match b (x :: ds) zs with | some as => fn g as m3 | none => .bad
      | none => .bad
    | none => .bad)) I ⟨ow, io, fr, m, rp, p.seq fun x m1 io1 H1 v x1 r1 v1 p1 => ⟨x, m1, io1, x1, r1, v1, p1⟩⟩) fun u s1 ⟨v, H1, I1, rx, x, m1, io1, x1, r1, v1, p1⟩ => ?_) (mcallK_tree hba hn a1 hlen hln)
  cases ei : insD x m1 with
  | none => rw [ei] at p1; exact p1.elim
  | some t =>
    obtain ⟨C, ns, ds⟩ := t
    rw [ei] at p1
    dsimp only at p1
    obtain ⟨aa, dx, gs', rfl, hH, q1, q2⟩ := insD_ok r1 v1 ei
    obtain rfl : u = Value.ref aa := rx
    cases ep : ci.mt C f with
    | none => rw [ep] at p1; exact p1.elim
    | some g =>
      rw [ep] at p1
      dsimp only at p1
      obtain ⟨ga, fd, ps, gg, gV, c, hm, hb, hB, F⟩ := hM C g ep
      have F := fnok_over ov F
      rw [← ov.K] at c hm hb
      by_cases hc : ns.contains f = true
      · rw [if_pos hc] at p1; exact p1.elim
      rw [if_neg hc] at p1
      refine getmeth_ok I1 hH c hm (fs_none nm q1 (by simpa using hc)) ?_
      have rp1 := rp.ex x1 r1
      refine callWith_gen (ks := ks) (P := fun h => X.K.In h) I1 ha hkw hks hn (PySem.W.keeps_K hm.kp) h0 rp1 (key_KN (R0 := fun vs us H2 => ∀ s2 (ws zs : List Value), Inv X pins σ H2 s2 → Vals vs ws → Vals us zs → X.K.In s2.heap ∧ wpAny (model X.prog X.w) X.A (call (.ref ga) ([.ref aa] ++ ws) (ks.zip zs)) (EP X pins σ Q) X.xe s2)
        rp1 (d0 := [x]) (v0 := [.ref aa]) (.cons v1 .nil) hB p1 fun vs us H2 l1 l2 q s2 ws zs I2 r rz => ⟨I2.kIn, ?_⟩)
      exact run_fnNS (us := .ref aa :: ws) (vs := .ref aa :: vs) (E := fun σ c d H' => W c d σ H') F hr hb (passAt tk σ) I2 (.cons rfl r) rz l1 l2 q
theorem se_cmthK (ov : Ov S X) (M : CmKOk S k x w C (es.length + 1) ks b fn) (hr : Room k X.A) (tk : Takes X W) (hg : Gl X x) (hd : (x == ("__debug__" : Str)) = false) (ha : PA X es (tRs S W fs)) (hkw : PK X kws (tRs S W gs)) (hks : kws.map (·.arg) = ks.map some)
    (hn : es.all nst = true) (hlen : es.length + kws.length < 29) (hln : (apos.endLine == pos.line) = true) (h0 : es = [] → fs = fun _ m => .ok [] m) :
    SE X S W (.Call (.Attribute (.Name x p) w apos) es kws pos) (fun fr m => (fs fr m).bind fun ds m1 => (gs fr m1).bind fun zs m2 => match b (.cls C :: ds) zs with | some as => fn as m2 | none => .bad) := by
  obtain ⟨mc, pA, ga, fd, ps, gg, gV, hm, r, c, hb, hB, F⟩ := M
  have F := fnok_over ov F
  rw [← ov.mg] at hm
  rw [← ov.K] at r c hb
  obtain ⟨a1, a2, a3⟩ := kws_some (pos := pos) (env := X.env) hks
  refine ⟨fun pins s σ H Q I ⟨ow, io, fr, m, rp, pp⟩ => ?_⟩
  refine PySem.W.methodCall_KW (ld_glob I hg hm ?_ hd) (mcallK_tree rfl hn a1 hlen hln)
  refine ClX.getmethcm_ok I r c fun s2 I2 => ?_
  refine thn (callWith_gen (ks := ks) (Q := EP X ((s.heap.objs.size, PySem.W.methodObj (.ref ga) (.ref (S.ca C))) :: pins) σ Q) (P := fun h => PySem.W.MethP X.K s.heap.objs.size ga (.ref (S.ca C)) h) I2 ha hkw hks hn (PySem.W.keeps_M c.fi) h0 rp
    (key_KN (R0 := fun vs us H2 => ∀ s3 (ws zs : List Value), Inv X ((s.heap.objs.size, PySem.W.methodObj (.ref ga) (.ref (S.ca C))) :: pins) σ H2 s3 → Vals vs ws → Vals us zs → PySem.W.MethP X.K s.heap.objs.size ga (.ref (S.ca C)) s3.heap ∧ wpAny (model X.prog X.w) X.A (call (.ref s.heap.objs.size) ([] ++ ws) (ks.zip zs)) (EP X ((s.heap.objs.size, PySem.W.methodObj (.ref ga) (.ref (S.ca C))) :: pins) σ Q) X.xe s3)
      rp (d0 := [.cls C]) (v0 := [.ref (S.ca C)]) (.cons (by unfold RV; rfl) .nil) hB pp fun vs us H2 l1 l2 q s3 ws zs I3 rv rz => ⟨⟨ClX.pin_at I3, I3.kIn⟩, ?_⟩)) fun _ _ y => ClX.unpinE y
  have rv2 : Vals (V.ref (S.ca C) :: vs) (Value.ref (S.ca C) :: ws) := .cons rfl rv
  have r2 := hb.rel rv2 rz
  refine wpAny_call (PySem.W.method_call (ClX.pin_at I3) (codeAny_mono (F.run X.A X.stack s3 H2 ⟨.ref (S.ca C) :: ws, ks.zip zs⟩ _ _ Q (fun c d H' => W c d σ H') hr I3.env0 (hb.to s3 (.ref (S.ca C) :: ws) zs I3.kIn (by have := rv.length; simp at l1 ⊢; omega) (by rw [← rz.length]; exact l2)) r2 q) fun r s' hq => ?_))
  cases r with
  | error e => exact passAt tk σ _ H2 s3 e s' I3 hq
  | ok fl =>
    cases fl with
    | ret u => exact I3.after hq
    | next => exact False.elim hq
    | brk => exact False.elim hq
    | cont => exact False.elim hq
theorem se_smthK (ov : Ov S X) (M : SmKOk S k x w es.length ks b fn) (hr : Room k X.A) (tk : Takes X W) (hg : Gl X x) (hd : (x == ("__debug__" : Str)) = false) (ha : PA X es (tRs S W fs)) (hkw : PK X kws (tRs S W gs)) (hks : kws.map (·.arg) = ks.map some)
    (hn : es.all nst = true) (hlen : es.length + kws.length < 29) (hln : (apos.endLine == pos.line) = true) (h0 : es = [] → fs = fun _ m => .ok [] m) :
    SE X S W (.Call (.Attribute (.Name x p) w apos) es kws pos) (fun fr m => (fs fr m).bind fun ds m1 => (gs fr m1).bind fun zs m2 => match b ds zs with | some as => fn as m2 | none => .bad) := by
  obtain ⟨CA, mc, pA, ga, fd, ps, gg, gV, hm, r, c, hb, hB, F⟩ := M
  have F := fnok_over ov F
  rw [← ov.mg] at hm
  rw [← ov.K] at r c hb
  obtain ⟨a1, a2, a3⟩ := kws_some (pos := pos) (env := X.env) hks
  refine ⟨fun pins s σ H Q I ⟨ow, io, fr, m, rp, pp⟩ => ?_⟩
  refine PySem.W.methodCall_KW (ld_glob I hg hm ?_ hd) (mcallK_tree rfl hn a1 hlen hln)
  obtain ⟨rest, hp⟩ := c.rc
  refine PySem.W.method_cls I.kIn r.ga (PySem.W.cls_bind I.kIn r.rd c.at_ (wpAny_call (PySem.W.sm_get (s := { s with toks := s.toks + 1 }) I.kIn hp (PySem.W.handed_on rfl ?_))))
  have I2 : Inv X pins σ H { s with toks := s.toks + 1 } := I.tok _
  refine callWith_gen (ks := ks) (P := fun h => X.K.In h) I2 ha hkw hks hn (PySem.W.keeps_K c.kp) h0 rp (key_KN (R0 := fun vs us H2 => ∀ s2 (ws zs : List Value), Inv X pins σ H2 s2 → Vals vs ws → Vals us zs → X.K.In s2.heap ∧ wpAny (model X.prog X.w) X.A (call (.ref ga) ([] ++ ws) (ks.zip zs)) (EP X pins σ Q) X.xe s2)
    rp (d0 := []) (v0 := []) .nil hB pp fun vs us H2 l1 l2 q s2 ws zs I2 r rz => ⟨I2.kIn, ?_⟩)
  exact run_fnNS (us := ws) (vs := vs) (E := fun σ c d H' => W c d σ H') F hr hb (passAt tk σ) I2 r rz l1 l2 q
end
end Mp
end
section
set_option Elab.async false
set_option linter.all false
set_option maxRecDepth 100000
set_option maxHeartbeats 4000000
/-! MpComp: the text's expressions turned into the small language, and that this is right. -/
namespace Mp
open PySem PySem.Spec PyProof.Rows L2

/-! ### tables -/
structure Tb where
  fn : List (Str × Nat × Nat)
  fk : List (Str × Nat × List Str × Nat × Nat)
  xc : List (Str × Nat × Nat)
  cs : List (Str × Nat)
  wy : Str
  hw : Bool := true
  fr : List (Str × Nat) := []
  at_ : List (Str × Nat) := []
  mt : List (Str × Nat × Nat) := []
  mm : List (Str × Nat × Nat × Nat) := []
  mmK : List (Str × Nat × List Str × Nat × Nat × Nat) := []
  cc : List (Str × Str × Nat) := []
  sm : List (Str × Str × Nat × Nat × Option Nat) := []
  mtK : List (Str × Nat × List Str × Nat × Nat) := []
  smK : List (Str × Str × Nat × List Str × Nat × Nat × Option Nat) := []
  cl : List (Str × Nat) := []
  hs : Bool := false
  ln : Nat := 0
  rp : Nat := 0
  eq : Nat := 0
structure Cc where
  N : List Str
  sc : Scope
  fnT : Bool
  lam : Bool
  ol : List Nat := []
  fz : List (Nat × Nat) := []
  hi : List (Nat × Nat) := []
  ck : List (Str × Str) := []
def ixOf : List Str → Str → Option Nat
  | [], _ => none
  | y :: r, x => if y = x then some 0 else (ixOf r x).map (· + 1)
theorem ixOf_get : ∀ {N : List Str} {x : Str} {i : Nat}, ixOf N x = some i → N[i]? = some x
  | [], _, _, h => by cases h
  | y :: r, x, i, h => by
    unfold ixOf at h
    split at h
    · rename_i e; cases h; rw [e]; rfl
    · obtain ⟨j, h1, rfl⟩ := Option.map_eq_some_iff.mp h
      have := ixOf_get h1
      simpa using this
theorem ixOf_none : ∀ {N : List Str} {x : Str}, ixOf N x = none → x ∉ N
  | [], _, _ => fun h => nomatch h
  | y :: r, x, h => by
    unfold ixOf at h
    split at h
    · cases h
    · rename_i e
      rw [Option.map_eq_none_iff] at h
      intro z
      rcases List.mem_cons.mp z with z | z
      · exact e z.symm
      · exact ixOf_none h z
def fnIx : List (Str × Nat × Nat) → Str → Nat → Option Nat
  | [], _, _ => none
  | (y, k, f) :: r, x, n => if y = x ∧ k = n then some f else fnIx r x n
def fkIx : List (Str × Nat × List Str × Nat × Nat) → Str → Nat → List Str → Option (Nat × Nat)
  | [], _, _, _ => none
  | (y, k, ks, f, b) :: r, x, n, l => if y = x ∧ k = n ∧ ks = l then some (f, b) else fkIx r x n l
def csIx : List (Str × Nat) → Str → Option Nat
  | [], _ => none
  | (y, g) :: r, x => if y = x then some g else csIx r x
def frIx : List (Str × Nat) → Str → Option Nat
  | [], _ => none
  | (y, g) :: r, x => if y = x then some g else frIx r x
def visB (sc : Scope) (x : Str) : Bool := match sc.names.lookup x with
  | some .local => true
  | some .cell => true
  | some .free => true
  | _ => false
theorem visB_ok {sc : Scope} {x : Str} (h : visB sc x = true) : Vis sc x := by
  unfold visB at h
  split at h
  · rename_i e; exact .inl e
  · rename_i e; exact .inr (.inl e)
  · rename_i e; exact .inr (.inr e)
  · cases h
def glB (sc : Scope) (x : Str) : Bool := (match sc.names.lookup x with | some .globalImplicit => true | _ => false) && !(x == ("__debug__" : Str))
theorem glB_ok {X : Cx} {sc : Scope} {x : Str} (e : X.env.scope = sc) (h : glB sc x = true) : Gl X x ∧ (x == ("__debug__" : Str)) = false := by
  unfold glB at h
  rw [Bool.and_eq_true] at h
  obtain ⟨h1, h2⟩ := h
  split at h1
  · rename_i q
    refine ⟨?_, by simpa using h2⟩
    show X.env.scope.names.lookup x = _
    rw [e]
    exact q
  · cases h1
def nmB (x : Str) : Bool := !(x == ("__debug__" : Str)) && !(x == ("__classdict__" : Str))
theorem nmB_ok {x : Str} (h : nmB x = true) : (x == ("__debug__" : Str)) = false ∧ (x == ("__classdict__" : Str)) = false := by
  unfold nmB at h
  rw [Bool.and_eq_true] at h
  exact ⟨by simpa using h.1, by simpa using h.2⟩
/-- the built-ins that are used must not be hidden by names of the top -/
def bnames : List Str := ["len", "int", "abs", "all", "any", "list", "tuple", "str", "sum", "max", "min", "range", "zip", "isinstance", "bool", "dict", "sorted", "enumerate", "repr"]
def mmIx : List (Str × Nat × Nat × Nat) → Str → Nat → Option (Nat × Nat)
  | [], _, _ => none
  | (y, k, C, f) :: r, x, n => if y = x ∧ k = n then some (C, f) else mmIx r x n
def mmKx : List (Str × Nat × List Str × Nat × Nat × Nat) → Str → Nat → List Str → Option (Nat × Nat × Nat)
  | [], _, _, _ => none
  | (y, k, ks, C, f, b) :: r, x, n, l => if y = x ∧ k = n ∧ ks = l then some (C, f, b) else mmKx r x n l
def ccIx : List (Str × Str × Nat) → Str → Str → Option Nat
  | [], _, _ => none
  | (y, z, g) :: r, x, w => if y = x ∧ z = w then some g else ccIx r x w
/-- a staticmethod (none) or a classmethod (some class) of a class of the top -/
def smIx : List (Str × Str × Nat × Nat × Option Nat) → Str → Str → Nat → Option (Nat × Option Nat)
  | [], _, _, _ => none
  | (y, z, k, f, c) :: r, x, w, n => if y = x ∧ z = w ∧ k = n then some (f, c) else smIx r x w n
def smKx : List (Str × Str × Nat × List Str × Nat × Nat × Option Nat) → Str → Str → Nat → List Str → Option (Nat × Nat × Option Nat)
  | [], _, _, _, _ => none
  | (y, z, k, ks, f, b, c) :: r, x, w, n, l => if y = x ∧ z = w ∧ k = n ∧ ks = l then some (f, b, c) else smKx r x w n l
def ckIx : List (Str × Str) → Str → Option Str
  | [], _ => none
  | (y, z) :: r, x => if y = x then some z else ckIx r x
/-- what the top gives of own classes -/
structure ClOk (T : Tb) (G : Gt) (S : Sta) (k : Nat) : Prop where
  lv : 1 ≤ k
  nm : ∀ f i, csIx T.at_ f = some i → S.nm i = f ∧ NmI S i
  fl : ∀ f i, csIx T.at_ f = some i → ∀ C, G.ci.pr C i = some none → FldOk S C i
  pr : ∀ f i, csIx T.at_ f = some i → ∀ C g, G.ci.pr C i = some (some g) → ∃ k1, k1 + 1 ≤ k ∧ PrpOk S k1 C i (G.fn g)
  mt : ∀ f n i, fnIx T.mt f n = some i → S.nm i = f ∧ NmI S i ∧ ∀ C g, G.ci.mt C i = some g → MthOk S k C i (n + 1) (G.fn g)
  mm : ∀ x n C f, mmIx T.mm x n = some (C, f) → ∃ k1, k1 + 1 ≤ k ∧ MkOk S k1 x C n (G.fn f)
  mmK : ∀ x n l C f b, mmKx T.mmK x n l = some (C, f, b) → ∃ k1, k1 + 1 ≤ k ∧ MkKOk S k1 x C n l (G.bnd b) (G.fn f)
  cc : ∀ x w g, ccIx T.cc x w = some g → CcOk S x w (G.cst g)
  sm : ∀ x w n f c, smIx T.sm x w n = some (f, c) → match c with
    | some C => CmOk S k x w C (n + 1) (G.fn f)
    | none => SmOk S k x w n (G.fn f)
  mtK : ∀ f n l i b, fkIx T.mtK f n l = some (i, b) → S.nm i = f ∧ NmI S i ∧ ∀ C g, G.ci.mt C i = some g → MthKOk S k C i (n + 1) l (G.bnd b) (G.fn g)
  smK : ∀ x w n l f b c, smKx T.smK x w n l = some (f, b, c) → match c with
    | some C => CmKOk S k x w C (n + 1) l (G.bnd b) (G.fn f)
    | none => SmKOk S k x w n l (G.bnd b) (G.fn f)
  cl : ∀ x C, csIx T.cl x = some C → S.mg x = some (.ref (S.ca C)) ∧ IscOk S G.ci C
  ln : T.hs = true → S.nm T.ln = "__len__" ∧ ∀ C g, G.ci.mt C T.ln = some g → ∃ k1, k1 + 1 ≤ k ∧ MthOk S k1 C T.ln 1 (G.fn g)
  rp : T.hs = true → S.nm T.rp = "__repr__" ∧ ∀ C g, G.ci.mt C T.rp = some g → ∃ k1, k1 + 1 ≤ k ∧ MthOk S k1 C T.rp 1 (G.fn g)
  eq : T.hs = true → S.nm T.eq = "__eq__" ∧ ∀ C g, G.ci.mt C T.eq = some g → ∃ k1, k1 + 1 ≤ k ∧ EqiOk S k1 C T.eq (G.fn g)
structure TbOk (T : Tb) (G : Gt) (S : Sta) (k : Nat) : Prop where
  fn : ∀ x n f, fnIx T.fn x n = some f → CalOk S k x n (G.fn f)
  fk : ∀ x n l f b, fkIx T.fk x n l = some (f, b) → CalKOk S k x n l (G.bnd b) (G.fn f)
  cs : ∀ x g, csIx T.cs x = some g → CstOk S x (G.cst g)
  bl : ∀ x ∈ bnames, S.mg x = none
  wy : T.hw = true → WhyDef S T.wy G.why
  fr : ∀ x f, frIx T.fr x = some f → CalROk S k x (G.fn f)
  cls : ClOk T G S k
structure Good (T : Tb) (G : Gt) (k : Nat) (c : Cc) (X : Cx) (S : Sta) (W : WX) : Prop where
  ov : Ov S X
  calm : X.calm = true
  nd : X.N.Nodup
  N : X.N = c.N
  sc : X.env.scope = c.sc
  fn : c.fnT = true → ∀ x, X.fn x = true
  kind : c.sc.kind = .function
  room : Room k X.A
  room2 : c.lam = true → Room (k + 2) X.A
  tk : Takes X W
  tb : TbOk T G S k
  lam : c.lam = true → ∃ cA P, LamX.TabB X.base X.mg cA P ∧ X.env.code = .ref cA ∧ (P, X.env.qual ++ "<lambda>") ∈ S.tb ∧ ∀ q ∈ S.tb, q.1 = P → q.2 = X.env.qual ++ "<lambda>"
  lev : c.lam = true → 1 ≤ k
/-! ### the turning -/
def mapO (f : Expr → Option E) : List Expr → Option (List E)
  | [] => some []
  | e :: r => match f e, mapO f r with
    | some a, some b => some (a :: b)
    | _, _ => none
def boF : Operator → Option BO
  | .Add => some .add
  | .Sub => some .sub
  | .Mult => some .mul
  | .FloorDiv => some .fdiv
  | .Mod => some .mod
  | .Pow => some .pow
  | _ => none
theorem boF_ok {o : Operator} {b : BO} (h : boF o = some b) : boOp b = o := by
  cases o <;> first | (cases h; rfl) | cases h
def coF : CmpOp → Option CO
  | .Eq => some .eq
  | .NotEq => some .ne
  | .Lt => some .lt
  | .LtE => some .le
  | .Gt => some .gt
  | .GtE => some .ge
  | .In => some .mem
  | .NotIn => some .nmem
  | _ => none
theorem coF_ok {o : CmpOp} {b : CO} (h : coF o = some b) : coOp b = o := by
  cases o <;> first | (cases h; rfl) | cases h
def isNoneE : Expr → Bool
  | .Constant .none _ _ => true
  | _ => false
def cB (op : PySem.BoolOp) (f : Expr → Option E) : List Expr → Option E
  | [] => none
  | [a] => f a
  | a :: r => match f a, cB op f r with
    | some x, some y => some (match op with | .And => .andv x y | .Or => .orv x y)
    | _, _ => none
/-- as a test: no ternary -/
def tOk : Nat → Expr → Bool
  | 0, _ => false
  | _ + 1, .IfExp .. => false
  | n + 1, .UnaryOp .Not a _ => tOk n a
  | n + 1, .BoolOp _ es _ => es.all (tOk n)
  | _, _ => true
def plainB : Expr → Bool
  | .Slice .. => false
  | .Tuple .. => false
  | .Constant .. => true
  | .Name .. => true
  | .BinOp .. => true
  | .UnaryOp .. => true
  | .Call .. => true
  | .Subscript .. => true
  | _ => false
def tyOf (x : Str) : Option Ty := if x = "int" then some .int else if x = "bool" then some .bool else if x = "str" then some .str else if x = "list" then some .list else if x = "tuple" then some .tuple else if x = "dict" then some .dict else none
def tysOf (c : Cc) : List Expr → Option (List Ty)
  | [] => some []
  | .Name x _ :: r => match tyOf x, tysOf c r with
    | some t, some ts => if glB c.sc x = true then some (t :: ts) else none
    | _, _ => none
  | _ => none
def blOf (x : Str) (n : Nat) : Option Bl := if x = "len" then some .len else if x = "int" then some .int_ else if x = "abs" then some .abs else if x = "all" then some .all else if x = "any" then some .any else if x = "list" then some .list else if x = "tuple" then some .tuple else if x = "str" then some .str
  else if x = "sum" then some .sum else if x = "max" ∧ n = 2 then some .max2 else if x = "min" ∧ n = 2 then some .min2 else if x = "sorted" ∧ n = 1 then some .sorted else none
def kwn : List Keyword → Option (List Str)
  | [] => some []
  | ⟨some n, _, _⟩ :: r => (kwn r).map (n :: ·)
  | _ => none
def noArgs : Arguments → Bool
  | ⟨[], [], none, [], [], none, []⟩ => true
  | _ => false
/-- the own names of a comprehension's block -/
def ownOf (N : List Str) : List (Str × NameKind) → Option (List (Str × Nat))
  | [] => some []
  | (x, .local) :: r => match ixOf N x, ownOf N r with
    | some i, some l => some ((x, i) :: l)
    | none, some l => some l
    | _, _ => none
  | (x, .cell) :: r => match ixOf N x, ownOf N r with
    | some i, some l => some ((x, i) :: l)
    | none, some l => some l
    | _, _ => none
  | _ :: r => ownOf N r
def blkB (N : List Str) (sc scope : Scope) : Bool :=
  decide (scope.kind = .function) && scope.names.all (fun y => decide (scope.names.lookup y.1 = some y.2)) &&
    scope.names.all fun y => !decide (y.2 = .free) || decide (sc.names.lookup y.1 = some .cell) || decide (sc.names.lookup y.1 = some .free)
def blkC (c : Cc) (scope : Scope) : Cc := { N := c.N, sc := relS scope c.sc, fnT := false, lam := false, ol := c.ol, hi := c.hi, ck := c.ck }
def lamC (c : Cc) (scope : Scope) : Cc := { N := c.N, sc := scope, fnT := false, lam := false, ol := c.ol, hi := c.hi, ck := c.ck }
/-- an operand: a list that the frame owns is read where it stands -/
def oF (c : Cc) (f : Expr → Option E) : Expr → Option E
  | .Name x p => if (visB c.sc x && nmB x) = true then (match ixOf c.N x with
    | some i => if c.ol.contains i = true then some (.own i) else f (.Name x p)
    | none => f (.Name x p)) else f (.Name x p)
  | e => f e
mutual
def cTg (c : Cc) : Nat → Expr → Option Tg
  | 0, _ => none
  | _ + 1, .Name x _ => match ixOf c.N x with
    | some i => if c.sc.names.lookup x = some .local ∨ (c.sc.names.lookup x = some .cell ∧ c.fnT = true) then some (.nm i) else none
    | none => none
  | n + 1, .Tuple es _ _ => (cTgs c n es).map .tup
  | _, _ => none
def cTgs (c : Cc) : Nat → List Expr → Option (List Tg)
  | 0, _ => none
  | _ + 1, [] => some []
  | n + 1, e :: r => match cTg c n e, cTgs c n r with
    | some t, some ts => if nst e = true then some (t :: ts) else none
    | _, _ => none
end
def cIt (c : Cc) (f : Expr → Option E) (tg : Expr) : Expr → Option E
  | .Call (.Name x p) [a] [] q => if x = "range" ∧ glB c.sc x = true ∧ nst a = true then (f a).map .rng1
    else if x = "enumerate" ∧ glB c.sc x = true ∧ nst a = true then (match tg, f a with | .Tuple .., some u => some (.enm u) | _, _ => none)
    else f (.Call (.Name x p) [a] [] q)
  | .Call (.Name x p) [a, b] [] q => if x = "range" ∧ glB c.sc x = true ∧ nst a = true ∧ nst b = true then (match f a, f b with | some u, some v => some (.rng2 u v) | _, _ => none)
    else if x = "zip" ∧ glB c.sc x = true ∧ nst a = true ∧ nst b = true then (match tg, f a, f b with | .Tuple .., some u, some v => some (.zip u v) | _, _, _ => none)
    else f (.Call (.Name x p) [a, b] [] q)
  | e => f e
def cPart (f : Expr → Option E) : Option Expr → Option E
  | none => some (.k .non)
  | some e => (f e).map .prt
def setE : Expr → Bool
  | .Set .. => true
  | _ => false
/-! further constructs: f turns the parts -/
def m1Of (x : Str) : Option M1 := if x = "partition" then some .partition else if x = "index" then some .index else if x = "split" then some .split else if x = "join" then some .join else none
def fmB : Expr → Bool
  | .FormattedValue .. => true
  | .Constant (.str _) _ _ => true
  | _ => false
def cX (fo f : Expr → Option E) : Expr → Option E
  | .Call (.Attribute o m apos) [a] [] pos => if (baseB o && (apos.endLine == pos.line) && nst a) = true then (match m1Of m, f o, fo a with
    | some k, some o', some a' => some (.m1 k o' a')
    | _, _, _ => none) else none
  | .FormattedValue e c none _ => if c = -1 then (f e).map .fmt else none
  | .JoinedStr (a :: b :: r) _ => (mapO f (a :: b :: r)).map .fs
  | .JoinedStr [a] _ => f a
  | .Subscript a (.Slice none none (some (.UnaryOp .USub (.Constant (.int j) _ _) _)) _) _ => if j = 1 then (fo a).map .rev else none
  | _ => none
/-- one step: rc turns the parts -/
def cE1 (T : Tb) (n : Nat) (rc : Cc → Expr → Option E) (c : Cc) : Expr → Option E
  | .Constant (.int i) _ _ => some (.k (.int i))
  | .Constant (.bool b) _ _ => some (.k (.bl b))
  | .Constant (.str s) _ _ => some (.k (.str s))
  | .Constant .none _ _ => some (.k .non)
  | .Name x _ => if (visB c.sc x && nmB x) = true then (ixOf c.N x).map .loc else if glB c.sc x = true then (csIx T.cs x).map .cst else none
  | .BinOp a o b _ => match boF o, oF c (rc c) a, oF c (rc c) b with
    | some o, some a, some b => some (.bin o a b)
    | _, _, _ => none
  | .UnaryOp .USub a _ => (rc c a).map .neg
  | .UnaryOp .Not a _ => if tOk n a = true then (rc c a).map .notv else none
  | .Compare a [.Is] [.Constant .none _ _] _ => (rc c a).map .isN
  | .Compare a [.IsNot] [.Constant .none _ _] _ => (rc c a).map .notN
  | .Compare a [o] [b] _ => match coF o, oF c (rc c) a, oF c (rc c) b with
    | some o', some a', some b' => if behindInMarks o b = false then some (.cmp o' a' b') else none
    | _, _, _ => none
  | .Compare a [o, q] [b, d] _ => match coF o, coF q, oF c (rc c) a, oF c (rc c) b, oF c (rc c) d with
    | some o', some q', some a', some b', some d' => if lastMarks [o, q] [b, d] = false then some (.chain o' q' a' b' d') else none
    | _, _, _, _, _ => none
  | .BoolOp op es _ => if es.all (tOk n) = true then cB op (rc c) es else none
  | .IfExp t a b _ => if tOk n t = true then (match rc c t, rc c a, rc c b with
    | some t, some a, some b => some (.ite t a b)
    | _, _, _ => none) else none
  | .Tuple es _ _ => if es.all nst = true then (mapO (rc c) es).map .tup else none
  | .List es _ => if es.all nst = true then (mapO (rc c) es).map .lst else none
  | .Subscript a (.Slice lo hi none _) _ => match oF c (rc c) a, cPart (rc c) lo, cPart (rc c) hi with
    | some a, some l, some h => some (.sl a l h)
    | _, _, _ => none
  | .Subscript a (.Slice lo hi (some st) p1) p2 => cX (oF c (rc c)) (rc c) (.Subscript a (.Slice lo hi (some st) p1) p2)
  | .Subscript a i _ => if plainB i = true then (match oF c (rc c) a, rc c i with
    | some a, some i => some (.idx a i)
    | _, _ => none) else none
  | .ListComp elt [⟨tg, it, ifs, 0⟩] scope _ => if (blkB c.N c.sc scope && !setE it) = true then (match ownOf c.N scope.names, cTg (blkC c scope) n tg, cIt c (rc c) tg it, rc (blkC c scope) elt with
    | some own, some t, some i, some el => if (slots t).all (fun j => (own.map (·.2)).contains j) = true then (match ifs with
      | [] => some (.comp (own.map (·.2)) t i [] el)
      | [g] => if tOk n g = true then (rc (blkC c scope) g).map fun g => .comp (own.map (·.2)) t i [g] el else none
      | _ => none) else none
    | _, _, _, _ => none) else none
  | .Call (.Name x _) args [] _ => if (glB c.sc x && args.all nst) = true then (match args with
      | [] => (match fnIx T.fn x 0 with
        | some f => some (.call f [])
        | none => (frIx T.fr x).map fun f => .call f [])
      | a :: r =>
        if x = "isinstance" then (match r with
          | [.Name y _] => match tyOf y, rc c a with
            | some t, some m => if glB c.sc y = true then some (.isi m [t]) else none
            | _, _ => none
          | [.Tuple es _ _] => match tysOf c es, rc c a with
            | some ts, some m => if ts ≠ [] ∧ ts.length ≤ 100 then some (.isi m ts) else none
            | _, _ => none
          | _ => none)
        else match blOf x args.length with
        | some b => (mapO (oF c (rc c)) args).map (.blt b)
        | none => match fnIx T.fn x args.length with
          | some f => (mapO (rc c) args).map (.call f)
          | none => match fkIx T.fk x args.length [] with
            | some (f, b) => (mapO (rc c) args).map fun es => .callK f b es []
            | none => match frIx T.fr x with
            | some f => (mapO (rc c) args).map (.call f)
            | none => if x = T.wy ∧ c.lam = true ∧ T.hw = true then (match a, r with
              | .Lambda params body scope _, [] => if (LamX.lamSB c.sc scope && noArgs params) = true then (rc (lamC c scope) body).map .why else none
              | _, _ => none) else none) else none
  | .Call (.Name x _) args kws _ => if (glB c.sc x && args.all nst) = true then (match kwn kws with
      | some l => match fkIx T.fk x args.length l, mapO (rc c) args, mapO (rc c) (kws.map (·.value)) with
        | some (f, b), some es, some ks => some (.callK f b es ks)
        | _, _, _ => none
      | none => none) else none
  | e => cX (oF c (rc c)) (rc c) e
/-- own classes: what the tables and the hints say -/
def hiB (T : Tb) (c : Cc) (p : Pos) : Bool := T.hs && c.hi.contains (p.line, p.col)
/-- C(..): by place, or by a binder -/
def cMk (T : Tb) (rc : Expr → Option E) (x : Str) (args : List Expr) (kws : List Keyword) : Option E :=
  match mmIx T.mm x args.length with
  | some (_, f) => if args.isEmpty = false ∧ kws.isEmpty = true then (mapO rc args).map (.call f) else none
  | none => match kwn kws with
    | some l => match mmKx T.mmK x args.length l, mapO rc args, mapO rc (kws.map (·.value)) with
      | some (_, f, b), some es, some ks => some (.callK f b es ks)
      | _, _, _ => none
    | none => none
def cCall (T : Tb) (c : Cc) (rc : Expr → Option E) (x : Str) (args : List Expr) (kws : List Keyword) (pos : Pos) : Option E :=
  if (glB c.sc x && args.all nst) = true then (match args with
    | [a] => if x = "len" ∧ hiB T c pos = true ∧ kws.isEmpty = true then (rc a).map (.dun .len T.ln)
      else if x = "repr" ∧ hiB T c pos = true ∧ kws.isEmpty = true then (rc a).map (.dun .repr T.rp)
      else cMk T rc x args kws
    | [a, .Name y yp] => if x = "isinstance" ∧ kws.isEmpty = true then (if glB c.sc y = true then (match csIx T.cl y, rc a with
        | some C, some m => some (.isC m C)
        | _, _ => none) else none)
      else cMk T rc x args kws
    | _ => cMk T rc x args kws)
  else if (visB c.sc x && nmB x && args.all nst && kws.isEmpty && !args.isEmpty) = true then (match ckIx c.ck x, ixOf c.N x with
    | some y, some i => match mmIx T.mm y args.length with
      | some (C, f) => (mapO rc args).map (.callL i C f)
      | none => none
    | _, _ => none)
  else none
def cAtt (T : Tb) (c : Cc) (rc : Expr → Option E) (o : Expr) (f : Str) : Option E :=
  if baseB o = true then (match csIx T.at_ f, rc o with
    | some i, some o => some (.fld o i)
    | _, _ => none) else none
def cMth (T : Tb) (rc : Expr → Option E) (o : Expr) (f : Str) (apos : Pos) (es : List Expr) (pos : Pos) : Option E :=
  if (baseB o && es.all nst && decide (es.length < 29) && (apos.endLine == pos.line)) = true then (match fnIx T.mt f es.length, rc o, mapO rc es with
    | some i, some o, some ms => some (.mth i o ms)
    | _, _, _ => none) else none
def cSm (T : Tb) (c : Cc) (rc : Expr → Option E) (x f : Str) (apos : Pos) (es : List Expr) (pos : Pos) : Option E :=
  if (glB c.sc x && es.all nst && decide (es.length < 29) && (apos.endLine == pos.line) && !es.isEmpty) = true then (match smIx T.sm x f es.length, mapO rc es with
    | some (g, some C), some ms => some (.call g (.k (.cls C) :: ms))
    | some (g, none), some ms => some (.call g ms)
    | _, _ => none) else none
def cMthK (T : Tb) (rc : Expr → Option E) (o : Expr) (f : Str) (apos : Pos) (es : List Expr) (kws : List Keyword) (pos : Pos) : Option E :=
  if (baseB o && es.all nst && decide (es.length + kws.length < 29) && (apos.endLine == pos.line)) = true then (match kwn kws with
    | some l => match fkIx T.mtK f es.length l, rc o, mapO rc es, mapO rc (kws.map (·.value)) with
      | some (i, b), some o, some ms, some ks => some (.mthK i b o ms ks)
      | _, _, _, _ => none
    | none => none) else none
def cSmK (T : Tb) (rc : Expr → Option E) (x f : Str) (apos : Pos) (es : List Expr) (kws : List Keyword) (pos : Pos) : Option E :=
  if (es.all nst && decide (es.length + kws.length < 29) && (apos.endLine == pos.line)) = true then (match kwn kws with
    | some l => match smKx T.smK x f es.length l, mapO rc es, mapO rc (kws.map (·.value)) with
      | some (g, b, some C), some ms, some ks => some (.callK g b (.k (.cls C) :: ms) ks)
      | some (g, b, none), some ms, some ks => some (.callK g b ms ks)
      | _, _, _ => none
    | none => none) else none
def cI (T : Tb) (n : Nat) (rc : Cc → Expr → Option E) (c : Cc) : Expr → Option E
  | .Attribute (.Name x p) f _ => if glB c.sc x = true then (ccIx T.cc x f).map .cst else cAtt T c (rc c) (.Name x p) f
  | .Attribute o f _ => cAtt T c (rc c) o f
  | .Call (.Attribute (.Name x p) f apos) es [] pos => if glB c.sc x = true then cSm T c (rc c) x f apos es pos else cMth T (rc c) (.Name x p) f apos es pos
  | .Call (.Attribute o f apos) es [] pos => cMth T (rc c) o f apos es pos
  | .Call (.Attribute (.Name x p) f apos) es kws pos => if glB c.sc x = true then cSmK T (rc c) x f apos es kws pos else cMthK T (rc c) (.Name x p) f apos es kws pos
  | .Call (.Attribute o f apos) es kws pos => cMthK T (rc c) o f apos es kws pos
  | .Call (.Name x _) args kws pos => cCall T c (rc c) x args kws pos
  | .Compare a [.Eq] [b] pos => if (hiB T c pos && !behindInMarks .Eq b) = true then (match rc c a, rc c b with
    | some a, some b => some (.eqI false T.eq a b)
    | _, _ => none) else none
  | .Compare a [.NotEq] [b] pos => if (hiB T c pos && !behindInMarks .NotEq b) = true then (match rc c a, rc c b with
    | some a, some b => some (.eqI true T.eq a b)
    | _, _ => none) else none
  | .DictComp kx vx [⟨tg, it, [], 0⟩] scope _ => if (blkB c.N c.sc scope && !setE it) = true then (match ownOf c.N scope.names, cTg (blkC c scope) n tg, cIt c (rc c) tg it, rc (blkC c scope) kx, rc (blkC c scope) vx with
    | some own, some t, some i, some k', some v' => if (slots t).all (fun j => (own.map (·.2)).contains j) = true then some (.dcomp (own.map (·.2)) t i k' v') else none
    | _, _, _, _, _ => none) else none
  | _ => none
def cE (T : Tb) : Nat → Cc → Expr → Option E
  | 0, _, _ => none
  | n + 1, c, e => match cI T n (cE T n) c e with
    | some m => some m
    | none => cE1 T n (cE T n) c e
end Mp
end
section
set_option Elab.async false
set_option linter.all false
set_option maxRecDepth 100000
set_option maxHeartbeats 8000000
/-! MpCompS: the turning of expressions is right. -/
namespace Mp
open PySem PySem.Spec PyProof.Rows L2

section
variable {T : Tb} {G : Gt} {k : Nat} {S : Sta}
theorem evs_F : ∀ ms : List E, evs G ms = evsF (ms.map (ev G))
  | [] => rfl
  | m :: ms => by
    funext fr h
    show (ev G m fr h).bind _ = (ev G m fr h).bind _
    rw [evs_F ms]
theorem Good.u {c : Cc} {X : Cx} {W : WX} (g : Good T G k c X S W) : X.A.units + 65 < cLine := by
  have := g.room.un
  omega
/-- an expression and, where it may be one, a test -/
def Snd (X : Cx) (S : Sta) (W : WX) (G : Gt) (n : Nat) (e : Expr) (m : E) : Prop := SE X S W e (ev G m) ∧ (tOk n e = true → STt X S W e (ev G m))
def IH (T : Tb) (G : Gt) (k : Nat) (S : Sta) (n : Nat) : Prop := ∀ c e m, cE T n c e = some m → ∀ X W, Good T G k c X S W → Snd X S W G n e m
theorem paO {n : Nat} (ih : IH T G k S n) {c : Cc} {X : Cx} {W : WX} (g : Good T G k c X S W) : ∀ {es : List Expr} {ms : List E}, mapO (cE T n c) es = some ms → es.all nst = true → PA X es (tRs S W (evs G ms))
  | [], ms, h, _ => by
    unfold mapO at h
    cases h
    exact sa_nil
  | e :: r, ms, h, hn => by
    unfold mapO at h
    split at h
    · rename_i a b h1 h2
      cases h
      rw [List.all_cons, Bool.and_eq_true] at hn
      have h3 := paO ih g h2 hn.2
      rw [evs_F] at h3 ⊢
      exact sa_cons (ih c e a h1 X W g).1 h3 (starEach_ns hn.1)
    · cases h
theorem oF_ok {n : Nat} (ih : IH T G k S n) {c : Cc} {X : Cx} {W : WX} (g : Good T G k c X S W) {e : Expr} {m : E} (h : oF c (cE T n c) e = some m) : SEo X S W e (ev G m) := by
  unfold oF at h
  split at h
  · split at h
    · rename_i hv
      rw [Bool.and_eq_true] at hv
      split at h
      · rename_i i hi
        split at h
        · cases h
          obtain ⟨d1, d2⟩ := nmB_ok hv.2
          exact so_own (by rw [g.N]; exact ixOf_get hi) (by rw [g.sc]; exact visB_ok hv.1) d1 d2
        · exact se_o (ih c _ m h X W g).1
      · exact se_o (ih c _ m h X W g).1
    · exact se_o (ih c _ m h X W g).1
  · exact se_o (ih c _ m h X W g).1
theorem paOo {n : Nat} (ih : IH T G k S n) {c : Cc} {X : Cx} {W : WX} (g : Good T G k c X S W) : ∀ {es : List Expr} {ms : List E}, mapO (oF c (cE T n c)) es = some ms → es.all nst = true → PA X es (tRso S W (evs G ms))
  | [], ms, h, _ => by
    unfold mapO at h
    cases h
    exact sao_nil
  | e :: r, ms, h, hn => by
    unfold mapO at h
    split at h
    · rename_i a b h1 h2
      cases h
      rw [List.all_cons, Bool.and_eq_true] at hn
      have h3 := paOo ih g h2 hn.2
      rw [evs_F] at h3 ⊢
      exact sao_cons (oF_ok ih g h1) h3 (starEach_ns hn.1)
    · cases h
theorem pkO {n : Nat} (ih : IH T G k S n) {c : Cc} {X : Cx} {W : WX} (g : Good T G k c X S W) : ∀ {kws : List Keyword} {ms : List E}, mapO (cE T n c) (kws.map (·.value)) = some ms → PK X kws (tRs S W (evs G ms))
  | [], ms, h => by
    unfold mapO at h
    cases h
    exact sk_nil
  | ⟨nm, e, p⟩ :: r, ms, h => by
    rw [List.map_cons] at h
    unfold mapO at h
    split at h
    · rename_i a b h1 h2
      cases h
      have h3 := pkO ih g h2
      rw [evs_F] at h3 ⊢
      exact sk_cons (ih c e a h1 X W g).1 h3
    · cases h
theorem kwn_ok : ∀ {kws : List Keyword} {l : List Str}, kwn kws = some l → kws.map (·.arg) = l.map some
  | [], l, h => by unfold kwn at h; cases h; rfl
  | ⟨some nm, e, p⟩ :: r, l, h => by
    unfold kwn at h
    obtain ⟨l', h1, rfl⟩ := Option.map_eq_some_iff.mp h
    rw [List.map_cons, List.map_cons, kwn_ok h1]
  | ⟨none, e, p⟩ :: r, l, h => by unfold kwn at h; cases h
theorem evs_len {ms : List E} : ∀ {fr : Fr} {h : MH} {ds : List Mp.D} {h' : MH}, evs G ms fr h = .ok ds h' → ds.length = ms.length := by
  induction ms with
  | nil => intro fr h ds h' e; unfold evs at e; cases e; rfl
  | cons m ms ih =>
    intro fr h ds h' e
    unfold evs at e
    cases q : ev G m fr h with
    | bad => rw [q] at e; cases e
    | exc x h1 => rw [q] at e; cases e
    | ok d h1 =>
      rw [q, R.ok_bind] at e
      cases q2 : evs G ms fr h1 with
      | bad => rw [q2] at e; cases e
      | exc x h2 => rw [q2] at e; cases e
      | ok ds2 h2 =>
        rw [q2, R.ok_bind] at e
        cases e
        rw [List.length_cons, List.length_cons, ih q2]
theorem mapO_len {f : Expr → Option E} : ∀ {es : List Expr} {ms : List E}, mapO f es = some ms → ms.length = es.length
  | [], ms, h => by unfold mapO at h; cases h; rfl
  | e :: r, ms, h => by
    unfold mapO at h
    split at h
    · rename_i a b h1 h2
      cases h
      rw [List.length_cons, List.length_cons, mapO_len h2]
    · cases h
/-- a test by its value -/
theorem tst_val {X : Cx} {W : WX} {e : Expr} {f : Fe} (ov : Ov S X) (h : SE X S W e f) (he : ∀ whole, isTrue e X.env whole = (do let v ← whole; standAt e.pos; holding [v] (truthy v))) : SE X S W e f ∧ STt X S W e f := ⟨h, st_val ov h he⟩
theorem snd_val {X : Cx} {W : WX} {e : Expr} {m : E} {n : Nat} (ov : Ov S X) (h : SE X S W e (ev G m)) (he : ∀ whole, isTrue e X.env whole = (do let v ← whole; standAt e.pos; holding [v] (truthy v))) : Snd X S W G n e m := ⟨h, fun _ => st_val ov h he⟩

theorem whole_of {e : Expr} (h : match e with | .UnaryOp .Not _ _ => False | .BoolOp .. => False | .IfExp .. => False | .Compare .. => False | _ => True) {env : Env} : ∀ whole, isTrue e env whole = (do let v ← whole; standAt e.pos; holding [v] (truthy v)) := by
  intro whole
  cases e <;> first | rfl | exact h.elim | skip
  rename_i o a p
  cases o <;> first | rfl | exact h.elim
/-- and, or -/
theorem bool_ok {n : Nat} (ih : IH T G k S n) {c : Cc} {X : Cx} {W : WX} (g : Good T G k c X S W) {op : PySem.BoolOp} {pos : Pos} : ∀ {es : List Expr} {m : E}, es.all (tOk n) = true → cB op (cE T n c) es = some m → SE X S W (.BoolOp op es pos) (ev G m) ∧ PW X (.BoolOp op es pos) (tT S W (tst (ev G m)))
  | [], m, _, h => by unfold cB at h; cases h
  | [a], m, ht, h => by
    unfold cB at h
    have ha := ih c a m h X W g
    rw [List.all_cons, Bool.and_eq_true] at ht
    refine ⟨se_one ha.1, ?_⟩
    cases op with
    | And => exact pw_and1 (ha.2 ht.1)
    | Or => exact pw_or1 (ha.2 ht.1)
  | a :: b :: r, m, ht, h => by
    unfold cB at h
    rw [List.all_cons, Bool.and_eq_true] at ht
    split at h
    · rename_i x y h1 h2
      cases h
      have ha := ih c a x h1 X W g
      have hb := bool_ok ih g (pos := pos) ht.2 h2
      cases op with
      | And => exact ⟨se_and g.ov ha.1 hb.1, st_and (ha.2 ht.1) hb.2⟩
      | Or => exact ⟨se_or g.ov ha.1 hb.1, st_or (ha.2 ht.1) hb.2⟩
    · cases h
theorem part_ok {n : Nat} (ih : IH T G k S n) {c : Cc} {X : Cx} {W : WX} (g : Good T G k c X S W) : ∀ {e : Option Expr} {m : E}, cPart (cE T n c) e = some m → PO X e (tO S W (ev G m))
  | none, m, h => by
    unfold cPart at h
    cases h
    exact so_none
  | some e, m, h => by
    unfold cPart at h
    obtain ⟨m', h1, rfl⟩ := Option.map_eq_some_iff.mp h
    exact so_some (ih c e m' h1 X W g).1
theorem plain_ok {b : Expr} (h : plainB b = true) : PlainIx b := by
  intro o i
  cases b <;> first | rfl | cases h
theorem bname {S : Sta} {X : Cx} {x : Str} (ov : Ov S X) (tb : TbOk T G S k) (h : x ∈ bnames) : X.mg x = none := by
  rw [ov.mg]
  exact tb.bl x h
theorem blOf_name {x : Str} {n : Nat} {b : Bl} (h : blOf x n = some b) : x = blName b := by
  unfold blOf at h
  by_cases h1 : x = "len"
  · rw [if_pos h1] at h; cases h; exact h1
  rw [if_neg h1] at h
  repeat' split at h
  all_goals first | (cases h; assumption) | (cases h; rename_i q; exact q.1) | cases h
theorem blName_mem (b : Bl) : blName b ∈ bnames := by
  cases b <;> decide +kernel
theorem tyOf_ok {x : Str} {t : Ty} (h : tyOf x = some t) : x ∈ bnames ∧ bootBuiltins x = some (.type (tyName t)) ∧ x ≠ "__name__" := by
  unfold tyOf at h
  repeat' split at h
  all_goals first | (cases h; rename_i q; subst q; decide +kernel) | cases h
theorem tys_ok {c : Cc} {X : Cx} {W : WX} (g : Good T G k c X S W) : ∀ {es : List Expr} {ts : List Ty}, tysOf c es = some ts → Paired (fun e t => ∃ x p, e = Expr.Name x p ∧ Gl X x ∧ X.mg x = none ∧ bootBuiltins x = some (.type (tyName t)) ∧ x ≠ "__name__" ∧ (x == ("__debug__" : Str)) = false) es ts
  | [], ts, h => by unfold tysOf at h; cases h; exact .nil
  | e :: r, ts, h => by
    unfold tysOf at h
    split at h
    · rename_i heq
      cases heq
    · rename_i x p r' heq
      cases heq
      split at h
      · rename_i t ts' h1 h2
        split at h
        · rename_i h3
          cases h
          obtain ⟨q1, q2, q3⟩ := tyOf_ok h1
          obtain ⟨q4, q5⟩ := glB_ok g.sc h3
          exact .cons ⟨x, p, rfl, q4, bname g.ov g.tb q1, q2, q3, q5⟩ (tys_ok g h2)
        · cases h
      · cases h
    · cases h
theorem boName {b : Bl} : blName b ≠ "__name__" := by cases b <;> decide +kernel
/-! targets -/
theorem asg_ns {e : Expr} {es : List Expr} {env : Env} (h : nst e = true) : assignEach (e :: es) env = (false, assign e env) :: assignEach es env := by
  cases e <;> first | rfl | cases h
mutual
theorem tg_ok {c : Cc} {X : Cx} {W : WX} (g : Good T G k c X S W) : ∀ (n : Nat) {e : Expr} {t : Tg}, cTg c n e = some t → PG X e (gR S t)
  | 0, _, _, h => by unfold cTg at h; cases h
  | n + 1, e, t, h => by
    unfold cTg at h
    split at h
    · rename_i heq; cases heq
    · split at h
      · rename_i i h1
        split at h
        · rename_i hl
          cases h
          refine sg_name g.nd (by rw [g.N]; exact ixOf_get h1) (by rw [g.sc]; exact hl.imp id (fun z => z.1)) ?_
          rcases hl with hl | hl
          · exact .inr (by rw [g.sc]; exact hl)
          · exact .inl (g.fn hl.2 _)
        · cases h
      · cases h
    · rename_i n' es kk pos heq
      cases heq
      obtain ⟨ts, h1, rfl⟩ := Option.map_eq_some_iff.mp h
      obtain ⟨q1, q2, q3⟩ := tgs_ok g n h1
      exact sg_tup g.ov g.calm q1 q2 q3
    · cases h
theorem tgs_ok {c : Cc} {X : Cx} {W : WX} (g : Good T G k c X S W) : ∀ (n : Nat) {es : List Expr} {ts : List Tg}, cTgs c n es = some ts → PGs X es (gRs S ts) ∧ (assignEach es X.env).length = ts.length ∧ (assignEach es X.env).findIdx? (·.1) = none
  | 0, _, _, h => by unfold cTgs at h; cases h
  | n + 1, [], ts, h => by
    unfold cTgs at h
    cases h
    exact ⟨sgs_nil, rfl, rfl⟩
  | n + 1, e :: r, ts, h => by
    unfold cTgs at h
    split at h
    · rename_i t ts' h1 h2
      split at h
      · rename_i hn
        cases h
        obtain ⟨q1, q2, q3⟩ := tgs_ok g n h2
        refine ⟨sgs_cons (tg_ok g n h1) q1 (by rw [asg_ns hn]; rfl), by rw [asg_ns hn, List.length_cons, List.length_cons, q2], ?_⟩
        rw [asg_ns hn, List.findIdx?_cons, q3]
        rfl
      · cases h
    · cases h
end
/-! iteration -/
theorem itF_enm (G : Gt) (a : E) : itF (ev G (.enm a)) = enmF (ev G a) := by
  funext fr m
  show ((ev G a fr m).bind fun x m1 => match enmD x with | some xs => R.ok (D.lst xs) m1 | none => .bad).bind _ = (ev G a fr m).bind _
  cases ev G a fr m with
  | ok x m1 =>
    dsimp only [R.ok_bind]
    cases enmD x <;> rfl
  | exc x m1 => rfl
  | bad => rfl
theorem itF_rng1 (b : E) : itF (ev G (.rng1 b)) = rng1F (ev G b) := by
  funext fr m
  show ((ev G b fr m).bind _).bind _ = (ev G b fr m).bind _
  cases ev G b fr m with
  | ok y m1 =>
    simp only [R.ok_bind]
    cases rngD (.int 0) y with
    | none => rfl
    | some xs => rfl
  | exc x m1 => rfl
  | bad => rfl
theorem itF_rng2 (a b : E) : itF (ev G (.rng2 a b)) = rng2F (ev G a) (ev G b) := by
  funext fr m
  show ((ev G a fr m).bind _).bind _ = (ev G a fr m).bind _
  cases ev G a fr m with
  | ok x m1 =>
    simp only [R.ok_bind]
    cases ev G b fr m1 with
    | ok y m2 =>
      simp only [R.ok_bind]
      cases rngD x y with
      | none => rfl
      | some xs => rfl
    | exc x m1 => rfl
    | bad => rfl
  | exc x m1 => rfl
  | bad => rfl
theorem itF_zip (a b : E) : itF (ev G (.zip a b)) = zipF (ev G a) (ev G b) := by
  funext fr m
  show ((ev G a fr m).bind _).bind _ = (ev G a fr m).bind _
  cases ev G a fr m with
  | ok x m1 =>
    simp only [R.ok_bind]
    cases ev G b fr m1 with
    | ok y m2 =>
      simp only [R.ok_bind]
      cases zipD x y with
      | none => rfl
      | some xs => rfl
    | exc x m1 => rfl
    | bad => rfl
  | exc x m1 => rfl
  | bad => rfl
theorem it_ok {n : Nat} (ih : IH T G k S n) {c : Cc} {X : Cx} {W : WX} (g : Good T G k c X S W) {tg e : Expr} {m : E} (h : cIt c (cE T n c) tg e = some m) : PI X tg e (tI S W (itF (ev G m))) := by
  unfold cIt at h
  split at h
  · rename_i x p a q
    split at h
    · rename_i hc
      obtain ⟨rfl, hg, hn⟩ := hc
      obtain ⟨m', h1, rfl⟩ := Option.map_eq_some_iff.mp h
      rw [itF_rng1]
      exact si_rng1 (glB_ok g.sc hg).1 (bname g.ov g.tb (by decide +kernel)) (ih c a m' h1 X W g).1 hn
    · split at h
      · rename_i hc
        obtain ⟨rfl, hg, hn⟩ := hc
        split at h
        · rename_i u h1
          cases h
          rw [itF_enm]
          exact si_enum g.ov (glB_ok g.sc hg).1 (bname g.ov g.tb (by decide +kernel)) (ih c a u h1 X W g).1 hn
        · cases h
      · exact si_val g.ov (ih c _ m h X W g).1
  · rename_i x p a b q
    split at h
    · rename_i hc
      obtain ⟨rfl, hg, hn, hn2⟩ := hc
      split at h
      · rename_i u v h1 h2
        cases h
        rw [itF_rng2]
        exact si_rng2 (glB_ok g.sc hg).1 (bname g.ov g.tb (by decide +kernel)) (ih c a u h1 X W g).1 (ih c b v h2 X W g).1 hn hn2
      · cases h
    · split at h
      · rename_i hc
        obtain ⟨rfl, hg, hn, hn2⟩ := hc
        split at h
        · rename_i u v h1 h2
          cases h
          rw [itF_zip]
          exact si_zip g.ov (glB_ok g.sc hg).1 (bname g.ov g.tb (by decide +kernel)) (ih c a u h1 X W g).1 (ih c b v h2 X W g).1 hn hn2
        · cases h
      · exact si_val g.ov (ih c _ m h X W g).1
  · exact si_val g.ov (ih c _ m h X W g).1
/-! blocks -/
theorem own_ix {N : List Str} : ∀ {ns : List (Str × NameKind)} {own : List (Str × Nat)}, ownOf N ns = some own → (∀ p ∈ own, N[p.2]? = some p.1) ∧ ∀ y ∈ ns, y.2 = .local ∨ y.2 = .cell → y.1 ∈ own.map (·.1) ∨ y.1 ∉ N
  | [], own, h => by
    unfold ownOf at h
    cases h
    exact ⟨fun p hp => (by cases hp), fun y hy => (by cases hy)⟩
  | (x, kd) :: r, own, h => by
    have step : ∀ {i : Nat} {l : List (Str × Nat)}, ixOf N x = some i → ownOf N r = some l → own = (x, i) :: l → (∀ p ∈ own, N[p.2]? = some p.1) ∧ ∀ y ∈ (x, kd) :: r, y.2 = .local ∨ y.2 = .cell → y.1 ∈ own.map (·.1) ∨ y.1 ∉ N := by
      intro i l h1 h2 h3
      subst h3
      obtain ⟨q1, q2⟩ := own_ix h2
      refine ⟨fun p hp => ?_, fun y hy hk => ?_⟩
      · rcases List.mem_cons.mp hp with rfl | hp
        · exact ixOf_get h1
        · exact q1 p hp
      · rw [List.map_cons]
        rcases List.mem_cons.mp hy with rfl | hy
        · exact .inl (List.mem_cons_self ..)
        · exact (q2 y hy hk).imp (List.mem_cons_of_mem _) id
    have skip : ∀ {l : List (Str × Nat)}, ixOf N x = none → ownOf N r = some l → own = l → (∀ p ∈ own, N[p.2]? = some p.1) ∧ ∀ y ∈ (x, kd) :: r, y.2 = .local ∨ y.2 = .cell → y.1 ∈ own.map (·.1) ∨ y.1 ∉ N := by
      intro l h1 h2 h3
      subst h3
      obtain ⟨q1, q2⟩ := own_ix h2
      refine ⟨q1, fun y hy hk => ?_⟩
      rcases List.mem_cons.mp hy with rfl | hy
      · exact .inr (ixOf_none h1)
      · exact q2 y hy hk
    have pass : kd ≠ .local → kd ≠ .cell → ownOf N r = some own → (∀ p ∈ own, N[p.2]? = some p.1) ∧ ∀ y ∈ (x, kd) :: r, y.2 = .local ∨ y.2 = .cell → y.1 ∈ own.map (·.1) ∨ y.1 ∉ N := by
      intro n1 n2 h2
      obtain ⟨q1, q2⟩ := own_ix h2
      refine ⟨q1, fun y hy hk => ?_⟩
      rcases List.mem_cons.mp hy with rfl | hy
      · exact absurd hk (fun z => z.elim n1 n2)
      · exact q2 y hy hk
    cases kd with
    | «local» =>
      unfold ownOf at h
      split at h
      · rename_i i l h1 h2
        cases h
        exact step h1 h2 rfl
      · rename_i l h1 h2
        cases h
        exact skip h1 h2 rfl
      · cases h
    | cell =>
      unfold ownOf at h
      split at h
      · rename_i i l h1 h2
        cases h
        exact step h1 h2 rfl
      · rename_i l h1 h2
        cases h
        exact skip h1 h2 rfl
      · cases h
    | free => exact pass (fun z => nomatch z) (fun z => nomatch z) (by unfold ownOf at h; exact h)
    | globalExplicit => exact pass (fun z => nomatch z) (fun z => nomatch z) (by unfold ownOf at h; exact h)
    | globalImplicit => exact pass (fun z => nomatch z) (fun z => nomatch z) (by unfold ownOf at h; exact h)
theorem blk_ok {N : List Str} {sc scope : Scope} {own : List (Str × Nat)} (h : blkB N sc scope = true) (ho : ownOf N scope.names = some own) : BlkOk N sc scope own := by
  unfold blkB at h
  simp only [Bool.and_eq_true, Bool.or_eq_true, Bool.not_eq_true', decide_eq_true_eq, decide_eq_false_iff_not, List.all_eq_true] at h
  obtain ⟨⟨h1, h2⟩, h3⟩ := h
  obtain ⟨q1, q2⟩ := own_ix ho
  refine ⟨h1, h2, q1, fun y hy e => ?_, fun y hy e => q2 y hy e⟩
  rcases h3 y hy with (z | z) | z
  · exact absurd e z
  · exact .inl z
  · exact .inr z
theorem blk_good {c : Cc} {X : Cx} {W : WX} (g : Good T G k c X S W) {scope : Scope} (hk : scope.kind = .function) (s : Shared) (H : Hp) (C : Addr) (cl : List (Str × Addr)) (fp : List Addr) : Good T G k (blkC c scope) (X.blk s H scope (compEnvC scope cl C X.env) fp) S W0 where
  ov := ⟨g.ov.P, g.ov.w, g.ov.K, g.ov.mg, g.ov.base⟩
  calm := g.calm
  nd := g.nd
  N := g.N
  sc := by
    show relS scope X.env.scope = relS scope c.sc
    rw [g.sc]
  fn := fun z => nomatch z
  kind := hk
  room := g.room
  room2 := fun z => nomatch z
  tk := LamX.takes0
  tb := g.tb
  lam := fun z => nomatch z
  lev := fun z => nomatch z
theorem ev_comp (vs : List Nat) (t : Tg) (i el : E) (cs : List E) : ev G (.comp vs t i cs el) = compF vs t (itF (ev G i)) (evc G cs) (ev G el) := by
  funext fr m
  show (ev G i fr m).bind _ = ((ev G i fr m).bind _).bind _
  cases ev G i fr m with
  | ok x m1 =>
    simp only [R.ok_bind]
    cases itemsD x with
    | none => rfl
    | some xs => rfl
  | exc x m1 => rfl
  | bad => rfl
theorem PTs_nil {X : Cx} : PTs X [] (tT S W0 (condGo (evc G []))) :=
  ⟨fun pins s σ H Q I ⟨ow, io, fr, m, rp, p⟩ => pts_nil.run pins s σ H Q I (p io H (.refl _ _) rp.h)⟩
theorem pts_ok {X : Cx} {e : Expr} {f : Fe} (h : STt X S W0 e f) : PTs X [e] (tT S W0 (condGo [f])) := by
  refine ⟨fun pins s σ H Q I ⟨ow, io, fr, m, rp, p⟩ => (pts_one h).run pins s σ H Q I ?_⟩
  refine ⟨ow, io, fr, m, rp, ?_⟩
  unfold condGo at p
  unfold tst
  cases q : f fr m with
  | bad => rw [q] at p; exact p
  | exc x m1 => rw [q] at p; exact p.elim
  | ok d m1 =>
    rw [q] at p
    dsimp only [isOk, R.ok_bind] at p ⊢
    cases e : truD d with
    | none => rw [e] at p; exact p
    | some b => rw [e] at p; cases b <;> exact p
theorem m1Of_ok {x : Str} {q : M1} (h : m1Of x = some q) : m1Nm q = x := by
  unfold m1Of at h
  repeat' split at h
  all_goals first | (cases h; rename_i z; exact z.symm) | (cases h; rename_i z _; exact z.symm) | cases h
theorem pj_mapO {X : Cx} {W : WX} {f : Expr → Option E} (hf : ∀ e m, f e = some m → SE X S W e (ev G m)) : ∀ {es : List Expr} {ms : List E}, mapO f es = some ms → PJ X es ((ms.map (ev G)).map (tR S W))
  | [], ms, h => by unfold mapO at h; cases h; exact .nil
  | e :: r, ms, h => by
    unfold mapO at h
    split at h
    · rename_i a b h1 h2
      cases h
      exact .cons (hf e a h1) (pj_mapO hf h2)
    · cases h
theorem evf_F : ∀ (ms : List E) (acc : Str), evf G ms acc = fsF (ms.map (ev G)) acc
  | [], acc => rfl
  | m :: ms, acc => by
    funext fr h
    show (ev G m fr h).bind _ = (ev G m fr h).bind _
    congr 1
    funext x m1
    cases x <;> first | rfl | (dsimp only; rw [evf_F ms])
theorem cX_ok {c : Cc} {X : Cx} {W : WX} (g : Good T G k c X S W) {fo f : Expr → Option E} (hfo : ∀ e m, fo e = some m → SEo X S W e (ev G m)) (hf : ∀ e m, f e = some m → SE X S W e (ev G m)) {n : Nat} {e : Expr} {m : E} (h : cX fo f e = some m) : Snd X S W G n e m := by
  unfold cX at h
  split at h
  · split at h
    · rename_i hc
      simp only [Bool.and_eq_true] at hc
      split at h
      · rename_i q o' a' h1 h2 h3
        cases h
        exact snd_val g.ov (se_m1 g.ov (m1Of_ok h1) (hf _ _ h2) (hfo _ _ h3) hc.1.1 hc.2 hc.1.2) (whole_of True.intro)
      · cases h
    · cases h
  · split at h
    · rename_i hc
      obtain ⟨a', h1, rfl⟩ := Option.map_eq_some_iff.mp h
      subst hc
      exact snd_val g.ov (se_fmt (hf _ _ h1)) (whole_of True.intro)
    · cases h
  · obtain ⟨ms, h1, rfl⟩ := Option.map_eq_some_iff.mp h
    have z := se_fs (pos := ‹Pos›) (pj_mapO hf h1)
    rw [← evf_F] at z
    exact snd_val g.ov z (whole_of True.intro)
  · exact snd_val g.ov (pe_joined1 (hf _ _ h)) (whole_of True.intro)
  · split at h
    · rename_i hc
      subst hc
      obtain ⟨a', h1, rfl⟩ := Option.map_eq_some_iff.mp h
      exact snd_val g.ov (se_rev g.ov (hfo _ _ h1)) (whole_of True.intro)
    · cases h
  · cases h
theorem ev_dcompF (vs : List Nat) (t : Tg) (i kx el : E) : ev G (.dcomp vs t i kx el) = dcF vs t (itF (ev G i)) (ev G kx) (ev G el) := by
  funext fr m
  show (ev G i fr m).bind _ = ((ev G i fr m).bind _).bind _
  cases ev G i fr m with
  | ok x m1 =>
    simp only [R.ok_bind]
    cases itemsD x with
    | none => rfl
    | some xs => rfl
  | exc x m1 => rfl
  | bad => rfl
theorem mapO_nil {f : Expr → Option E} {ms : List E} (h : mapO f [] = some ms) : ms = [] := by unfold mapO at h; cases h; rfl
theorem att_ok {n : Nat} (ih : IH T G k S n) {c : Cc} {X : Cx} {W : WX} (g : Good T G k c X S W) {o : Expr} {f : Str} {apos : Pos} {m : E} {j : Nat} (h : cAtt T c (cE T n c) o f = some m) : Snd X S W G j (.Attribute o f apos) m := by
  unfold cAtt at h
  split at h
  · rename_i hb
    split at h
    · rename_i i o' h1 h2
      cases h
      obtain ⟨k', rfl⟩ : ∃ k', k = k' + 1 := ⟨k - 1, by have := g.tb.cls.lv; omega⟩
      obtain ⟨nm, nmi⟩ := g.tb.cls.nm _ _ h1
      exact snd_val g.ov (se_fld (k := k') g.ov nm nmi g.room (g.tb.cls.fl _ _ h1) (fun C gg e => let ⟨k1, l, P⟩ := g.tb.cls.pr _ _ h1 C gg e; P.mono (by omega)) (ih _ _ _ h2 X W g).1 hb) (whole_of True.intro)
    · cases h
  · cases h
theorem mth_ok {n : Nat} (ih : IH T G k S n) {c : Cc} {X : Cx} {W : WX} (g : Good T G k c X S W) {o : Expr} {f : Str} {apos pos : Pos} {es : List Expr} {m : E} {j : Nat} (h : cMth T (cE T n c) o f apos es pos = some m) : Snd X S W G j (.Call (.Attribute o f apos) es [] pos) m := by
  unfold cMth at h
  split at h
  · rename_i hb
    simp only [Bool.and_eq_true, decide_eq_true_eq] at hb
    obtain ⟨⟨⟨hb1, hb2⟩, hb3⟩, hb4⟩ := hb
    split at h
    · rename_i i o' ms h1 h2 h3
      cases h
      obtain ⟨nm, nmi, hM⟩ := g.tb.cls.mt _ _ _ h1
      exact snd_val g.ov (se_mth g.ov nm nmi g.room g.tk hM (ih _ _ _ h2 X W g).1 (paO ih g h3 hb2) hb2 hb3 hb1 hb4 (fun fr m ds m' e => by rw [evs_len e, mapO_len h3]) (fun z => by
        subst z
        cases mapO_nil h3
        rfl)) (whole_of True.intro)
    · cases h
  · cases h
theorem mk_ok {n : Nat} (ih : IH T G k S n) {c : Cc} {X : Cx} {W : WX} (g : Good T G k c X S W) {x : Str} {args : List Expr} {kws : List Keyword} {p pos : Pos} {m : E} {j : Nat} (hg : glB c.sc x = true) (hn : args.all nst = true) (h : cMk T (cE T n c) x args kws = some m) : Snd X S W G j (.Call (.Name x p) args kws pos) m := by
  obtain ⟨q1, q2⟩ := glB_ok g.sc hg
  unfold cMk at h
  split at h
  · rename_i C f h1
    split at h
    · rename_i hb
      obtain ⟨ms, h2, rfl⟩ := Option.map_eq_some_iff.mp h
      obtain ⟨k1, l, M⟩ := g.tb.cls.mm _ _ _ _ h1
      cases args with
      | nil => cases hb.1
      | cons e es =>
        cases kws with
        | cons a b => cases hb.2
        | nil => exact snd_val g.ov (se_make g.ov M (g.room.mono l) g.tk q1 (paO ih g h2 hn) hn q2 (fun fr m ds m' e => by rw [evs_len e, mapO_len h2])) (whole_of True.intro)
    · cases h
  · split at h
    · rename_i l hl
      split at h
      · rename_i C f b es ks h1 h2 h3
        cases h
        obtain ⟨k1, lv, M⟩ := g.tb.cls.mmK _ _ _ _ _ _ h1
        exact snd_val g.ov (se_makeK g.ov M (g.room.mono lv) g.tk q1 (paO ih g h2 hn) (pkO ih g h3) (kwn_ok hl) hn q2 (fun z => by
          subst z
          cases mapO_nil h2
          rfl)) (whole_of True.intro)
      · cases h
    · cases h
theorem call_ok {n : Nat} (ih : IH T G k S n) {c : Cc} {X : Cx} {W : WX} (g : Good T G k c X S W) {x : Str} {args : List Expr} {kws : List Keyword} {p pos : Pos} {m : E} {j : Nat} (h : cCall T c (cE T n c) x args kws pos = some m) : Snd X S W G j (.Call (.Name x p) args kws pos) m := by
  unfold cCall at h
  split at h
  · rename_i hc
    rw [Bool.and_eq_true] at hc
    obtain ⟨hg, hn⟩ := hc
    obtain ⟨q1, q2⟩ := glB_ok g.sc hg
    obtain ⟨k', rfl⟩ : ∃ k', k = k' + 1 := ⟨k - 1, by have := g.tb.cls.lv; omega⟩
    have hs : ∀ p, hiB T c p = true → T.hs = true := fun p z => by
      unfold hiB at z
      rw [Bool.and_eq_true] at z
      exact z.1
    split at h
    · rename_i a
      rw [List.all_cons, Bool.and_eq_true] at hn
      split at h
      · rename_i hx
        obtain ⟨rfl, hx2, hx3⟩ := hx
        cases kws with
        | cons a b => cases hx3
        | nil =>
          obtain ⟨a', h1, rfl⟩ := Option.map_eq_some_iff.mp h
          obtain ⟨nm, hM⟩ := g.tb.cls.ln (hs _ hx2)
          exact snd_val g.ov (se_dun (k := k') .len g.ov nm g.room (fun C gg e => let ⟨k1, l, P⟩ := hM C gg e; P.mono (by omega)) q1 (bname g.ov g.tb (by decide +kernel)) (ih _ _ _ h1 X W g).1 hn.1) (whole_of True.intro)
      · split at h
        · rename_i hx
          obtain ⟨rfl, hx2, hx3⟩ := hx
          cases kws with
          | cons a b => cases hx3
          | nil =>
            obtain ⟨a', h1, rfl⟩ := Option.map_eq_some_iff.mp h
            obtain ⟨nm, hM⟩ := g.tb.cls.rp (hs _ hx2)
            exact snd_val g.ov (se_dun (k := k') .repr g.ov nm g.room (fun C gg e => let ⟨k1, l, P⟩ := hM C gg e; P.mono (by omega)) q1 (bname g.ov g.tb (by decide +kernel)) (ih _ _ _ h1 X W g).1 hn.1) (whole_of True.intro)
        · exact mk_ok ih g hg (by rw [List.all_cons, Bool.and_eq_true]; exact hn) h
    · rename_i a y yp
      split at h
      · rename_i hx
        obtain ⟨rfl, hx3⟩ := hx
        cases kws with
        | cons a b => cases hx3
        | nil =>
          split at h
          · rename_i hy
            obtain ⟨z1, z2⟩ := glB_ok g.sc hy
            split at h
            · rename_i C a' h1 h2
              cases h
              obtain ⟨w1, w2⟩ := g.tb.cls.cl _ _ h1
              rw [List.all_cons, Bool.and_eq_true] at hn
              exact snd_val g.ov (se_isC g.ov w2 q1 (bname g.ov g.tb (by decide +kernel)) (ih _ _ _ h2 X W g).1 hn.1 z1 (by rw [g.ov.mg]; exact w1) z2) (whole_of True.intro)
            · cases h
          · cases h
      · exact mk_ok ih g hg hn h
    · exact mk_ok ih g hg hn h
  · split at h
    · rename_i hc
      simp only [Bool.and_eq_true] at hc
      obtain ⟨⟨⟨⟨hv, hnm⟩, hn⟩, hk⟩, he⟩ := hc
      split at h
      · rename_i y i h1 h2
        split at h
        · rename_i C f h3
          obtain ⟨ms, h4, rfl⟩ := Option.map_eq_some_iff.mp h
          obtain ⟨k1, l, M⟩ := g.tb.cls.mm _ _ _ _ h3
          obtain ⟨d1, d2⟩ := nmB_ok hnm
          cases kws with
          | cons a b => cases hk
          | nil =>
            cases args with
            | nil => cases he
            | cons e es => exact snd_val g.ov (se_makeL g.ov M (g.room.mono l) g.tk (by rw [g.N]; exact ixOf_get h2) (by rw [g.sc]; exact visB_ok hv) d1 d2 (paO ih g h4 hn) hn (fun fr m ds m' e => by rw [evs_len e, mapO_len h4])) (whole_of True.intro)
        · cases h
      · cases h
    · cases h
theorem sm_ok {n : Nat} (ih : IH T G k S n) {c : Cc} {X : Cx} {W : WX} (g : Good T G k c X S W) {x f : Str} {p apos pos : Pos} {es : List Expr} {m : E} {j : Nat} (hg : glB c.sc x = true) (h : cSm T c (cE T n c) x f apos es pos = some m) : Snd X S W G j (.Call (.Attribute (.Name x p) f apos) es [] pos) m := by
  obtain ⟨q1, q2⟩ := glB_ok g.sc hg
  unfold cSm at h
  split at h
  · rename_i hb
    simp only [Bool.and_eq_true, decide_eq_true_eq] at hb
    obtain ⟨⟨⟨⟨_, hb2⟩, hb3⟩, hb4⟩, hb5⟩ := hb
    cases es with
    | nil => cases hb5
    | cons e es =>
      split at h
      · rename_i gg C ms h1 h2
        cases h
        have M := g.tb.cls.sm _ _ _ _ _ h1
        exact snd_val g.ov (PE.imp (se_cmth g.ov M g.room g.tk q1 q2 (paO ih g h2 hb2) hb2 hb3 hb4 (fun fr m ds m' e => by rw [evs_len e, mapO_len h2])) fun σ H Q ⟨ow, io, fr, m, rp, p⟩ => ⟨ow, io, fr, m, rp, by
          have e : (evs G (.k (.cls C) :: ms) fr m).bind (fun ds m1 => G.fn gg ds m1) = (evs G ms fr m).bind fun ds m1 => G.fn gg (.cls C :: ds) m1 := by
            show (((evs G ms fr m).bind fun xs m2 => R.ok (D.cls C :: xs) m2).bind _) = _
            cases evs G ms fr m <;> rfl
          show Post S W ow io H σ Q ((evs G ms fr m).bind fun ds m1 => G.fn gg (.cls C :: ds) m1)
          rw [← e]
          exact p⟩) (whole_of True.intro)
      · rename_i gg ms h1 h2
        cases h
        have M := g.tb.cls.sm _ _ _ _ _ h1
        exact snd_val g.ov (se_smth g.ov M g.room g.tk q1 q2 (paO ih g h2 hb2) hb2 hb3 hb4 (fun fr m ds m' e => by rw [evs_len e, mapO_len h2])) (whole_of True.intro)
      · cases h
  · cases h
theorem mthK_ok {n : Nat} (ih : IH T G k S n) {c : Cc} {X : Cx} {W : WX} (g : Good T G k c X S W) {o : Expr} {f : Str} {apos pos : Pos} {es : List Expr} {kws : List Keyword} {m : E} {j : Nat} (h : cMthK T (cE T n c) o f apos es kws pos = some m) : Snd X S W G j (.Call (.Attribute o f apos) es kws pos) m := by
  unfold cMthK at h
  split at h
  · rename_i hb
    simp only [Bool.and_eq_true, decide_eq_true_eq] at hb
    obtain ⟨⟨⟨hb1, hb2⟩, hb3⟩, hb4⟩ := hb
    split at h
    · rename_i l hl
      split at h
      · rename_i i b o' ms ks h1 h2 h3 h4
        cases h
        obtain ⟨nm, nmi, hM⟩ := g.tb.cls.mtK _ _ _ _ _ h1
        exact snd_val g.ov (se_mthK g.ov nm nmi g.room g.tk hM (ih _ _ _ h2 X W g).1 (paO ih g h3 hb2) (pkO ih g h4) (kwn_ok hl) hb2 hb3 hb1 hb4 (fun z => by
          subst z
          cases mapO_nil h3
          rfl)) (whole_of True.intro)
      · cases h
    · cases h
  · cases h
theorem smK_ok {n : Nat} (ih : IH T G k S n) {c : Cc} {X : Cx} {W : WX} (g : Good T G k c X S W) {x f : Str} {p apos pos : Pos} {es : List Expr} {kws : List Keyword} {m : E} {j : Nat} (hg : glB c.sc x = true) (h : cSmK T (cE T n c) x f apos es kws pos = some m) : Snd X S W G j (.Call (.Attribute (.Name x p) f apos) es kws pos) m := by
  obtain ⟨q1, q2⟩ := glB_ok g.sc hg
  unfold cSmK at h
  split at h
  · rename_i hb
    simp only [Bool.and_eq_true, decide_eq_true_eq] at hb
    obtain ⟨⟨hb2, hb3⟩, hb4⟩ := hb
    split at h
    · rename_i l hl
      split at h
      · rename_i gg b C ms ks h1 h2 h3
        cases h
        have M := g.tb.cls.smK _ _ _ _ _ _ _ h1
        exact snd_val g.ov (PE.imp (se_cmthK g.ov M g.room g.tk q1 q2 (paO ih g h2 hb2) (pkO ih g h3) (kwn_ok hl) hb2 hb3 hb4 (fun z => by
          subst z
          cases mapO_nil h2
          rfl)) fun σ H Q ⟨ow, io, fr, m, rp, p⟩ => ⟨ow, io, fr, m, rp, by
          have e : (evs G (.k (.cls C) :: ms) fr m).bind (fun ds m1 => (evs G ks fr m1).bind fun zs m2 => match G.bnd b ds zs with | some as => G.fn gg as m2 | none => .bad) = (evs G ms fr m).bind fun ds m1 => (evs G ks fr m1).bind fun zs m2 => match G.bnd b (.cls C :: ds) zs with | some as => G.fn gg as m2 | none => .bad := by
            show (((evs G ms fr m).bind fun xs m2 => R.ok (D.cls C :: xs) m2).bind _) = _
            cases evs G ms fr m <;> rfl
          show Post S W ow io H σ Q ((evs G ms fr m).bind fun ds m1 => (evs G ks fr m1).bind fun zs m2 => match G.bnd b (.cls C :: ds) zs with | some as => G.fn gg as m2 | none => .bad)
          rw [← e]
          exact p⟩) (whole_of True.intro)
      · rename_i gg b ms ks h1 h2 h3
        cases h
        have M := g.tb.cls.smK _ _ _ _ _ _ _ h1
        exact snd_val g.ov (se_smthK g.ov M g.room g.tk q1 q2 (paO ih g h2 hb2) (pkO ih g h3) (kwn_ok hl) hb2 hb3 hb4 (fun z => by
          subst z
          cases mapO_nil h2
          rfl)) (whole_of True.intro)
      · cases h
    · cases h
  · cases h
theorem eqI_ok {n : Nat} (ih : IH T G k S n) {c : Cc} {X : Cx} {W : WX} (g : Good T G k c X S W) (ng : Bool) {a b : Expr} {pos : Pos} {a' b' : E} {j : Nat} (hh : hiB T c pos = true) (hm : behindInMarks (ngOp ng) b = false) (h1 : cE T n c a = some a') (h2 : cE T n c b = some b') :
    Snd X S W G j (.Compare a [ngOp ng] [b] pos) (.eqI ng T.eq a' b') := by
  obtain ⟨k', rfl⟩ : ∃ k', k = k' + 1 := ⟨k - 1, by have := g.tb.cls.lv; omega⟩
  unfold hiB at hh
  rw [Bool.and_eq_true] at hh
  obtain ⟨nm, hM⟩ := g.tb.cls.eq hh.1
  have hM' : ∀ C gg, G.ci.mt C T.eq = some gg → EqiOk S k' C T.eq (G.fn gg) := fun C gg e => by
    obtain ⟨k1, l, P, p2, p3⟩ := hM C gg e
    exact ⟨P.mono (by omega), p2, p3⟩
  exact ⟨se_eqI ng g.u g.ov nm g.room hM' (ih _ _ _ h1 X W g).1 (ih _ _ _ h2 X W g).1 hm, fun _ => st_eqI ng g.u g.ov nm g.room hM' (ih _ _ _ h1 X W g).1 (ih _ _ _ h2 X W g).1 hm⟩
theorem cI_ok {n : Nat} (ih : IH T G k S n) {c : Cc} {X : Cx} {W : WX} (g : Good T G k c X S W) {e : Expr} {m : E} (h : cI T n (cE T n) c e = some m) : Snd X S W G (n + 1) e m := by
  unfold cI at h
  split at h
  · split at h
    · rename_i hg
      obtain ⟨q1, q2⟩ := glB_ok g.sc hg
      obtain ⟨i, h1, rfl⟩ := Option.map_eq_some_iff.mp h
      exact snd_val g.ov (se_cc g.ov (g.tb.cls.cc _ _ _ h1) q1 q2) (whole_of True.intro)
    · exact att_ok ih g h
  · exact att_ok ih g h
  · split at h
    · rename_i hg
      exact sm_ok ih g hg h
    · exact mth_ok ih g h
  · exact mth_ok ih g h
  · split at h
    · rename_i hg
      exact smK_ok ih g hg h
    · exact mthK_ok ih g h
  · exact mthK_ok ih g h
  · exact call_ok ih g h
  · split at h
    · rename_i hh
      rw [Bool.and_eq_true] at hh
      split at h
      · rename_i a' b' h1 h2
        cases h
        exact eqI_ok ih g false hh.1 (by show behindInMarks .Eq _ = false; simpa using hh.2) h1 h2
      · cases h
    · cases h
  · split at h
    · rename_i hh
      rw [Bool.and_eq_true] at hh
      split at h
      · rename_i a' b' h1 h2
        cases h
        exact eqI_ok ih g true hh.1 (by show behindInMarks .NotEq _ = false; simpa using hh.2) h1 h2
      · cases h
    · cases h
  · rename_i kx vx tg it scope pos
    split at h
    · rename_i hb
      rw [Bool.and_eq_true] at hb
      split at h
      · rename_i own t i k' v' h1 h2 h3 h4 h5
        split at h
        · rename_i hs
          cases h
          have hset : ∀ x, foldedSetIterable it X.env x = pure x := fun x => by
            have := hb.2
            cases it <;> first | rfl | cases this
          have hkind : scope.kind = .function := by
            have := hb.1
            unfold blkB at this
            simp only [Bool.and_eq_true, decide_eq_true_eq] at this
            exact this.1.1
          have hsl : ∀ j ∈ slots t, j ∈ own.map (·.2) := fun j hj => by
            rw [List.all_eq_true] at hs
            simpa using hs j hj
          have bg := fun s H C cl fp => blk_good (scope := scope) g hkind s H C cl fp
          rw [show Snd X S W G (n + 1) (.DictComp kx vx [⟨tg, it, [], 0⟩] scope pos) (.dcomp (own.map (·.2)) t i k' v') = (SE X S W _ (ev G (.dcomp (own.map (·.2)) t i k' v')) ∧ _) from rfl, ev_dcompF]
          exact ⟨se_dc g.calm g.nd (it_ok ih g h3) (by rw [g.N, g.sc]; exact blk_ok hb.1 h1) (fun s H C cl fp => tg_ok (bg s H C cl fp) _ h2) (fun s H C cl fp => (ih _ kx k' h4 _ _ (bg s H C cl fp)).1) (fun s H C cl fp => (ih _ vx v' h5 _ _ (bg s H C cl fp)).1) hset hsl,
            fun _ => st_val g.ov (se_dc g.calm g.nd (it_ok ih g h3) (by rw [g.N, g.sc]; exact blk_ok hb.1 h1) (fun s H C cl fp => tg_ok (bg s H C cl fp) _ h2) (fun s H C cl fp => (ih _ kx k' h4 _ _ (bg s H C cl fp)).1) (fun s H C cl fp => (ih _ vx v' h5 _ _ (bg s H C cl fp)).1) hset hsl) (whole_of True.intro)⟩
        · cases h
      · cases h
    · cases h
  · cases h
theorem cE_ok : ∀ n, IH T G k S n
  | 0 => fun c e m h => by unfold cE at h; cases h
  | n + 1 => fun c e m h X W g => by
    have ih : IH T G k S n := cE_ok n
    unfold cE at h
    split at h
    · rename_i m' hI
      cases h
      exact cI_ok ih g hI
    rename_i hn0
    clear hn0
    unfold cE1 at h
    split at h
    · cases h; exact snd_val g.ov se_k_int (whole_of True.intro)
    · cases h; exact snd_val g.ov se_k_bl (whole_of True.intro)
    · cases h; exact snd_val g.ov se_k_str (whole_of True.intro)
    · cases h; exact snd_val g.ov se_k_non (whole_of True.intro)
    · rename_i x pos
      split at h
      · rename_i hv
        rw [Bool.and_eq_true] at hv
        obtain ⟨i, h1, rfl⟩ := Option.map_eq_some_iff.mp h
        obtain ⟨d1, d2⟩ := nmB_ok hv.2
        exact snd_val g.ov (se_loc (by rw [g.N]; exact ixOf_get h1) (by rw [g.sc]; exact visB_ok hv.1) d1 d2) (whole_of True.intro)
      · split at h
        · rename_i hg
          obtain ⟨i, h1, rfl⟩ := Option.map_eq_some_iff.mp h
          obtain ⟨q1, q2⟩ := glB_ok g.sc hg
          exact snd_val g.ov (se_cst g.ov (g.tb.cs _ _ h1) q1 q2) (whole_of True.intro)
        · cases h
    · rename_i a o b pos
      split at h
      · rename_i o' a' b' h1 h2 h3
        cases h
        have e := boF_ok h1
        subst e
        exact snd_val g.ov (se_bin g.ov o' (oF_ok ih g h2) (oF_ok ih g h3)) (whole_of True.intro)
      · cases h
    · rename_i a pos
      obtain ⟨a', h1, rfl⟩ := Option.map_eq_some_iff.mp h
      exact snd_val g.ov (se_neg (ih _ a a' h1 X W g).1) (whole_of True.intro)
    · rename_i a pos
      split at h
      · rename_i ht
        obtain ⟨a', h1, rfl⟩ := Option.map_eq_some_iff.mp h
        have ha := ih _ a a' h1 X W g
        exact ⟨se_not g.ov ha.1, fun _ => st_not (ha.2 ht)⟩
      · cases h
    · rename_i a kk p1 p2
      obtain ⟨a', h1, rfl⟩ := Option.map_eq_some_iff.mp h
      have ha := ih _ a a' h1 X W g
      exact ⟨se_isN ha.1, fun _ => st_isN ha.1⟩
    · rename_i a kk p1 p2
      obtain ⟨a', h1, rfl⟩ := Option.map_eq_some_iff.mp h
      have ha := ih _ a a' h1 X W g
      exact ⟨se_notN ha.1, fun _ => st_notN ha.1⟩
    · rename_i a o b pos y1 y2
      split at h
      · rename_i o' a' b' h1 h2 h3
        split at h
        · rename_i hm
          cases h
          have e := coF_ok h1
          subst e
          have ha := oF_ok ih g h2
          have hb := oF_ok ih g h3
          exact ⟨se_cmp g.u g.ov o' ha hb hm, fun _ => st_cmp g.u g.ov o' ha hb hm⟩
        · cases h
      · cases h
    · rename_i a o q b d pos
      split at h
      · rename_i o' q' a' b' d' h1 h2 h3 h4 h5
        split at h
        · rename_i hm
          cases h
          have e := coF_ok h1
          subst e
          have e := coF_ok h2
          subst e
          have ha := oF_ok ih g h3
          have hb := oF_ok ih g h4
          have hd := oF_ok ih g h5
          exact ⟨se_chain g.u g.ov o' q' ha hb hd hm, fun _ => st_chain g.u g.ov o' q' ha hb hd hm⟩
        · cases h
      · cases h
    · rename_i op es pos
      split at h
      · rename_i ht
        obtain ⟨q1, q2⟩ := bool_ok ih g (pos := pos) ht h
        exact ⟨q1, fun _ => q2.pt⟩
      · cases h
    · rename_i t a b pos
      split at h
      · rename_i ht
        split at h
        · rename_i t' a' b' h1 h2 h3
          cases h
          refine ⟨?_, fun z => by unfold tOk at z; cases z⟩
          have e := se_ite (pos := pos) ((ih _ t t' h1 X W g).2 ht) (ih _ a a' h2 X W g).1 (ih _ b b' h3 X W g).1
          exact e
        · cases h
      · cases h
    · rename_i es kk pos
      split at h
      · rename_i hn
        obtain ⟨ms, h1, rfl⟩ := Option.map_eq_some_iff.mp h
        exact snd_val g.ov (se_tup (paO ih g h1 hn)) (whole_of True.intro)
      · cases h
    · rename_i es pos
      split at h
      · rename_i hn
        obtain ⟨ms, h1, rfl⟩ := Option.map_eq_some_iff.mp h
        exact snd_val g.ov (se_lst (paO ih g h1 hn)) (whole_of True.intro)
      · cases h
    · rename_i a lo hi p1 p2
      split at h
      · rename_i a' l' h' h1 h2 h3
        cases h
        exact snd_val g.ov (se_sl g.ov (oF_ok ih g h1) (part_ok ih g h2) (part_ok ih g h3)) (whole_of True.intro)
      · cases h
    · exact cX_ok g (fun e m h => oF_ok ih g h) (fun e m h => (ih _ e m h X W g).1) h
    · rename_i a i pos y1 y2
      split at h
      · rename_i hp
        split at h
        · rename_i a' i' h1 h2
          cases h
          exact snd_val g.ov (se_idx g.ov (oF_ok ih g h1) (ih _ i i' h2 X W g).1 (plain_ok hp)) (whole_of True.intro)
        · cases h
      · cases h
    · rename_i elt tg it ifs scope pos
      split at h
      · rename_i hb
        rw [Bool.and_eq_true] at hb
        split at h
        · rename_i own t i el h1 h2 h3 h4
          split at h
          · rename_i hs
            have hset : ∀ x, foldedSetIterable it X.env x = pure x := fun x => by
              have := hb.2
              cases it <;> first | rfl | cases this
            have hkind : scope.kind = .function := by
              have := hb.1
              unfold blkB at this
              simp only [Bool.and_eq_true, decide_eq_true_eq] at this
              exact this.1.1
            have hsl : ∀ j ∈ slots t, j ∈ own.map (·.2) := fun j hj => by
              rw [List.all_eq_true] at hs
              simpa using hs j hj
            have bg := fun s H C cl fp => blk_good (scope := scope) g hkind s H C cl fp
            have main : ∀ {cs : List E}, (∀ (s : Shared) (H : Hp) (C : Addr) (cl : List (Str × Addr)) (fp : List Addr), PTs (X.blk s H scope (compEnvC scope cl C X.env) fp) ifs (tT S W0 (condGo (evc G cs)))) → SE X S W (.ListComp elt [⟨tg, it, ifs, 0⟩] scope pos) (ev G (.comp (own.map (·.2)) t i cs el)) := fun {cs} ht => by
              rw [ev_comp]
              exact se_comp g.calm g.nd (it_ok ih g h3) (by rw [g.N, g.sc]; exact blk_ok hb.1 h1) (fun s H C cl fp => tg_ok (bg s H C cl fp) _ h2) ht (fun s H C cl fp => (ih _ elt el h4 _ _ (bg s H C cl fp)).1) hset hsl
            split at h
            · cases h
              exact snd_val g.ov (main fun s H C cl fp => PTs_nil) (whole_of True.intro)
            · rename_i gq
              split at h
              · rename_i hto
                obtain ⟨gm, h5, rfl⟩ := Option.map_eq_some_iff.mp h
                exact snd_val g.ov (main fun s H C cl fp => pts_ok ((ih _ gq gm h5 _ _ (bg s H C cl fp)).2 hto)) (whole_of True.intro)
              · cases h
            · cases h
          · cases h
        · cases h
      · cases h
    · rename_i x p args pos
      split at h
      · rename_i hc
        rw [Bool.and_eq_true] at hc
        obtain ⟨hg, hn⟩ := hc
        obtain ⟨q1, q2⟩ := glB_ok g.sc hg
        split at h
        · split at h
          · rename_i f h1
            cases h
            exact snd_val g.ov (se_call0 g.ov (g.tb.fn _ _ _ h1) g.room g.tk q1 q2) (whole_of True.intro)
          · obtain ⟨f, h1, rfl⟩ := Option.map_eq_some_iff.mp h
            exact snd_val g.ov (se_callR0 g.ov (g.tb.fr _ _ h1) g.room g.tk q1 q2) (whole_of True.intro)
        · rename_i a r
          split at h
          · rename_i hx
            subst hx
            rw [List.all_cons, Bool.and_eq_true] at hn
            have hm : X.mg "isinstance" = none := bname g.ov g.tb (by decide +kernel)
            split at h
            · rename_i y p3
              split at h
              · rename_i t m' h1 h2
                split at h
                · rename_i h3
                  cases h
                  obtain ⟨z1, z2, z3⟩ := tyOf_ok h1
                  obtain ⟨z4, z5⟩ := glB_ok g.sc h3
                  exact snd_val g.ov (se_isi1 g.ov q1 hm (ih _ a m' h2 X W g).1 hn.1 ⟨z4, bname g.ov g.tb z1, z2, z3, z5⟩) (whole_of True.intro)
                · cases h
              · cases h
            · rename_i es kt p3
              split at h
              · rename_i ts m' h1 h2
                split at h
                · rename_i h3
                  cases h
                  exact snd_val g.ov (se_isi2 g.ov q1 hm (ih _ a m' h2 X W g).1 hn.1 h3.1 h3.2 (tys_ok g h1)) (whole_of True.intro)
                · cases h
              · cases h
            · cases h
          · split at h
            · rename_i b hb
              obtain ⟨ms, h1, rfl⟩ := Option.map_eq_some_iff.mp h
              have e := blOf_name hb
              subst e
              have hm : S.mg (blName b) = none := g.tb.bl _ (blName_mem b)
              exact snd_val g.ov (se_blt g.ov g.calm q1 hm (paOo ih g h1 hn) hn q2 boName) (whole_of True.intro)
            · split at h
              · rename_i f hf
                obtain ⟨ms, h1, rfl⟩ := Option.map_eq_some_iff.mp h
                exact snd_val g.ov (se_call g.ov (g.tb.fn _ _ _ hf) g.room g.tk q1 (paO ih g h1 hn) hn q2 (fun fr m ds m' e => by rw [evs_len e, mapO_len h1])) (whole_of True.intro)
              · split at h
                · rename_i f b hf
                  obtain ⟨ms, h1, rfl⟩ := Option.map_eq_some_iff.mp h
                  have e := se_callK (kws := []) (pos := pos) (p := p) g.ov (g.tb.fk _ _ _ _ _ hf) g.room g.tk q1 (paO ih g h1 hn) sk_nil rfl hn q2 (fun z => nomatch z)
                  exact snd_val g.ov e (whole_of True.intro)
                · split at h
                  · rename_i f hf
                    obtain ⟨ms, h1, rfl⟩ := Option.map_eq_some_iff.mp h
                    exact snd_val g.ov (se_callR g.ov (g.tb.fr _ _ hf) g.room g.tk q1 (paO ih g h1 hn) hn q2) (whole_of True.intro)
                  split at h
                  · rename_i hw
                    obtain ⟨rfl, hlam, hhw⟩ := hw
                    split at h
                    · rename_i params body scope lpos z1 z2 z3
                      split at h
                      · rename_i hl
                        rw [Bool.and_eq_true] at hl
                        obtain ⟨mb, h1, rfl⟩ := Option.map_eq_some_iff.mp h
                        obtain ⟨cA, P, l1, l2, l3, l4⟩ := g.lam hlam
                        have L : LamX.LamS X.env.scope scope := by rw [g.sc]; exact LamX.lamS_by hl.1
                        have hna := hl.2
                        have hd : defaultsOf params X.env = ([], []) := by
                          unfold noArgs at hna
                          split at hna
                          · rfl
                          · cases hna
                        have hbd : ∀ (q : Str) (cl : List (Str × Addr)) (pm cv ctv : Value), bindArgs (PySem.W.kla_fn "<lambda>" q params body scope cl pm cv ctv) ⟨[], []⟩ = pure [] := by
                          unfold noArgs at hna
                          split at hna
                          · exact fun _ _ _ _ _ => rfl
                          · cases hna
                        refine snd_val g.ov (se_why g.ov (g.tb.wy hhw) ((g.room2 hlam)) ?_ q1 q2 l1 l2 l3 l4 L hd hbd fun A outer s H E f c' hr => ?_) (whole_of True.intro)
                        · exact g.lev hlam
                        · refine (ih _ body mb h1 (LamX.lamCx X A outer s H E scope f c') _ ?_).1
                          exact {
                            ov := ⟨g.ov.P, g.ov.w, g.ov.K, g.ov.mg, g.ov.base⟩
                            calm := rfl
                            nd := g.nd
                            N := g.N
                            sc := rfl
                            fn := fun z => nomatch z
                            kind := L.kind
                            room := hr
                            room2 := fun z => nomatch z
                            tk := takes_of (X := LamX.lamCx X A outer s H E scope f c') rfl rfl rfl rfl
                            tb := g.tb
                            lam := fun z => nomatch z
                            lev := fun z => nomatch z }
                      · cases h
                    · cases h
                  · cases h
      · cases h
    · rename_i x p args kws pos y1
      split at h
      · rename_i hc
        rw [Bool.and_eq_true] at hc
        obtain ⟨hg, hn⟩ := hc
        obtain ⟨q1, q2⟩ := glB_ok g.sc hg
        split at h
        · rename_i l hl
          split at h
          · rename_i f b es ks h1 h2 h3
            cases h
            have e := se_callK (pos := pos) (p := p) g.ov (g.tb.fk _ _ _ _ _ h1) g.room g.tk q1 (paO ih g h2 hn) (pkO ih g h3) (kwn_ok hl) hn q2 (fun z => by
              subst z
              unfold mapO at h2
              cases h2
              rfl)
            exact snd_val g.ov e (whole_of True.intro)
          · cases h
        · cases h
      · cases h
    · exact cX_ok g (fun e m h => oF_ok ih g h) (fun e m h => (ih _ e m h X W g).1) h
end
end Mp
end
section
set_option Elab.async false
set_option linter.all false
set_option maxRecDepth 100000
set_option maxHeartbeats 8000000
/-! MpCompT: the text's statements turned into the small language, and that this is right. -/
namespace Mp
open PySem PySem.Spec PyProof.Rows L2

def isComp : Expr → Bool
  | .ListComp .. => true
  | .SetComp .. => true
  | .DictComp .. => true
  | _ => false
theorem sw_comp {e : Expr} {t : Option Expr} {l : Nat} {env : Env} (h : isComp e = false) : swapsWith e t l env = pure false := by
  cases e <;> first | rfl | cases h
def swsB (sc : Scope) (t e : Expr) : Bool := !isComp e || (match t with
  | .Name x _ => !(sc.names.lookup x == some .local)
  | _ => true)
theorem sws_ok {sc : Scope} {t e : Expr} {l : Nat} {env : Env} (hs : env.scope = sc) (h : swsB sc t e = true) : swapsWithSole [t] e l env = pure false := by
  unfold swsB at h
  by_cases hc : isComp e = false
  · exact sw_comp hc
  · have hc : isComp e = true := by simpa using hc
    rw [hc] at h
    simp only [Bool.not_true, Bool.false_or] at h
    show swapsWith e (some t) l env = pure false
    cases t with
    | Name x p =>
      have hk : (env.kindOf x == some .local) = false := by
        show (env.scope.names.lookup x == some .local) = false
        rw [hs]
        simpa using h
      cases e <;> first | rfl | (unfold swapsWith; simp only [hk, Bool.and_false, Bool.false_and])
    | _ => cases e <;> rfl
/-- the names of a tuple that are stored in turn -/
def namesOf (sc : Scope) (ts : List Expr) (line : Nat) : List Str := ts.filterMap fun
  | .Name id pos => if sc.names.lookup id == some .local && pos.line == line then some id else none
  | _ => none
def lineOf (ts : List Expr) : Nat := (ts.head?.map (·.pos.line)).getD 0
/-- no swapped stores -/
def swNB (sc : Scope) : Expr → Expr → Bool
  | .Tuple ts _ _, .Tuple vs _ _ => !(ts.length == 2 || ts.length == 3) || vs.length != ts.length || (namesOf sc ts (lineOf ts)).length != ts.length
  | .List .., .Tuple .. => false
  | _, _ => true
theorem sw_none {t e : Expr} {env : Env} (h : swNB env.scope t e = true) (hk : env.scope.kind = .function) : swappedStores [t] e env = pure none := by
  have hb : env.blockKind = .function := by unfold Env.blockKind; rw [hk]; rfl
  unfold swNB at h
  split at h
  · rename_i ts k1 p1 vs k2 p2
    unfold swappedStores
    simp only [pure_bind]
    split
    · rfl
    · rename_i c1
      have c2 : ((namesOf env.scope ts (lineOf ts)).length != ts.length) = true := by
        rw [Bool.or_eq_true, Bool.or_eq_true] at h
        rcases h with h | h
        · exfalso
          apply c1
          rw [Bool.or_eq_true, Bool.or_eq_true]
          exact .inl h
        · exact h
      split
      · rfl
      · split
        · rfl
        · rename_i c4
          exact absurd ((Bool.or_eq_true _ _).mpr (.inl c2)) c4
  · cases h
  · rename_i n1 n2
    unfold swappedStores
    cases e <;> try (cases t <;> rfl)
    cases t <;> first | rfl | exact absurd rfl (n1 _ _ _ _ _ _ rfl) | exact absurd rfl (n2 _ _ _ _ _ rfl) | (exfalso; exact n1 _ _ _ _ _ _ rfl rfl) | (exfalso; exact n2 _ _ _ _ _ rfl rfl)
/-- swapped stores of two names -/
def sw2B (sc : Scope) (x : Str) (px : Pos) (y : Str) (py : Pos) (e1 e2 : Expr) : Bool :=
  (sc.names.lookup x == some .local) && (sc.names.lookup y == some .local) && !(x == y) && (py.line == px.line) && nst e1 && nst e2 && !([e1, e2].all (foldedForSure 8)) && !([e1, e2].all (constantsAlone 8))
def starB : Expr → Bool
  | .Starred .. => true
  | _ => false
theorem nst_star {e : Expr} (h : nst e = true) : starB e = false := by
  cases e <;> first | rfl | cases h
theorem sw_two {sc : Scope} {x y : Str} {px py pt pt2 : Pos} {kt k2 : Nat} {e1 e2 : Expr} {env : Env} (h : sw2B sc x px y py e1 e2 = true) (hs : env.scope = sc) (hk : env.scope.kind = .function) :
    swappedStores [.Tuple [.Name x px, .Name y py] kt pt] (.Tuple [e1, e2] k2 pt2) env = pure (some [x, y]) := by
  have hb : env.blockKind = .function := by unfold Env.blockKind; rw [hk]; rfl
  unfold sw2B at h
  simp only [Bool.and_eq_true, Bool.not_eq_true'] at h
  obtain ⟨⟨⟨⟨⟨⟨⟨h1, h2⟩, h3⟩, h4⟩, h5⟩, h6⟩, h7⟩, h8⟩ := h
  have kx : (env.kindOf x == some .local) = true := by
    show (env.scope.names.lookup x == some .local) = true
    rw [hs]; exact h1
  have ky : (env.kindOf y == some .local) = true := by
    show (env.scope.names.lookup y == some .local) = true
    rw [hs]; exact h2
  have s5 := nst_star h5
  have s6 := nst_star h6
  have hl : ((Expr.Name x px).pos.line) = px.line := rfl
  unfold swappedStores
  simp only [pure_bind]
  split
  · rename_i c
    rw [hb] at c
    have c0 : false = true := c
    cases c0
  · split
    · rename_i c
      have c0 : (starB e1 || (starB e2 || false)) = true := c
      rw [s5, s6] at c0
      cases c0
    · have nm : ([Expr.Name x px, Expr.Name y py].filterMap fun
            | .Name id pos => if env.kindOf id == some .local && pos.line == (([Expr.Name x px, Expr.Name y py] : List Expr).head?.map (·.pos.line)).getD 0 then some id else none
            | _ => none) = [x, y] := by
        simp only [List.filterMap_cons, List.filterMap_nil, List.head?_cons, Option.map_some, Option.getD_some, hl, kx, ky, h4, Bool.true_and, beq_self_eq_true, if_true]
      have ed : ([x, y].eraseDups).length = 2 := by
        have : (x == y) = false := h3
        have this2 : (y == x) = false := by
          rw [beq_eq_false_iff_ne] at this ⊢
          exact Ne.symm this
        simp [List.eraseDups_cons, this2]
      split
      · rename_i c
        exfalso
        have c' := c
        rw [Bool.or_eq_true] at c'
        rcases c' with c' | c'
        · have z := congrArg List.length nm
          have c2 : (([x, y] : List Str).length != 2) = true := by rw [← z]; exact c'
          have c3 : false = true := c2
          cases c3
        · have c2 : (([x, y] : List Str).eraseDups.length != ([x, y] : List Str).length) = true := by rw [← nm]; exact c'
          rw [ed] at c2
          have c3 : false = true := c2
          cases c3
      · split
        · rename_i c
          exact absurd (h7.symm.trans c) (by decide)
        · split
          · rename_i c
            exact absurd (h8.symm.trans c) (by decide)
          · show pure (some _) = pure (some _)
            exact congrArg (fun z => pure (some z)) nm
/-- name = [..] in one go -/
def setLcB (sc : Scope) (y : Str) (py : Pos) (scope : Scope) (pos : Pos) : Bool :=
  (match sc.names.lookup y with | some .local => true | _ => false) && (py.line == pos.line) && !(scope.names.any fun (n, k) => n == y && (k == .local || k == .cell))
section
variable {T : Tb} {G : Gt} {k : Nat} {S : Sta}
theorem ss_setLc {X : Cx} {W : WX} {i : Nat} {y : Str} {py : Pos} {elt tgE iterE : Expr} {ifs : List Expr} {scope : Scope} {own : List (Str × Nat)} {tg : Tg} {fi : Fes} {cs : List Fe} {fe : Fe} {pos spos : Pos} (hc : X.calm = true) (hN : X.N.Nodup) (hk : X.env.scope.kind = .function) (hy : X.N[i]? = some y) (hb : setLcB X.env.scope y py scope pos = true)
    (hi : PI X tgE iterE (tI S W fi)) (ok : BlkOk X.N X.env.scope scope own)
    (hg : ∀ (s : Shared) (H : Hp) (C : Addr) (cl : List (Str × Addr)) (fp : List Addr), PG (X.blk s H scope (compEnvC scope cl C X.env) fp) tgE (gR S tg))
    (ht : ∀ (s : Shared) (H : Hp) (C : Addr) (cl : List (Str × Addr)) (fp : List Addr), PTs (X.blk s H scope (compEnvC scope cl C X.env) fp) ifs (tT S W0 (condGo cs)))
    (he : ∀ (s : Shared) (H : Hp) (C : Addr) (cl : List (Str × Addr)) (fp : List Addr), PE (X.blk s H scope (compEnvC scope cl C X.env) fp) elt (tR S W0 fe))
    (hs : ∀ x, foldedSetIterable iterE X.env x = pure x) (hsl : ∀ i ∈ slots tg, i ∈ own.map (·.2)) :
    PS X (.Assign [.Name y py] (.ListComp elt [⟨tgE, iterE, ifs, 0⟩] scope pos) spos) (tS S W fun f m => SR.of (compF (own.map (·.2)) tg fi cs fe f m) f fun d m1 => match tgD (.nm i) d f with | some f1 => .nx f1 m1 | none => .bad) := by
  unfold setLcB at hb
  simp only [Bool.and_eq_true, Bool.not_eq_true'] at hb
  obtain ⟨⟨h1, h2⟩, h3⟩ := hb
  have hl : X.env.scope.names.lookup y = some .local := by
    split at h1
    · assumption
    · cases h1
  refine PS.imp (ps_setLc hc hN hy hl (sw_true hk hl h2 h3) hi ok hg ht he hs) fun D σ H ⟨ow0, io0, H0, ow, io, f, m, rs, p⟩ => ?_
  refine comp_imp (S := S) (W := W) hsl ⟨ow, io, f, m, rs.r, p.seq rs fun d m1 io1 H1 v x1 r1 v1 p1 => ?_⟩
  have e : tgD (.nm i) d f = some (f.set i (some (.val d))) := by unfold tgD; rfl
  rw [e] at p1
  have off : Off (slots (.nm i)) σ (σ.set i (some v)) := ⟨List.length_set, fun j hj => by
    unfold slots at hj
    rw [List.getElem?_set_ne (fun e => hj (by rw [e]; exact List.mem_singleton.mpr rfl))]⟩
  exact p1 ow io1 H1 _ (.refl _ _ _) (r1.asg e (r1.r.f.set (d := .val d) v1) off)
/-! ### the turning of statements -/
def stLine : Stmt → Nat
  | .Return _ p => p.line
  | .Assign _ _ p => p.line
  | .Expr _ p => p.line
  | .If _ _ _ p => p.line
  | .For _ _ _ _ p => p.line
  | .While _ _ _ p => p.line
  | .Raise _ _ p => p.line
  | _ => 0
/-- the lists given up ahead of a statement -/
def fzs (c : Cc) (s : Stmt) : List St := (c.fz.filter fun q => q.1 = stLine s).map fun q => .frz q.2
/-- an own list's slot -/
def ownIx (c : Cc) (x : Str) : Option Nat := if (visB c.sc x && nmB x) = true then (match ixOf c.N x with
  | some i => if c.ol.contains i = true then some i else none
  | none => none) else none
/-- a new list -/
def cFr (f : Expr → Option E) (fo : Expr → Option E) : Expr → Option E
  | .List es _ => if es.all nst = true then (mapO f es).map .lst else none
  | _ => none
/-- what is done to an own list -/
def boA : Operator → Option BO
  | .Add => some .add
  | .Sub => some .sub
  | .Mult => some .mul
  | _ => none
theorem boA_ok {o : Operator} {b : BO} (h : boA o = some b) : boOp b = o ∧ augB b = true := by
  cases o <;> first | (cases h; exact ⟨rfl, rfl⟩) | cases h
def cOwn (T : Tb) (c : Cc) (f fo : Expr → Option E) (ft : Expr → Option Tg) : Stmt → Option St
  | .Assign [.Attribute (.Name x _) g _] e _ => if (visB c.sc x && nmB x && !isComp e) = true then (match ixOf c.N x, csIx T.at_ g, f e with
    | some 0, some i, some m => some (.fldO i m)
    | _, _, _ => none) else none
  | .AugAssign (.Name x _) o e _ => if (decide (c.sc.names.lookup x = some .local) || (decide (c.sc.names.lookup x = some .cell) && c.fnT)) = true then (match ixOf c.N x, boA o, f e with
    | some i, some b, some m => some (.aug i b m)
    | _, _, _ => none) else none
  | .AugAssign (.Subscript (.Name x _) k _) o e _ => if nsl k = true then (match ownIx c x, boA o, f k, f e with
    | some i, some b, some k, some m => some (.augO i k b m)
    | _, _, _, _ => none) else none
  | .Expr (.Call (.Attribute (.Name x _) mth apos) [e] [] cpos) _ => if (nst e && (apos.endLine == cpos.line)) = true then (match ownIx c x with
    | some i => if mth = "append" then (f e).map (.app i) else if mth = "extend" then (fo e).map (.extO i) else none
    | none => none) else none
  | .Assign [.Subscript (.Name x _) k _] e _ => if (nsl k && !isComp e) = true then (match ownIx c x, f k, f e with
    | some i, some k, some e => some (.setO i k e)
    | _, _, _ => none) else none
  | .Assign [t] (.Call (.Attribute (.Name x _) mth apos) [] [] cpos) _ => if (decide (mth = "pop") && (apos.endLine == cpos.line) && nst t && swNB c.sc t (.Call (.Attribute (.Name x cpos) mth apos) [] [] cpos)) = true then (match ownIx c x, ft t with
    | some i, some t => some (.popA t i)
    | _, _ => none) else none
  | .Assign [.Name x _] (.List es lp) _ => if (decide (c.sc.names.lookup x = some .local) || (decide (c.sc.names.lookup x = some .cell) && c.fnT)) = true then (match ownIx c x, cFr f fo (.List es lp) with
    | some i, some m => some (.asgO i m)
    | _, _ => none) else none
  | .Assign [.Name x _] (.BinOp a .Mult b _) _ => if (decide (c.sc.names.lookup x = some .local) || (decide (c.sc.names.lookup x = some .cell) && c.fnT)) = true then (match ownIx c x, fo a, fo b with
    | some i, some a, some b => some (.asgO i (.bin .mul a b))
    | _, _, _ => none) else none
  | _ => none
def cSs (T : Tb) (shr : Bool) : Nat → Cc → List Stmt → Option (List St)
  | 0, _, _ => none
  | _ + 1, _, [] => some []
  | n + 1, c, s :: r => match cSs T shr n c r with
    | none => none
    | some r' => (match cOwn T c (cE T n c) (oF c (cE T n c)) (cTg c n) s with
      | some st => some st
      | none => match s with
      | .Return none _ => some St.retN
      | .Return (some (.List es _)) _ => if es.all nst = true then (mapO (cE T n c) es).map fun ms => if shr = true then .retS (.lst ms) else .ret (.lst ms) else none
      | .Return (some e) _ => (cE T n c e).map .ret
      | .Pass _ => some .pas
      | .Break _ => some .brk
      | .Continue _ => some .cnt
      | .Expr e _ => if isComp e = true then none else (cE T n c e).map .exp
      | .If t a b _ => if tOk n t = true then (match cE T n c t, cSs T shr n c a, cSs T shr n c b with
        | some t, some a, some b => some (.ife t a b)
        | _, _, _ => none) else none
      | .While t a [] _ => if tOk n t = true then (match cE T n c t, cSs T shr n c a with
        | some t, some a => some (.whl t a)
        | _, _ => none) else none
      | .For tg it b [] _ => if setE it = true then none else (match cTg c n tg, cIt c (cE T n c) tg it, cSs T shr n c b with
        | some t, some i, some b => some (.for_ t i b)
        | _, _, _ => none)
      | .Raise (some (.Call (.Name x _) args [] _)) none _ => if (glB c.sc x && args.all nst) = true then (match fnIx T.xc x args.length, mapO (cE T n c) args with
        | some C, some ms => some (.rais C ms)
        | _, _ => none) else none
      | .Assign [.Subscript a i _] e _ => if (nsl i && !isComp e) = true then (match cE T n c e, cE T n c a, cE T n c i with
        | some e, some a, some i => some (.setX a i e)
        | _, _, _ => none) else none
      | .Assign [.Name y py] (.ListComp elt [⟨tg, it, ifs, 0⟩] scope pos) _ => if setLcB c.sc y py scope pos = true then (match ixOf c.N y, cE T (n + 1) c (.ListComp elt [⟨tg, it, ifs, 0⟩] scope pos) with
        | some i, some m => some (.asg (.nm i) m)
        | _, _ => none) else if swsB c.sc (.Name y py) (.ListComp elt [⟨tg, it, ifs, 0⟩] scope pos) = true then (match cTg c (n + 1) (.Name y py), cE T (n + 1) c (.ListComp elt [⟨tg, it, ifs, 0⟩] scope pos) with
        | some t, some m => some (.asg t m)
        | _, _ => none) else none
      | .Assign [.Tuple [.Name x px, .Name y py] _ _] (.Tuple [e1, e2] _ _) _ => if sw2B c.sc x px y py e1 e2 = true then (match ixOf c.N x, ixOf c.N y, cE T n c e1, cE T n c e2 with
        | some i, some j, some a, some b => if i ≠ j then some (.asg (.tup [.nm i, .nm j]) (.tup [a, b])) else none
        | _, _, _, _ => none)
        else if (nst e1 && nst e2 && swNB c.sc (.Tuple [.Name x px, .Name y py] 0 px) (.Tuple [e1, e2] 0 px)) = true then (match cTg c n (.Tuple [.Name x px, .Name y py] 0 px), cE T n c e1, cE T n c e2 with
        | some t, some a, some b => some (.asg t (.tup [a, b]))
        | _, _, _ => none) else none
      | .Assign [t] e _ => if (swsB c.sc t e && nst t && swNB c.sc t e) = true then (match cTg c n t, cE T n c e with
        | some t, some m => some (.asg t m)
        | _, _ => none) else none
      | _ => none).map fun st => fzs c s ++ st :: r'
end
end Mp
end
section
set_option Elab.async false
set_option linter.all false
set_option maxRecDepth 100000
set_option maxHeartbeats 8000000
/-! MpCompV: the turning of statements is right. -/
namespace Mp
open PySem PySem.Spec PyProof.Rows L2

section
variable {T : Tb} {G : Gt} {k : Nat} {S : Sta} {mkx : Nat → List Mp.D → Option Exn} {shr : Bool}
def XcOk (T : Tb) (S : Sta) (mkx : Nat → List Mp.D → Option Exn) : Prop := ∀ x n C, fnIx T.xc x n = some C →
  (n = 0 ∧ ∃ tagN z, Xk S x C 0 (fun _ => [(S.nm tagN, .str z)]) ∧ mkx C [] = some ⟨C, [tagN], [.str z]⟩) ∨
  (n = 1 ∧ ∃ fldN tagN z, Xk S x C 1 (fun ws => [(S.nm fldN, ws.headD .non), (S.nm tagN, .str z)]) ∧ ∀ d, mkx C [d] = some ⟨C, [fldN, tagN], [d, .str z]⟩)
structure GoodS (T : Tb) (G : Gt) (mkx : Nat → List Mp.D → Option Exn) (k : Nat) (c : Cc) (X : Cx) (S : Sta) (W : WX) : Prop extends Good T G k c X S W where
  po : PassesOwn (model X.prog X.w) X.A X.env X.xe
  two : 2 ≤ k
  xc : XcOk T S mkx
theorem GoodS.kd {c : Cc} {X : Cx} {W : WX} (g : GoodS T G mkx k c X S W) : X.env.scope.kind = .function := by rw [g.sc]; exact g.kind
theorem sole {t e : Expr} {l : Nat} {env : Env} (h : isComp e = false) : swapsWithSole [t] e l env = pure false := sw_comp h
theorem set_fold {it : Expr} {env : Env} (h : ¬ setE it = true) : ∀ x, foldedSetIterable it env x = pure x := fun x => by
  cases it <;> first | rfl | exact absurd rfl h
theorem asg1 {t : Expr} {env : Env} (h : nst t = true) : (assignEach [t] env).map (·.2) = [assign t env] := by
  rw [asg_ns h]
  rfl
theorem ex_for (t : Tg) (i : E) (b : List St) : ex G mkx (.for_ t i b) = fun f m => SR.of (itF (ev G i) f m) f fun xs m1 => forS t (exs G mkx b) xs f m1 := by
  funext f m
  show SR.of (ev G i f m) f _ = SR.of ((ev G i f m).bind _) f _
  cases ev G i f m with
  | ok d m1 =>
    simp only [R.ok_bind, SR.of_ok]
    cases itemsD d with
    | none => rfl
    | some xs => rfl
  | exc x m1 => rfl
  | bad => rfl
theorem pfz {X : Cx} {W : WX} {body : List Stmt} {r : List St} (h : PSs X body (tS S W (exs G mkx r))) : ∀ l : List (Nat × Nat), PSs X body (tS S W (exs G mkx ((l.map fun q => St.frz q.2) ++ r)))
  | [] => h
  | q :: l => ss_frz (pfz h l)
theorem ownIx_ok {c : Cc} {x : Str} {i : Nat} (h : ownIx c x = some i) : c.N[i]? = some x ∧ Vis c.sc x ∧ (x == ("__debug__" : Str)) = false ∧ (x == ("__classdict__" : Str)) = false := by
  unfold ownIx at h
  split at h
  · rename_i hv
    rw [Bool.and_eq_true] at hv
    split at h
    · rename_i j hj
      split at h
      · cases h
        obtain ⟨d1, d2⟩ := nmB_ok hv.2
        exact ⟨ixOf_get hj, visB_ok hv.1, d1, d2⟩
      · cases h
    · cases h
  · cases h
theorem cOwn_ok {c : Cc} {X : Cx} {W : WX} {n : Nat} {s : Stmt} {st : St} (g : GoodS T G mkx k c X S W) (h : cOwn T c (cE T n c) (oF c (cE T n c)) (cTg c n) s = some st) : PS X s (tS S W (ex G mkx st)) := by
  have gg : Good T G k c X S W := g.toGood
  have ihe : IH T G k S n := cE_ok n
  have loc : ∀ {x : Str}, (decide (c.sc.names.lookup x = some .local) || (decide (c.sc.names.lookup x = some .cell) && c.fnT)) = true → Loc X.env.scope x ∧ (X.fn x = true ∨ X.env.scope.names.lookup x = some .local) := fun {x} h => by
    rw [Bool.or_eq_true, Bool.and_eq_true, decide_eq_true_eq, decide_eq_true_eq] at h
    rw [g.sc]
    rcases h with h | ⟨h, hf⟩
    · exact ⟨.inl h, .inr h⟩
    · exact ⟨.inr h, .inl (g.fn hf x)⟩
  unfold cOwn at h
  split at h
  · rename_i x np gn ap e pos
    split at h
    · rename_i hc
      simp only [Bool.and_eq_true] at hc
      obtain ⟨⟨hv, hnm⟩, hcm⟩ := hc
      have hcm : isComp e = false := by simpa using hcm
      split at h
      · rename_i i m h1 h2 h3
        cases h
        obtain ⟨d1, d2⟩ := nmB_ok hnm
        obtain ⟨nm, nmi⟩ := g.tb.cls.nm _ _ h2
        exact ss_fldO g.ov (by rw [g.N]; exact ixOf_get h1) (by rw [g.sc]; exact visB_ok hv) d1 d2 nm nmi (g.tb.cls.fl _ _ h2) (ihe _ e m h3 X W gg).1 (sw_comp hcm)
      · cases h
    · cases h
  · rename_i x np o e pos
    split at h
    · rename_i hc
      obtain ⟨l1, l2⟩ := loc hc
      split at h
      · rename_i i b m h1 h2 h3
        cases h
        obtain ⟨rfl, hb⟩ := boA_ok h2
        exact ss_aug b hb g.nd (by rw [g.N]; exact ixOf_get h1) l1 l2 (ihe _ e m h3 X W gg).1
      · cases h
    · cases h
  · rename_i x np k' tp o e pos
    split at h
    · rename_i hn
      split at h
      · rename_i i b k2 m h1 h2 h3 h4
        cases h
        obtain ⟨rfl, hb⟩ := boA_ok h2
        obtain ⟨q1, q2, q3, q4⟩ := ownIx_ok h1
        rw [← g.N] at q1
        rw [← g.sc] at q2
        exact ss_augO b hb q1 q2 q3 q4 hn (ihe _ _ k2 h3 X W gg).1 (ihe _ e m h4 X W gg).1
      · cases h
    · cases h
  · split at h
    · rename_i x np mth apos e cpos pos hc
      rw [Bool.and_eq_true] at hc
      split at h
      · rename_i i hi
        obtain ⟨h1, h2, h3, h4⟩ := ownIx_ok hi
        rw [← g.N] at h1
        rw [← g.sc] at h2
        split at h
        · rename_i hm
          subst hm
          obtain ⟨m', he, rfl⟩ := Option.map_eq_some_iff.mp h
          exact ss_app h1 h2 h3 h4 (ihe _ e m' he X W gg).1 hc.1 hc.2
        · split at h
          · rename_i hm
            subst hm
            obtain ⟨m', he, rfl⟩ := Option.map_eq_some_iff.mp h
            exact ss_ext h1 h2 h3 h4 (oF_ok ihe gg he) hc.1 hc.2
          · cases h
      · cases h
    · cases h
  · rename_i x np k' tp e pos
    split at h
    · rename_i hc
      rw [Bool.and_eq_true] at hc
      split at h
      · rename_i i k' e' hi hk he
        cases h
        obtain ⟨h1, h2, h3, h4⟩ := ownIx_ok hi
        rw [← g.N] at h1
        rw [← g.sc] at h2
        have hcm : isComp e = false := by simpa using hc.2
        exact ss_setO h1 h2 h3 h4 hc.1 (ihe _ e e' he X W gg).1 (ihe _ _ k' hk X W gg).1 (sole hcm) (sw_none (by cases e <;> rfl) g.kd) rfl
      · cases h
    · cases h
  · rename_i t x np mth apos cpos pos
    split at h
    · rename_i hc
      simp only [Bool.and_eq_true, decide_eq_true_eq] at hc
      obtain ⟨⟨⟨hm, hl⟩, hn⟩, hw⟩ := hc
      subst hm
      split at h
      · rename_i i t' hi ht
        cases h
        obtain ⟨h1, h2, h3, h4⟩ := ownIx_ok hi
        rw [← g.N] at h1
        rw [← g.sc] at h2
        exact ss_pop h1 h2 h3 h4 (tg_ok gg _ ht) hl (sole rfl) (sw_none (by unfold swNB; split <;> first | rfl | (rename_i h; cases h) | (rename_i h _; cases h)) g.kd) (asg1 hn)
      · cases h
    · cases h
  · rename_i x np es lp pos
    split at h
    · rename_i hc
      split at h
      · rename_i i m' hi hm
        cases h
        obtain ⟨h1, h2, h3, h4⟩ := ownIx_ok hi
        rw [← g.N] at h1
        obtain ⟨l1, l2⟩ := loc hc
        unfold cFr at hm
        dsimp only at hm
        split at hm
        · rename_i hn
          obtain ⟨ms, hm2, rfl⟩ := Option.map_eq_some_iff.mp hm
          exact ss_asgO g.nd h1 l1 l2 (sf_lst (paO ihe gg hm2 hn)) (sole rfl) (sw_none rfl g.kd) rfl
        · cases hm
      · cases h
    · cases h
  · rename_i x np a kz b bp pos
    split at h
    · rename_i hc
      split at h
      · rename_i i a' b' hi ha hb
        cases h
        obtain ⟨h1, h2, h3, h4⟩ := ownIx_ok hi
        rw [← g.N] at h1
        obtain ⟨l1, l2⟩ := loc hc
        exact ss_asgO g.nd h1 l1 l2 (sf_mul (oF_ok ihe gg ha) (oF_ok ihe gg hb)) (sole rfl) (sw_none rfl g.kd) rfl
      · cases h
    · cases h
  · cases h
theorem cS_ok : ∀ n, ∀ (c : Cc) (b : List Stmt) (m : List St), cSs T shr n c b = some m → ∀ (X : Cx) (W : WX), GoodS T G mkx k c X S W → PSs X b (tS S W (exs G mkx m))
  | 0 => fun c b m h => by unfold cSs at h; cases h
  | n + 1 => fun c b m h X W g => by
    have ih := cS_ok n
    have ihe : IH T G k S n := cE_ok n
    have ihe1 : IH T G k S (n + 1) := cE_ok (n + 1)
    have gg : Good T G k c X S W := g.toGood
    unfold cSs at h
    split at h
    · rename_i heq; cases heq
    · cases h; exact ss_nil
    · rename_i n' s r heq
      cases heq
      split at h
      · cases h
      · rename_i r' hr
        obtain ⟨st, h1, rfl⟩ := Option.map_eq_some_iff.mp h
        have rest := ih _ r r' hr X W g
        suffices hs : PS X s (tS S W (ex G mkx st)) from pfz (ss_cons hs rest) _
        clear h rest hr
        split at h1
        · rename_i st' ho
          cases h1
          exact cOwn_ok g ho
        rename_i ho
        clear ho
        split at h1
        · -- return
          cases h1; exact ss_retN
        · -- return [..]
          rename_i es lp p
          split at h1
          · rename_i hn
            obtain ⟨ms, h2, rfl⟩ := Option.map_eq_some_iff.mp h1
            cases shr with
            | true =>
              rw [if_pos rfl]
              exact ss_retS (paO ihe gg h2 hn)
            | false =>
              rw [if_neg (by decide)]
              exact ss_ret (se_lst (paO ihe gg h2 hn))
          · cases h1
        · -- return e
          rename_i e p y1
          obtain ⟨m', h2, rfl⟩ := Option.map_eq_some_iff.mp h1
          exact ss_ret (ihe _ e m' h2 X W gg).1
        · cases h1; exact ss_pass
        · cases h1; exact ss_break
        · cases h1; exact ss_cont
        · -- expr
          rename_i e p
          split at h1
          · cases h1
          · rename_i hc
            obtain ⟨m', h2, rfl⟩ := Option.map_eq_some_iff.mp h1
            exact ss_exp (ihe _ e m' h2 X W gg).1 (sw_comp (by simpa using hc))
        · -- if
          rename_i t a b p
          split at h1
          · rename_i ht
            split at h1
            · rename_i t' a' b' h2 h3 h4
              cases h1
              exact ss_if ((ihe _ t t' h2 X W gg).2 ht) (ih _ a a' h3 X W g) (ih _ b b' h4 X W g)
            · cases h1
          · cases h1
        · -- while
          rename_i t a p
          split at h1
          · rename_i ht
            split at h1
            · rename_i t' a' h2 h3
              cases h1
              exact ss_while g.po ((ihe _ t t' h2 X W gg).2 ht) (ih _ a a' h3 X W g)
            · cases h1
          · cases h1
        · -- for
          rename_i tg it b p
          split at h1
          · cases h1
          · rename_i hse
            split at h1
            · rename_i t i b' h2 h3 h4
              cases h1
              rw [ex_for]
              exact ss_for g.po g.calm (it_ok ihe gg h3) (tg_ok gg _ h2) (ih _ b b' h4 X W g) (set_fold hse)
            · cases h1
        · -- raise
          rename_i x p args q p2
          split at h1
          · rename_i hc
            rw [Bool.and_eq_true] at hc
            obtain ⟨hg, hn⟩ := hc
            obtain ⟨q1, q2⟩ := glB_ok g.sc hg
            split at h1
            · rename_i C ms h2 h3
              cases h1
              have r2 : Room 2 X.A := g.room.mono g.two
              rcases g.xc _ _ _ h2 with ⟨e0, tagN, z, xk, hm⟩ | ⟨e0, fldN, tagN, z, xk, hm⟩
              · have : args = [] := List.eq_nil_of_length_eq_zero e0
                subst this
                unfold mapO at h3
                cases h3
                have e := ss_raise0 (pos := q) (pos' := p2) (p := p) g.ov xk r2 g.calm g.tk q1 q2
                refine PS.imp e fun D σ H h => ?_
                obtain ⟨ow0, io0, H0, ow, io, f, m, rs, pp⟩ := h
                refine ⟨ow0, io0, H0, ow, io, f, m, rs, ?_⟩
                have pp : PostS S W ow0 io0 H0 ow io H D (match mkx C [] with | some x => .ex x f m | none => .bad) := pp
                rw [hm] at pp
                exact pp
              · obtain ⟨a, rfl⟩ : ∃ a, args = [a] := by
                  match args, e0 with
                  | [a], _ => exact ⟨a, rfl⟩
                rw [List.all_cons, Bool.and_eq_true] at hn
                have e := ss_raise1 (pos := q) (pos' := p2) (p := p) g.ov xk r2 g.calm g.tk q1 (paO ihe gg h3 (by rw [List.all_cons, Bool.and_eq_true]; exact hn)) hn.1 q2
                refine PS.imp e fun D σ H h => ?_
                obtain ⟨ow0, io0, H0, ow, io, f, m, rs, pp⟩ := h
                refine ⟨ow0, io0, H0, ow, io, f, m, rs, ?_⟩
                have pp : PostS S W ow0 io0 H0 ow io H D (SR.of (evs G ms f m) f fun ds m1 => match mkx C ds with | some x => .ex x f m1 | none => .bad) := pp
                dsimp only
                cases q3 : evs G ms f m with
                | bad => rw [q3] at pp; exact pp
                | exc x m1 => rw [q3] at pp; exact pp
                | ok ds m1 =>
                  rw [q3] at pp
                  rw [SR.of_ok] at pp ⊢
                  have hl := evs_len q3
                  rw [mapO_len h3] at hl
                  match ds, hl with
                  | [d], _ =>
                    dsimp only at pp ⊢
                    rw [hm d] at pp
                    exact pp
            · cases h1
          · cases h1
        · -- a[i] = e
          rename_i a i p e p2
          split at h1
          · rename_i hc
            rw [Bool.and_eq_true] at hc
            split at h1
            · rename_i e' a' i' h2 h3 h4
              cases h1
              have hcm : isComp e = false := by simpa using hc.2
              exact ss_setX hc.1 (ihe _ e e' h2 X W gg).1 (ihe _ a a' h3 X W gg).1 (ihe _ i i' h4 X W gg).1 (sole hcm) (sw_none (by cases e <;> rfl) g.kd) rfl
            · cases h1
          · cases h1
        · -- name = [..]
          rename_i y py elt tg it ifs scope pos spos
          split at h1
          · rename_i hb
            split at h1
            · rename_i i m' h2 h3
              cases h1
              rw [cE, show cI T n (cE T n) _ (.ListComp elt [⟨tg, it, ifs, 0⟩] scope pos) = none from rfl] at h3
              split at h3
              · rename_i q0
                cases q0
              rename_i q0
              clear q0
              rw [cE1] at h3
              split at h3
              · rename_i hb2
                rw [Bool.and_eq_true] at hb2
                split at h3
                · rename_i own t i' el k1 k2 k3 k4
                  split at h3
                  · rename_i hs
                    have hset : ∀ x, foldedSetIterable it X.env x = pure x := set_fold (by simpa using hb2.2)
                    have hkind : scope.kind = .function := by
                      have := hb2.1
                      unfold blkB at this
                      simp only [Bool.and_eq_true, decide_eq_true_eq] at this
                      exact this.1.1
                    have hsl : ∀ j ∈ slots t, j ∈ own.map (·.2) := fun j hj => by
                      rw [List.all_eq_true] at hs
                      simpa using hs j hj
                    have bg := fun s H C cl fp => blk_good (scope := scope) gg hkind s H C cl fp
                    have main : ∀ {cs : List E}, (∀ (s : Shared) (H : Hp) (C : Addr) (cl : List (Str × Addr)) (fp : List Addr), PTs (X.blk s H scope (compEnvC scope cl C X.env) fp) ifs (tT S W0 (condGo (evc G cs)))) →
                        PS X (.Assign [.Name y py] (.ListComp elt [⟨tg, it, ifs, 0⟩] scope pos) spos) (tS S W (ex G mkx (.asg (.nm i) (.comp (own.map (·.2)) t i' cs el)))) := fun {cs} ht => by
                      have e := ss_setLc (spos := spos) g.calm g.nd g.kd (by rw [g.N]; exact ixOf_get h2) (by rw [g.sc]; exact hb) (it_ok ihe gg k3) (by rw [g.N, g.sc]; exact blk_ok hb2.1 k1) (fun s H C cl fp => tg_ok (bg s H C cl fp) _ k2) ht (fun s H C cl fp => (ihe _ elt el k4 _ _ (bg s H C cl fp)).1) hset hsl
                      rw [← ev_comp] at e
                      exact e
                    split at h3
                    · cases h3
                      exact main fun s H C cl fp => PTs_nil
                    · rename_i gq
                      split at h3
                      · rename_i hto
                        obtain ⟨gm, k5, rfl⟩ := Option.map_eq_some_iff.mp h3
                        exact main fun s H C cl fp => pts_ok ((ihe _ gq gm k5 _ _ (bg s H C cl fp)).2 hto)
                      · cases h3
                    · cases h3
                  · cases h3
                · cases h3
              · cases h3
            · cases h1
          · split at h1
            · rename_i hc
              split at h1
              · rename_i t' m' h2 h3
                cases h1
                exact ss_asg (cE_ok (n + 1) _ _ m' h3 X W gg).1 (tg_ok gg _ h2) (sws_ok g.sc hc) (sw_none rfl g.kd) rfl
              · cases h1
            · cases h1
        · -- x, y = a, b
          rename_i x px y py kt pt e1 e2 k2 p2 p3
          split at h1
          · rename_i hb
            split at h1
            · rename_i i j a b h2 h3 h4 h5
              split at h1
              · rename_i hij
                cases h1
                have hb' := hb
                unfold sw2B at hb'
                simp only [Bool.and_eq_true, Bool.not_eq_true', beq_iff_eq] at hb'
                obtain ⟨⟨⟨⟨⟨⟨⟨z1, z2⟩, z3⟩, z4⟩, z5⟩, z6⟩, z7⟩, z8⟩ := hb'
                have hA : PA X [e1, e2] (tRs S W (evsF [ev G a, ev G b])) := sa_cons (ihe _ e1 a h4 X W gg).1 (sa_cons (ihe _ e2 b h5 X W gg).1 sa_nil (starEach_ns z6)) (starEach_ns z5)
                have e := ss_par (kt := kt) (pt := pt) (k2 := k2) (pt2 := p2) (pos := p3) g.calm g.nd (by rw [g.N]; exact ixOf_get h2) (by rw [g.N]; exact ixOf_get h3) hij (by rw [g.sc]; exact z1) (by rw [g.sc]; exact z2) hA (sw_two hb g.sc g.kd) (sole rfl)
                exact e
              · cases h1
            · cases h1
          · split at h1
            · rename_i hc
              simp only [Bool.and_eq_true] at hc
              obtain ⟨⟨c1, c2⟩, c3⟩ := hc
              split at h1
              · rename_i t a b h2 h3 h4
                cases h1
                have hA : PA X [e1, e2] (tRs S W (evsF [ev G a, ev G b])) := sa_cons (ihe _ e1 a h3 X W gg).1 (sa_cons (ihe _ e2 b h4 X W gg).1 sa_nil (starEach_ns c2)) (starEach_ns c1)
                have hE : SE X S W (.Tuple [e1, e2] k2 p2) (ev G (.tup [a, b])) := se_tup hA
                have hG : PG X (.Tuple [.Name x px, .Name y py] kt pt) (gR S t) := by
                  cases n with
                  | zero => unfold cTg at h2; cases h2
                  | succ n =>
                    unfold cTg at h2
                    obtain ⟨ts, k1, rfl⟩ := Option.map_eq_some_iff.mp h2
                    obtain ⟨q1, q2, q3⟩ := tgs_ok gg n k1
                    exact sg_tup g.ov g.calm q1 q2 q3
                exact ss_asg hE hG (sole rfl) (sw_none (by rw [g.sc]; exact c3) g.kd) rfl
              · cases h1
            · cases h1
        · -- t = e
          rename_i t e p y1 y2 y3
          split at h1
          · rename_i hc
            simp only [Bool.and_eq_true, Bool.not_eq_true'] at hc
            obtain ⟨⟨c1, c2⟩, c3⟩ := hc
            split at h1
            · rename_i t' m' h2 h3
              cases h1
              exact ss_asg (ihe _ e m' h3 X W gg).1 (tg_ok gg _ h2) (sws_ok g.sc c1) (sw_none (by rw [g.sc]; exact c3) g.kd) (asg1 c2)
            · cases h1
          · cases h1
        · cases h1
end
end Mp
end
section
set_option Elab.async false
set_option linter.all false
set_option maxRecDepth 100000
set_option maxHeartbeats 4000000
/-! MpHead: what the layer asks of the text's top, read by a Hook. -/
namespace Mp
open PySem PySem.Spec PyProof.Rows L2

abbrev Frag := PySem.W.Frag
/-! ### tables of lambdas' makers -/
def codeAd (K : Frag) (p : Str × Option Str) : Addr := match K.lookup (He.fAd K p) with
  | some ⟨_, _, .func fd, _⟩ => (match fd.code with
    | .ref c => c
    | _ => 0)
  | _ => 0
def tabAd (K : Frag) (p : Str × Option Str) : Addr := match K.lookup (codeAd K p) with
  | some ⟨_, _, .fields vs, _⟩ => (match vs.getD 11 .none with
    | .ref P => P
    | _ => 0)
  | _ => 0
def codeHdB (K : Frag) (c P : Addr) : Bool := match K.lookup c with
  | some ⟨.type t, _, .fields vs, _⟩ => decide (t = "code") && decide (vs[11]? = some (.ref P)) && decide (vs.getD 11 .none = .ref P) && (match vs.getD 18 .none with | .str _ _ => true | _ => false) && (match vs.getD 7 .none with | .int _ _ => true | _ => false) &&
      (match vs.getD 9 .none with | .bool _ => true | _ => false) && (match vs.getD 10 .none with | .int _ _ => true | _ => false) && decide (c ≠ P)
  | _ => false
theorem codeHdB_ok {K : Frag} {h : Heap} (X : K.In h) {c P : Addr} (e : codeHdB K c P = true) : PySem.W.CodeHd h c P := by
  unfold codeHdB at e
  split at e
  · rename_i t dd vs sl q
    simp only [Bool.and_eq_true, decide_eq_true_eq] at e
    obtain ⟨⟨⟨⟨⟨⟨⟨e1, e2⟩, e3⟩, e4⟩, e5⟩, e6⟩, e7⟩, e8⟩ := e
    split at e4
    · rename_i file tf q4
      split at e5
      · rename_i flags tg q5
        split at e6
        · rename_i inF q6
          split at e7
          · rename_i text tt q7
            exact ⟨_, vs, file, tf, flags, tg, inF, text, tt, X _ _ q, congrArg Value.type e1, rfl, e2, e3, q4, q5, q6, q7, e8⟩
          · cases e7
        · cases e6
      · cases e5
    · cases e4
  · cases e
def tabB0 (K : Frag) (P : Addr) : Bool := match K.lookup P with
  | some ⟨.none, none, .fields vs, sl⟩ => decide (vs = #[]) && decide (sl = #[])
  | _ => false
theorem tabB0_ok {K : Frag} {h : Heap} (X : K.In h) {P : Addr} (e : tabB0 K P = true) : h.get? P = some { cls := .none, data := .fields #[] } := by
  unfold tabB0 at e
  split at e
  · rename_i vs sl q
    rw [Bool.and_eq_true, decide_eq_true_eq, decide_eq_true_eq] at e
    obtain ⟨rfl, rfl⟩ := e
    exact X _ _ q
  · cases e
def tabsB (lam : List (Str × Option Str)) (K : Frag) : Bool := lam.all fun p => codeHdB K (codeAd K p) (tabAd K p) && tabB0 K (tabAd K p)
/-- the written part without the tables -/
def cutK (lam : List (Str × Option Str)) (K : Frag) : Frag := K.filter fun p => !((lam.map (tabAd K)).contains p.1)
theorem lookup_filter {K : Frag} {f : Addr → Bool} {a : Addr} : (K.filter fun p => f p.1).lookup a = if f a = true then K.lookup a else none := by
  induction K with
  | nil => cases f a <;> rfl
  | cons p r ih =>
    obtain ⟨b, o⟩ := p
    rw [List.filter_cons]
    by_cases hb : f b = true
    · rw [if_pos hb]
      by_cases h : a = b
      · subst h
        simp [List.lookup, hb]
      · have e : (a == b) = false := by simpa using h
        simp only [List.lookup, e]
        exact ih
    · rw [if_neg hb, ih]
      by_cases h : a = b
      · subst h
        rw [if_neg hb, if_neg hb]
      · have e : (a == b) = false := by simpa using h
        simp only [List.lookup, e]
theorem cut_lookup {lam : List (Str × Option Str)} {K : Frag} {a : Addr} : (cutK lam K).lookup a = if (!((lam.map (tabAd K)).contains a)) = true then K.lookup a else none := lookup_filter (f := fun a => !((lam.map (tabAd K)).contains a))
theorem cut_in {lam : List (Str × Option Str)} {K : Frag} {h : Heap} (X : K.In h) : (cutK lam K).In h := fun a o e => by
  rw [cut_lookup] at e
  split at e
  · exact X _ _ e
  · cases e
theorem cut_no {lam : List (Str × Option Str)} {K : Frag} {p : Str × Option Str} (hp : p ∈ lam) : (cutK lam K).lookup (tabAd K p) = none := by
  rw [cut_lookup, if_neg]
  simp only [Bool.not_eq_true', Bool.not_eq_false]
  have : tabAd K p ∈ lam.map (tabAd K) := List.mem_map_of_mem hp
  simpa using this
/-! ### an __init__ that closes over its class -/
abbrev FnC : Type := Option (Str × Str × Arguments × FuncBody × Scope × Addr × List Str × Addr)
def fnC (K : Frag) (p : Str × Option Str) : FnC := match K.lookup (He.fAd K p) with
  | some ⟨_, _, .func fd, _⟩ => some (fd.name, fd.qualname, fd.params, fd.body, fd.scope, fd.globals, fd.closure.map (·.1), fd.builtins)
  | _ => none
structure IniD where
  cls : Str
  qual : Str
  params : Arguments
  body : List Stmt
  scope : Scope
def IniD.val (d : IniD) : FnC := some ("__init__", d.qual, d.params, .stmts d.body, d.scope, mainGlobals, ["__class__"], builtinsNs)
def cellAd (K : Frag) (p : Str × Option Str) : Addr := match K.lookup (He.fAd K p) with
  | some ⟨_, _, .func fd, _⟩ => (match fd.closure with
    | (_, c) :: _ => c
    | _ => 0)
  | _ => 0
/-- the class at C is laid as an exception's -/
def oexB (K : Frag) (C : Addr) : Bool := match K.lookup C with
  | some ⟨.type t, _, .cls cd, sl⟩ => decide (t = "type") && cd.hasDict && !cd.hasDel && (match cd.mro, sl.toList with
    | .ref C' :: bm, [_, _, _, _, some (.builtin n), _] => decide (C' = C) && decide (n = "ValueError.__new__") && PySem.HandSPX.refsVE bm
    | _, _ => false)
  | _ => false
theorem oexB_ok {K : Frag} {C : Addr} (e : oexB K C = true) : ∃ nm q N bs bm sn sub ab col dd k0 k1 k2 k3 k5, K.lookup C = some (excClassObj nm q C N bs bm true sn sub ab col dd k0 k1 k2 k3 k5 "ValueError.__new__") ∧ PySem.HandSPX.refsVE bm = true := by
  unfold oexB at e
  split at e
  · rename_i t dd cd sl q
    simp only [Bool.and_eq_true, decide_eq_true_eq, Bool.not_eq_true'] at e
    obtain ⟨⟨⟨e1, e2⟩, e3⟩, e4⟩ := e
    split at e4
    · rename_i C' bm k0 k1 k2 k3 n k5 hm hs
      simp only [Bool.and_eq_true, decide_eq_true_eq] at e4
      obtain ⟨⟨rfl, rfl⟩, e6⟩ := e4
      obtain ⟨nm, bs, mro, ns, qn, hd, sn, sub, ab, col, del⟩ := cd
      dsimp only at hm e2 e3
      subst hm e2 e3 e1
      have hsl : sl = #[k0, k1, k2, k3, some (.builtin "ValueError.__new__"), k5] := by
        rw [← Array.toArray_toList (xs := sl), hs]
      subst hsl
      exact ⟨nm, qn, ns, bs, bm, sn, sub, ab, col, dd, k0, k1, k2, k3, k5, q, e6⟩
    · cases e4
  · cases e
def iniB (K : Frag) (C : Addr) (file qual : Str) (f : Addr) : Bool := match K.lookup f with
  | some ⟨_, _, .func fd, _⟩ => (match fd.code, fd.closure with
    | .ref cda, [(_, cc)] => PySem.W.codeIn K (.ref cda) qual && (match K.lookup cda with
      | some ⟨_, _, .fields vs, _⟩ => (match (vs[2]? : Option Value) with
        | some (Value.str z _) => decide (z = file)
        | _ => false)
      | _ => false) && (match K.lookup cc with
      | some ⟨_, _, .cell (some (.ref C')), _⟩ => decide (C' = C)
      | _ => false) && decide (fd.defaults = .none)
    | _, _ => false)
  | _ => false
def xcB (K : Frag) (file : Str) (ns : List Str) (d : IniD) : Bool :=
  decide (PySem.W.nsIn K mainGlobals d.cls = some (some (.ref (He.ga K d.cls)))) && oexB K (He.ga K d.cls) && decide (PySem.W.findIn K (.ref (He.ga K d.cls)) "__setattr__" = some (some (.builtin "object.__setattr__"))) &&
  decide (PySem.W.subIn K (.ref (He.ga K d.cls)) (.type "BaseException") = some true) && decide (PySem.W.subIn K (.ref (He.ga K d.cls)) (.type "ValueError") = some true) && decide (PySem.W.typeIn K (.ref (He.ga K d.cls)) = some (.type "type")) &&
  PySem.W.keepIn K (.ref (He.ga K d.cls)) && decide (PySem.W.findIn K (.ref (He.ga K d.cls)) "__init__" = some (some (.ref (He.ma K (He.ga K d.cls) "__init__")))) && decide (PySem.W.typeIn K (.ref (He.ma K (He.ga K d.cls) "__init__")) = some (.type "function")) &&
  decide (PySem.W.ks_superIn K (He.ga K d.cls) (He.ga K d.cls) "__init__" = some (some (.builtin "ValueError.__init__"))) && decide (PySem.W.nsIn K PySem.cStatics "thirdparty.any" = some none) && decide (PySem.W.mroIn K (He.ga K d.cls) (.ref (He.ga K d.cls)) = some true) &&
  (ns.all fun n => decide (PySem.W.findIn K (.ref (He.ga K d.cls)) n = some none)) && iniB K (He.ga K d.cls) file d.qual (He.ma K (He.ga K d.cls) "__init__")
structure XcAll (P : Program) (K : Frag) (ns : List Str) (d : IniD) (f cc cda : Addr) : Prop where
  glo : PySem.W.nsIn K mainGlobals d.cls = some (some (.ref (He.ga K d.cls)))
  oex : OexC K (He.ga K d.cls)
  ini : PySem.W.findIn K (.ref (He.ga K d.cls)) "__init__" = some (some (.ref f))
  tyI : PySem.W.typeIn K (.ref f) = some (.type "function")
  no : ∀ n ∈ ns, PySem.W.findIn K (.ref (He.ga K d.cls)) n = some none
  fn : ∃ oc od kV doc pm an ct osl, K.lookup f = some ⟨oc, od, .func (PySem.W.ksFn "__init__" d.qual d.params d.body d.scope .none kV doc pm an (.ref cda) ct cc), osl⟩
  xcf : XcF P K (He.ga K d.cls) f cc cda "__init__" d.qual d.params d.body d.scope
theorem xc_ok {P : Program} {K : Frag} {file : Str} {ns : List Str} {d : IniD} (e : fnC K (d.cls, some "__init__") = d.val) (c : xcB K file ns d = true) (hfile : ((P.main.file : Str) == file) = true) (ht : ("tag" : Str) ∈ ns) : ∃ f cc cda, XcAll P K ns d f cc cda := by
  unfold xcB at c
  simp only [Bool.and_eq_true, decide_eq_true_eq, List.all_eq_true] at c
  obtain ⟨⟨⟨⟨⟨⟨⟨⟨⟨⟨⟨⟨⟨c1, c2⟩, c3⟩, c4⟩, c5⟩, c6⟩, c7⟩, c8⟩, c9⟩, c10⟩, c11⟩, c12⟩, c13⟩, c14⟩ := c
  unfold iniB at c14
  split at c14
  rotate_left
  · cases c14
  rename_i oc od fd osl q
  unfold fnC at e
  have q' : K.lookup (He.fAd K (d.cls, some "__init__")) = some ⟨oc, od, .func fd, osl⟩ := q
  rw [q'] at e
  obtain ⟨n1, n2, n3, n4, n5, n6, n7, n8, n9, n10, n11, n12, n13, n14, n15⟩ := fd
  have e2 : (some (n1, n2, n3, n4, n5, n6, n7.map (·.1), n15) : FnC) = some (("__init__" : Str), d.qual, d.params, FuncBody.stmts d.body, d.scope, mainGlobals, [("__class__" : Str)], builtinsNs) := e
  simp only [Option.some.injEq, Prod.mk.injEq] at e2
  obtain ⟨h1, h2, h3, h4, h5, h6, h7, h8⟩ := e2
  dsimp only at c14
  split at c14
  rotate_left
  · cases c14
  rename_i cda x cc
  have h7 : [x] = [("__class__" : Str)] := by simpa using h7
  cases h7
  subst h1 h2 h3 h4 h5 h6 h8
  simp only [Bool.and_eq_true] at c14
  obtain ⟨⟨⟨d1, d2⟩, d3⟩, d4⟩ := c14
  rw [decide_eq_true_eq] at d4
  have d4 : n8 = .none := d4
  subst d4
  have fnE : ∃ oc od kV doc pm an ct osl, K.lookup (He.ma K (He.ga K d.cls) "__init__") = some ⟨oc, od, .func (PySem.W.ksFn "__init__" d.qual d.params d.body d.scope .none kV doc pm an (.ref cda) ct cc), osl⟩ := ⟨oc, od, n9, n10, n11, n12, n14, osl, q⟩
  refine ⟨He.ma K (He.ga K d.cls) "__init__", cc, cda, c1, ⟨oexB_ok c2, c3, c4, c6, c7⟩, c8, c9, c13, fnE, ⟨oexB_ok c2, c3, c4, c5, c6, c7, c8, c9, c10, c11, (let ⟨a1, a2, a3, a4, a5, a6, a7, a8, a9⟩ := fnE; ⟨a1, a2, .none, a3, a4, a5, a6, a7, a8, a9⟩), d1, ?_, ?_, c12, c13 _ ht⟩⟩
  · split at d2
    · rename_i oc2 od2 vs sl2 q2
      split at d2
      · rename_i z tf q3
        rw [decide_eq_true_eq] at d2
        exact ⟨oc2, od2, vs, sl2, z, tf, q2, q3, by rw [d2]; exact hfile⟩
      · cases d2
    · cases d2
  · split at d3
    · rename_i oc2 od2 C' sl2 q2
      rw [decide_eq_true_eq] at d3
      rw [d3] at q2
      exact ⟨oc2, od2, sl2, q2⟩
    · cases d3
end Mp
end
section
set_option Elab.async false
set_option linter.all false
set_option maxRecDepth 100000
set_option maxHeartbeats 4000000
/-! MpHead2: own exception classes from the top. -/
namespace Mp
open PySem PySem.Spec PyProof.Rows L2

/-- what the line numbers of super().__init__(z) say (by rfl at each class) -/
def IniW (qual : Str) (scope : Scope) : List Stmt → Prop
  | .Expr (.Call (.Attribute o name apos) args [] pos) _ :: _ => ∀ (L f cda cc : Addr), ∃ pl, eval (.Call (.Attribute o name apos) args [] pos) (PySem.W.ksEnv qual scope L f (.ref cda) cc) = (do
        let ov ← attributeBase o name (PySem.W.ksEnv qual scope L f (.ref cda) cc) (eval o (PySem.W.ksEnv qual scope L f (.ref cda) cc))
        standAt apos.atName
        let (fv, first) ← holding [ov] (getMethod ov name pl)
        callWith pos fv first (backTo pos (starEach args (PySem.W.ksEnv qual scope L f (.ref cda) cc))) [])
  | _ => False
theorem xcw_of {qual : Str} {scope : Scope} {f cda cc : Addr} {z tag : Str} {p0 p1 p2 p3 p4 p5 p7 p9 : Pos} {j1 j2 : Nat} {p6 p8 : Pos} {more : List Stmt} (hk : scope.kind = .function) (hw : IniW qual scope (initB z p0 p1 p2 p3 p4 p5 p6 p7 p8 p9 j1 j2 tag more)) : XcW qual scope f cda cc z tag p0 p1 p2 p3 p4 p5 p7 p9 j1 j2 p6 p8 where
  hev := fun L => hw L f cda cc
  hint := fun L => by
    unfold interactive
    rw [show (PySem.W.ksEnv qual scope L f (.ref cda) cc).scope.kind = .function from hk]
    rfl
  hsw := fun L => rfl
  hs := fun L => rfl
def iniDec : List Stmt → Option (Str × Str × Option (Str × Str))
  | [.Expr (.Call (.Attribute (.Call (.Name s1 _) [] [] _) ini _) [.Constant (.str z) _ _] [] _) _, .Assign [.Attribute (.Name s2 _) tag _] (.Constant (.str z2) _ _) _] => if s1 = "super" ∧ ini = "__init__" ∧ s2 = "self" ∧ z2 = z then some (z, tag, none) else none
  | [.Expr (.Call (.Attribute (.Call (.Name s1 _) [] [] _) ini _) [.Constant (.str z) _ _] [] _) _, .Assign [.Attribute (.Name s2 _) tag _] (.Constant (.str z2) _ _) _, .Assign [.Attribute (.Name s3 _) fld _] (.Name y _) _] =>
    if s1 = "super" ∧ ini = "__init__" ∧ s2 = "self" ∧ z2 = z ∧ s3 = "self" then some (z, tag, some (fld, y)) else none
  | _ => none
def xcsB (file : Str) (params : Arguments) (scope : Scope) : Bool :=
  decide ((params.posonlyargs ++ params.args).head?.map (·.arg) = some "self") && decide (scope.names.lookup ("super" : Str) = some .globalImplicit) && decide (scope.names.lookup ("__class__" : Str) = some .free) && decide (scope.names.lookup ("self" : Str) = some .local) &&
  decide (scope.kind = .function) && !scope.isCoroutine && !scope.isGenerator && scope.names.all fun x => !decide (x.2 = .cell)
theorem xcs_ok {P : Program} {file : Str} {params : Arguments} {scope : Scope} (h : xcsB file params scope = true) (top : (P.main.scope.names.lookup ("super" : Str)).isSome = false) : XcS P params scope := by
  unfold xcsB at h
  simp only [Bool.and_eq_true, decide_eq_true_eq, Bool.not_eq_true', decide_eq_false_iff_not, List.all_eq_true] at h
  obtain ⟨⟨⟨⟨⟨⟨⟨h1, h2⟩, h3⟩, h4⟩, h5⟩, h6⟩, h7⟩, h8⟩ := h
  exact ⟨h1, h2, h3, h4, h5, h6, h7, h8, top⟩
section
variable {S : Sta} {d : IniD} {f cc cda : Addr} {ns : List Str} {z tag : Str}
/-- an own exception without fields of its own -/
theorem xk0_of (A : XcAll S.P S.K ns d f cc cda) (sc : XcS S.P d.params d.scope) (hd : iniDec d.body = some (z, tag, none)) (hw : IniW d.qual d.scope d.body) (hm : S.mg d.cls = some (.ref (He.ga S.K d.cls))) (hs : S.mg "super" = none) (ht : tag ∈ ns) {C tagN : Nat} (hC : S.ca C = He.ga S.K d.cls) (hT : S.nm tagN = tag)
    (hb : ∀ (cl : List (Str × Addr)) (kV doc pm : Value) (an : Option Addr) (cdv ct : Value) (us : List Value), us.length = 1 → bindArgs (PySem.W.fnX "__init__" d.qual d.params d.body d.scope cl .none kV doc pm an cdv ct) ⟨us, []⟩ = pure ([("self" : Str)].zip us)) : Xk S d.cls C 0 (fun _ => [(S.nm tagN, .str z)]) := by
  have hm' : S.mg d.cls = some (.ref (S.ca C)) := by rw [hC]; exact hm
  have hno := A.no _ ht
  obtain ⟨oc, od, kV, doc, pm, an, ct, osl, hf⟩ := A.fn
  have T := A.xcf
  unfold iniDec at hd
  split at hd
  · rename_i s1 p0 p1 ini p2 z' j1 p3 p4 p5 s2 p6 tag' p7 z2 j2 p8 p9 hbd
    split at hd
    · rename_i hc
      obtain ⟨rfl, rfl, rfl, rfl⟩ := hc
      cases hd
      have hB : d.body = initB z p0 p1 p2 p3 p4 p5 p6 p7 p8 p9 j1 j2 tag [] := hbd
      rw [hB] at hf T hw
      have F := fn_ini0 (w := S.w) (base := S.base) (k := 0) T sc (xcw_of sc.kind hw) hs hno hf
      rw [← hC, ← hT] at F
      refine ⟨hm', by rw [hC]; exact A.oex, _, _, _, _, rfl, by rw [hC]; exact A.ini, A.tyI, .all fun us hu => ?_, Nat.le_refl _, F⟩
      have := hb [("__class__", cc)] kV doc pm an (.ref cda) ct us hu
      rw [hB] at this
      exact this
    · cases hd
  · split at hd <;> cases hd
  · cases hd
end
end Mp
end
section
set_option Elab.async false
set_option linter.all false
set_option maxRecDepth 100000
set_option maxHeartbeats 4000000
/-! MpHead3: the Hook, constants, the asking def. -/
namespace Mp
open PySem PySem.Spec PyProof.Rows L2

/-! ### the Hook -/
abbrev AlM : Type := Bool × He.AlD × List FnC × List He.FnW
def obsM (lam : List (Str × Option Str)) (x : Frag → Bool) (fa : List He.Fa) (fn : List He.DefD) (ini : List IniD) (wr : List He5.DefA) (K0 : Frag) : AlM :=
  (tabsB lam K0 && ((lam.all fun p => decide (codeAd (cutK lam K0) p = codeAd K0 p)) && (x (cutK lam K0) && wr.all fun d => d.ok (cutK lam K0))), He.obsD fa fn (cutK lam K0), (ini.map fun d => fnC (cutK lam K0) (d.cls, some "__init__")), wr.map fun d => He5.fnA (cutK lam K0) (d.at_ (cutK lam K0)))
def valM (fn : List He.DefD) (ini : List IniD) (wr : List He5.DefA) : AlM := (true, He.valD fn, ini.map IniD.val, wr.map He5.DefA.val)
def SaysM (lam : List (Str × Option Str)) (x : Frag → Bool) (fa : List He.Fa) (fn : List He.DefD) (ini : List IniD) (wr : List He5.DefA) (K0 : Frag) : Prop := obsM lam x fa fn ini wr K0 = valM fn ini wr
def asM (g : Addr → Option Obj) (n : Nat) : List Addr := He.asD g n ++ [PySem.cStatics]
def obsMG (n : Nat) (lam : List (Str × Option Str)) (x : Frag → Bool) (fa : List He.Fa) (fn : List He.DefD) (ini : List IniD) (wr : List He5.DefA) (g : Addr → Option Obj) : AlM := obsM lam x fa fn ini wr (He.frG g (asM g n))
def hookM (n : Nat) (lam : List (Str × Option Str)) (x : Frag → Bool) (fa : List He.Fa) (fn : List He.DefD) (ini : List IniD) (wr : List He5.DefA) : PySem.W.Hook where
  α := AlM
  obs := fun s => obsMG n lam x fa fn ini wr s.heap.get?
  val := fun _ => valM fn ini wr
  says := fun _ h => ∃ K0 : Frag, K0.In h ∧ SaysM lam x fa fn ini wr K0
  of := fun _ _ e => ⟨_, He.frG_in, e⟩
  keeps := fun _ _ _ ⟨K, hK, c⟩ k => ⟨K, PySem.W.Frag.In.keeps hK k, c⟩
theorem obsMG_eq {n : Nat} {lam : List (Str × Option Str)} {x : Frag → Bool} {fa : List He.Fa} {fn : List He.DefD} {ini : List IniD} {wr : List He5.DefA} {g : Addr → Option Obj} {s : Shared} (h : ∀ a, g a = s.heap.get? a) : obsMG n lam x fa fn ini wr g = (hookM n lam x fa fn ini wr).obs s := by
  have e : g = s.heap.get? := funext h
  rw [e] <;> rfl
section
variable {lam : List (Str × Option Str)} {x : Frag → Bool} {fa : List He.Fa} {fn : List He.DefD} {ini : List IniD} {wr : List He5.DefA} {K0 : Frag}
theorem SaysM.tab (c : SaysM lam x fa fn ini wr K0) : tabsB lam K0 = true := (He.ba (show (tabsB lam K0 && ((lam.all fun p => decide (codeAd (cutK lam K0) p = codeAd K0 p)) && (x (cutK lam K0) && wr.all fun d => d.ok (cutK lam K0)))) = true from congrArg (fun z : AlM => z.1) c)).1
theorem SaysM.ex (c : SaysM lam x fa fn ini wr K0) : x (cutK lam K0) = true := (He.ba (He.ba (He.ba (show (tabsB lam K0 && ((lam.all fun p => decide (codeAd (cutK lam K0) p = codeAd K0 p)) && (x (cutK lam K0) && wr.all fun d => d.ok (cutK lam K0)))) = true from congrArg (fun z : AlM => z.1) c)).2).2).1
theorem SaysM.cod (c : SaysM lam x fa fn ini wr K0) {p : Str × Option Str} (hp : p ∈ lam) : codeAd (cutK lam K0) p = codeAd K0 p := by
  have h := (He.ba (He.ba (show (tabsB lam K0 && ((lam.all fun p => decide (codeAd (cutK lam K0) p = codeAd K0 p)) && (x (cutK lam K0) && wr.all fun d => d.ok (cutK lam K0)))) = true from congrArg (fun z : AlM => z.1) c)).2).1
  exact of_decide_eq_true (List.all_eq_true.mp h p hp)
theorem SaysM.d (c : SaysM lam x fa fn ini wr K0) : He.SaysD fa fn (cutK lam K0) := congrArg (fun z : AlM => z.2.1) c
theorem SaysM.ini_ (c : SaysM lam x fa fn ini wr K0) (i : Nat) {d : IniD} (h : ini[i]? = some d := by rfl) : fnC (cutK lam K0) (d.cls, some "__init__") = d.val := by
  have e : (ini.map fun d => fnC (cutK lam K0) (d.cls, some "__init__")) = ini.map IniD.val := congrArg (fun z : AlM => z.2.2.1) c
  have e2 : (ini.map fun d => fnC (cutK lam K0) (d.cls, some "__init__"))[i]? = (ini.map IniD.val)[i]? := by rw [e]
  rw [List.getElem?_map, List.getElem?_map, h] at e2
  exact Option.some.inj e2
theorem SaysM.wr_ (c : SaysM lam x fa fn ini wr K0) (i : Nat) {d : He5.DefA} (h : wr[i]? = some d := by rfl) : ∃ fd, FunD (cutK lam K0) d.name d.qual d.params d.body d.scope (d.dvs (cutK lam K0)) (d.kws (cutK lam K0)) (d.at_ (cutK lam K0)) fd := by
  have c2 := (He.ba (He.ba (He.ba (show (tabsB lam K0 && ((lam.all fun p => decide (codeAd (cutK lam K0) p = codeAd K0 p)) && (x (cutK lam K0) && wr.all fun d => d.ok (cutK lam K0)))) = true from congrArg (fun z : AlM => z.1) c)).2).2).2
  have e : (wr.map fun d => He5.fnA (cutK lam K0) (d.at_ (cutK lam K0))) = wr.map He5.DefA.val := congrArg (fun z : AlM => z.2.2.2) c
  have e2 : (wr.map fun d => He5.fnA (cutK lam K0) (d.at_ (cutK lam K0)))[i]? = (wr.map He5.DefA.val)[i]? := by rw [e]
  rw [List.getElem?_map, List.getElem?_map, h] at e2
  exact He5.DefA.funD (Option.some.inj e2) (List.all_eq_true.mp c2 d (List.mem_of_getElem? h))
end
theorem code_is {K : Frag} {p : Str × Option Str} (h : codeAd K p ≠ 0) {oc : Value} {od : Option Addr} {fd : FuncData} {sl : Array (Option Value)} (e : K.lookup (He.fAd K p) = some ⟨oc, od, .func fd, sl⟩) : fd.code = .ref (codeAd K p) := by
  unfold codeAd at h ⊢
  rw [e] at h ⊢
  dsimp only at h ⊢
  split
  · assumption
  · rename_i n
    split at h
    · rename_i c hc
      exact absurd hc (n c)
    · exact absurd rfl h
theorem walk_ofTE {l : PySem.W.OpenLaw} {n k : Nat} {q : Program} {loose : List Str} {XP : (Str → Option Value) → Heap → Prop} {YP : World → Heap → Prop} {d : DefRec} {CX : World → CXT} {x : Str}
    (hn : l.most = some n) (hn2 : n ≤ sizeLine) (hdf : d.params.defaults = []) (hr : Room k callerA)
    (F : ∀ (w : World) (mg : Str → Option Value) (fa : Addr) (h : Heap), YP w h → h.Ns mainGlobals mg → mg d.name = some (.ref fa) → ∃ K : Frag, K.In h ∧ LamX.LawAtS l w K (CX w) k n x mg fa h)
    (hCX : ∀ (w : World) (H : Hp) (s : Shared) (e : Value) (s' : Shared), CX w [] H s (fun _ _ _ => False) e s' → False) :
    PySem.W.WalkO q loose XP YP l.row.toRowW d [] (fun f vs => PySem.call f vs) := by
  refine Att.attach_callB hn hdf fun w s₀ s₁ mg mb fa o pm cd doc a vs ns G Y ho hd hcd hmg hobj hints hlen hbits hg => ?_
  obtain ⟨K, KX, fd, cs, sp, hT, nT, C, hb, hsp, hF⟩ := F w mg fa _ Y G.T.g hmg
  exact LamX.law_callTs KX G.T.g G.T.b G.T.builtins G.T.nolimit hg hT nT C G.T.bmain hobj hints (Nat.le_trans hlen hn2) hr hF hb (fun H hH hS => hsp H a ns hlen hbits hH hS) fun H e s' => hCX w H s₁ e s'
/-! ### constants -/
mutual
def cvB (K : Frag) : Nat → Value → D → Bool
  | 0, _, _ => false
  | _ + 1, .none, .non => true
  | _ + 1, .bool b, .bl c => decide (b = c)
  | _ + 1, .int i _, .int j => decide (i = j)
  | _ + 1, .str x _, .str y => decide (x = y)
  | n + 1, .ref a, .tup xs => (match K.lookup a with
    | some ⟨.type t, _, .seq its _, _⟩ => decide (t = "tuple") && decide (its.size ≤ sizeLine) && cvsB K n its.toList xs
    | _ => false)
  | _, _, _ => false
def cvsB (K : Frag) : Nat → List Value → List D → Bool
  | 0, _, _ => false
  | _ + 1, [], [] => true
  | n + 1, u :: us, d :: ds => cvB K n u d && cvsB K n us ds
  | _, _, _ => false
end
mutual
theorem cvB_ok {S : Sta} : ∀ (n : Nat) {u : Value} {d : D}, cvB S.K n u d = true → ∃ v, RelV v u ∧ ∀ (ow : Addr → Prop) (io : List Addr) (H : Hp), RV S ow io H d v
  | 0, _, _, h => by unfold cvB at h; cases h
  | n + 1, u, d, h => by
    unfold cvB at h
    split at h
    · cases h
    · exact ⟨.non, rfl, fun _ _ _ => .mk_non⟩
    · rename_i b c _
      rw [decide_eq_true_eq] at h
      subst h
      exact ⟨.bl b, rfl, fun _ _ _ => .mk_bl⟩
    · rename_i i t j _
      rw [decide_eq_true_eq] at h
      subst h
      exact ⟨.int i, ⟨t, rfl⟩, fun _ _ _ => .mk_int⟩
    · rename_i x t y _
      rw [decide_eq_true_eq] at h
      subst h
      exact ⟨.str x, ⟨t, rfl⟩, fun _ _ _ => .mk_str⟩
    · rename_i n' a xs heq
      cases heq
      split at h
      · rename_i t dd its m sl q
        simp only [Bool.and_eq_true, decide_eq_true_eq] at h
        obtain ⟨⟨h1, h2⟩, h3⟩ := h
        obtain ⟨vs, r, hv⟩ := cvsB_ok n h3
        refine ⟨.ref a, rfl, fun ow io H => ?_⟩
        unfold RV
        exact ⟨a, vs, rfl, .inr ⟨_, its, m, q, congrArg Value.type h1, rfl, h2, r⟩, hv ow io H⟩
      · cases h
    · cases h
theorem cvsB_ok {S : Sta} : ∀ (n : Nat) {us : List Value} {ds : List D}, cvsB S.K n us ds = true → ∃ vs, Vals vs us ∧ ∀ (ow : Addr → Prop) (io : List Addr) (H : Hp), RVs S ow io H ds vs
  | 0, _, _, h => by unfold cvsB at h; cases h
  | n + 1, us, ds, h => by
    unfold cvsB at h
    split at h
    · cases h
    · exact ⟨[], .nil, fun _ _ _ => .nil⟩
    · rename_i n' u us d ds heq
      cases heq
      rw [Bool.and_eq_true] at h
      obtain ⟨v, r, hv⟩ := cvB_ok n h.1
      obtain ⟨vs, rs, hvs⟩ := cvsB_ok n h.2
      exact ⟨v :: vs, .cons r rs, fun ow io H => .cons (hv ow io H) (hvs ow io H)⟩
    · cases h
end
def cstB (K : Frag) (x : Str) (d : D) : Bool := match PySem.W.nsIn K mainGlobals x with
  | some (some u) => cvB K 60 u d
  | _ => false
theorem cst_ok {S : Sta} {h : Heap} (X : S.K.In h) (G : h.Ns mainGlobals S.mg) {x : Str} {d : D} (c : cstB S.K x d = true) : CstOk S x d := by
  unfold cstB at c
  split at c
  · rename_i u q
    obtain ⟨v, r, hv⟩ := cvB_ok 60 c
    exact ⟨u, v, PySem.W.mg_of X G q, r, hv⟩
  · cases c
end Mp
end
section
set_option Elab.async false
set_option linter.all false
set_option maxRecDepth 100000
set_option maxHeartbeats 4000000
/-! MpHead4: defs keep what their turning means. -/
namespace Mp
open PySem PySem.Spec PyProof.Rows L2

section
variable {T : Tb} {G : Gt} {k : Nat} {S : Sta} {mkx : Nat → List Mp.D → Option Exn} {shr : Bool} {ol : List Nat} {fz hi : List (Nat × Nat)} {ck : List (Str × Str)}
theorem good_cx {N ps : List Str} {qual : Str} {scope : Scope} {fa : Addr} {cdv : Value} {A : Around} {outer : List Env} {s : Shared} {H : Hp} {E : XK} (sc : FnScope N ps scope) (tb : TbOk T G S k) (h2 : 2 ≤ k) (xc : XcOk T S mkx) (hr : Room k (A.deeper (envOfC qual scope s.heap.objs.size fa cdv))) :
    GoodS T G mkx k { N := N, sc := scope, fnT := true, lam := false, ol := ol, fz := fz, hi := hi, ck := ck } (cxOf (L2.CX S.P S.w) S.P S.w S.K S.mg S.base N qual scope fa cdv A outer s H E) S (fun c d _ H' => E c d H') where
  ov := ⟨rfl, rfl, rfl, rfl, rfl⟩
  calm := rfl
  nd := sc.nd
  N := rfl
  sc := rfl
  fn := fun _ _ => rfl
  kind := sc.kind
  room := hr
  room2 := fun z => nomatch z
  tk := takes_of (X := cxOf (L2.CX S.P S.w) S.P S.w S.K S.mg S.base N qual scope fa cdv A outer s H E) rfl rfl rfl rfl
  tb := tb
  lam := fun z => nomatch z
  lev := fun z => nomatch z
  po := passes_of (X := cxOf (L2.CX S.P S.w) S.P S.w S.K S.mg S.base N qual scope fa cdv A outer s H E) rfl
  two := h2
  xc := xc
/-- a def without lambdas -/
theorem def_ok {x qual : Str} {params : Arguments} {body : List Stmt} {scope : Scope} {dvs : List V} {kws : List (Str × V)} {fa : Addr} {fd : FuncData} {N ps : List Str} {n : Nat} {m : List St} (FD : FunD S.K x qual params body scope dvs kws fa fd) (sc : FnScope N ps scope) (hps : ps.length = n)
    (tb : TbOk T G S k) (h2 : 2 ≤ k) (xc : XcOk T S mkx) (hc : cSs T shr 60 { N := N, sc := scope, fnT := true, lam := false, ol := ol, fz := fz, hi := hi, ck := ck } body = some m) :
    FnOk S.P S.w S.K S.mg S.base (L2.CX S.P S.w) (k + 1) fa fd ps (spOf S n (runF G mkx n N.length m)) :=
  fn_ok FD sc hps fun cdv A outer s H E hr => cS_ok 60 _ body m hc _ _ (good_cx sc tb h2 xc hr)
def lamQ (qual : Str) (scope : Scope) : Str := (envOfC qual scope 0 0 .none).qual ++ "<lambda>"
/-- a def with lambdas, its code at c, its table at P -/
theorem def_okL {x qual : Str} {params : Arguments} {body : List Stmt} {scope : Scope} {dvs : List V} {kws : List (Str × V)} {fa : Addr} {fd : FuncData} {N ps : List Str} {n : Nat} {m : List St} {c P : Addr} (FD : FunD S.K x qual params body scope dvs kws fa fd) (sc : FnScope N ps scope) (hps : ps.length = n)
    (tb : TbOk T G S k) (h2 : 2 ≤ k) (xc : XcOk T S mkx) (hcode : ∀ oc od fd' sl, S.K.lookup fa = some ⟨oc, od, .func fd', sl⟩ → fd'.code = .ref c) (TB : LamX.TabB S.base S.mg c P) (hT : (P, lamQ qual scope) ∈ S.tb) (hu : ∀ q ∈ S.tb, q.1 = P → q.2 = lamQ qual scope)
    (hc : cSs T shr 60 { N := N, sc := scope, fnT := true, lam := true, ol := ol, fz := fz, hi := hi, ck := ck } body = some m) :
    FnOk S.P S.w S.K S.mg S.base (L2.CX S.P S.w) (k + 3) fa fd ps (spOf S n (runF G mkx n N.length m)) := by
  have hpl : n ≤ N.length := by
    have := congrArg List.length sc.pre
    rw [List.length_take] at this
    omega
  obtain ⟨oc, od, dV, kV, doc, pm, an, cdv, ct, osl, rfl, lk, hcd, _, _⟩ := FD.ex
  have hcdv : cdv = .ref c := hcode _ _ _ _ lk
  subst hcdv
  refine fn_of (k := k + 2) lk hcd sc (fun vs H Q E h => ?_) fun A outer s H vs Q E hr h => ⟨tS S (fun c d _ H' => E c d H') (exs G mkx m), cS_ok (k := k) 60 _ body m hc _ _ ?_, ?_⟩
  · obtain ⟨ow, io, ds, m, _, _, hv, hl, _⟩ := h
    rw [← hv.length, hl, hps]
  · have g := good_cx (ol := ol) (fz := fz) (hi := hi) (ck := ck) (cdv := .ref c) (qual := qual) (fa := fa) (A := A) (outer := outer) (s := s) (H := H) (E := E) sc tb h2 xc (hr.mono (Nat.le_add_right k 2))
    exact { g with
      room2 := fun _ => hr
      lam := fun _ => ⟨c, P, TB, rfl, hT, hu⟩
      lev := fun _ => Nat.le_trans (by decide) h2 }
  · exact start_wish sc hps hpl h
/-- an __init__ -/
theorem ini_ok {x qual : Str} {params : Arguments} {body : List Stmt} {scope : Scope} {dvs : List V} {kws : List (Str × V)} {fa : Addr} {fd : FuncData} {N ps : List Str} {n C : Nat} {m : List St} (FD : FunD S.K x qual params body scope dvs kws fa fd) (sc : FnScope N ps scope) (hps : ps.length = n)
    (tb : ∀ a, TbOk T G (S.at a) k) (h2 : 2 ≤ k) (xc : ∀ a, XcOk T (S.at a) mkx) (hc : cSs T shr 60 { N := N, sc := scope, fnT := true, lam := false, ol := ol, fz := fz, hi := hi, ck := ck } body = some m) :
    FnOk S.P S.w S.K S.mg S.base (L2.CX S.P S.w) (k + 1) fa fd ps (spIni S C n (runI G mkx C n N.length m)) :=
  fnI_ok FD sc hps fun a cdv A outer s H E hr => cS_ok (S := S.at a) 60 _ body m hc _ _ (good_cx (S := S.at a) sc (tb a) h2 (xc a) hr)
end
end Mp
end
section
set_option Elab.async false
set_option linter.all false
set_option maxRecDepth 100000
set_option maxHeartbeats 4000000
/-! MpHead8: own classes from the top. -/
namespace Mp
open PySem PySem.Spec PyProof.Rows L2
/-- a property's getter -/
def prAd (K : Frag) (x f : Str) : Addr := He5.wf K (He.ga K x) "property" f
def cmAd (K : Frag) (x f : Str) : Addr := He5.wf K (He.ga K x) "classmethod" f
def smAd (K : Frag) (x f : Str) : Addr := He5.wf K (He.ga K x) "staticmethod" f
/-- the i-th default of a def -/
def dfAd (K : Frag) (f : Addr) (i : Nat) : Addr := match K.lookup f with
  | some ⟨_, _, .func fd, _⟩ => match fd.defaults with
    | .ref t => match K.lookup t with
      | some ⟨_, _, .seq its _, _⟩ => match its[i]? with
        | some (.ref a) => a
        | _ => 0
      | _ => 0
    | _ => 0
  | _ => 0
theorem cvB_ref {S : Sta} {n : Nat} {a : Addr} {d : D} (h : cvB S.K n (.ref a) d = true) (ow : Addr → Prop) (io : List Addr) (H : Hp) : RV S ow io H d (.ref a) := by
  obtain ⟨v, r, hv⟩ := cvB_ok n h
  have z := hv ow io H
  cases v with
  | ref b => cases r; exact z
  | _ => first | (cases r; done) | (obtain ⟨_, r⟩ := r; cases r)
def propB (K : Frag) (x f : Str) : Bool :=
  He.eqO (PySem.W.findIn K (.ref (He.ga K x)) f) (some (some (.ref (He.ma K (He.ga K x) f)))) && (He.eqO (PySem.W.specialIn K (.ref (He.ma K (He.ga K x) f)) "__get__") (some (some (.builtin "property.__get__"))) &&
    (decide (PySem.W.takesIn K (.ref (He.ma K (He.ga K x) f)) = some true) && (match PySem.W.recIn K (He.ma K (He.ga K x) f) "property" with
    | some (.ref _ :: _) => true
    | _ => false)))
theorem propB_ok {K : Frag} {x f : Str} (h : propB K x f = true) : PropOf K (He.ga K x) f (He.ma K (He.ga K x) f) (prAd K x f) := by
  obtain ⟨h1, h⟩ := He.ba h
  obtain ⟨h2, h⟩ := He.ba h
  obtain ⟨h3, h4⟩ := He.ba h
  refine ⟨He.eqO_ok h1, He.eqO_ok h2, of_decide_eq_true h3, ?_⟩
  unfold prAd He5.wf
  split at h4
  · rename_i f r e
    exact ⟨r, by rw [e]⟩
  · cases h4
def creadB (K : Frag) (x : Str) : Bool := PySem.W.readsIn K (He.ga K x) (.type "type") && He.eqO (PySem.W.specialIn K (.ref (He.ga K x)) "__getattribute__") (some (some (.builtin "type.__getattribute__")))
theorem creadB_ok {K : Frag} {x : Str} (h : creadB K x = true) : ClX.CRead K (He.ga K x) (.type "type") := by
  obtain ⟨h1, h2⟩ := He.ba h
  exact ⟨h1, He.eqO_ok h2⟩
def ccB (K : Frag) (x f : Str) (d : D) : Bool := creadB K x && (match PySem.W.findCls K (.ref (He.ga K x)) (.type "type") f with
  | some (.val u) => cvB K 60 u d
  | _ => false)
theorem ccB_ok {S : Sta} {h : Heap} (X : S.K.In h) (G : h.Ns mainGlobals S.mg) {x f : Str} {d : D} (c : ccB S.K x f d = true) (hm : S.mg x = some (.ref (He.ga S.K x))) : CcOk S x f d := by
  obtain ⟨h1, h2⟩ := He.ba c
  split at h2
  · rename_i u e
    obtain ⟨v, r, hv⟩ := cvB_ok 60 h2
    exact ⟨_, _, u, v, hm, creadB_ok h1, ⟨e, r⟩, hv⟩
  · cases h2
def cmB (K : Frag) (x f : Str) : Bool := creadB K x && (He5.wrapB K (He.ga K x) "classmethod" "classmethod.__get__" f && PySem.W.fnIn K (cmAd K x f))
theorem cmB_ok {K : Frag} {x f : Str} (h : cmB K x f = true) : ClX.CRead K (He.ga K x) (.type "type") ∧ ClX.CMet K (He.ga K x) (.type "type") f (He.ma K (He.ga K x) f) (cmAd K x f) := by
  obtain ⟨h1, h⟩ := He.ba h
  obtain ⟨h2, h3⟩ := He.ba h
  exact ⟨creadB_ok h1, He5.cmet_of h2 h3⟩
def smB (K : Frag) (x f : Str) : Bool := creadB K x && (He5.wrapB K (He.ga K x) "staticmethod" "staticmethod.__get__" f && PySem.W.keepIn K (.ref (smAd K x f)))
theorem smB_ok {K : Frag} {x f : Str} (h : smB K x f = true) : ClX.CRead K (He.ga K x) (.type "type") ∧ CSta K (He.ga K x) (.type "type") f (He.ma K (He.ga K x) f) (smAd K x f) := by
  obtain ⟨h1, h⟩ := He.ba h
  obtain ⟨h2, h3⟩ := He.ba h
  obtain ⟨k1, k2⟩ := He5.wrapB_ok h2
  exact ⟨creadB_ok h1, ⟨k1, k2, h3⟩⟩
/-- isinstance: x's instances against y -/
def iscTyB (K : Frag) (y : Str) : Bool := tyNames.all fun T => decide (PySem.W.kitOne K (.type T) (.ref (He.ga K y)) = some false)
def iscB (K : Frag) (x y : Str) (b : Bool) : Bool := (He.Fa.cls x).ok K && (He.eqO (PySem.W.findIn K (.ref (He.ga K x)) "__class__") (some (some (.builtin "object.__class__"))) && (He.eqO (PySem.W.specialIn K (.builtin "object.__class__") "__get__") (some (some (.builtin "getset_descriptor.__get__"))) &&
  (decide (PySem.W.takesIn K (.builtin "object.__class__") = some true) && (decide (PySem.W.mroIn K (He.ga K x) (.type "object") = some true) && decide (PySem.W.kitOne K (.ref (He.ga K x)) (.ref (He.ga K y)) = some b)))))
theorem iscTyB_ok {K : Frag} {y : Str} (h : iscTyB K y = true) : ∀ T ∈ tyNames, PySem.W.kitOne K (.type T) (.ref (He.ga K y)) = some false := fun T hT => of_decide_eq_true (List.all_eq_true.mp h T hT)
theorem iscB_ok {K : Frag} {x y : Str} {b : Bool} (h : iscB K x y b = true) : Cls K (He.ga K x) ∧ PySem.W.findIn K (.ref (He.ga K x)) "__class__" = some (some (.builtin "object.__class__")) ∧ PySem.W.specialIn K (.builtin "object.__class__") "__get__" = some (some (.builtin "getset_descriptor.__get__")) ∧
    PySem.W.takesIn K (.builtin "object.__class__") = some true ∧ PySem.W.mroIn K (He.ga K x) (.type "object") = some true ∧ PySem.W.kitOne K (.ref (He.ga K x)) (.ref (He.ga K y)) = some b := by
  obtain ⟨h1, h⟩ := He.ba h
  obtain ⟨h2, h⟩ := He.ba h
  obtain ⟨h3, h⟩ := He.ba h
  obtain ⟨h4, h⟩ := He.ba h
  obtain ⟨h5, h6⟩ := He.ba h
  exact ⟨He.cls_ok h1, He.eqO_ok h2, He.eqO_ok h3, of_decide_eq_true h4, of_decide_eq_true h5, of_decide_eq_true h6⟩
def eqiB (K : Frag) (x : Str) : Bool := He.eqO (PySem.W.findIn K (.ref (He.ga K x)) "__ne__") (some (some (.builtin "object.__ne__"))) && decide (PySem.W.mroIn K (He.ga K x) (.type "object") = some true)
theorem eqiB_ok {K : Frag} {x : Str} (h : eqiB K x = true) : PySem.W.findIn K (.ref (He.ga K x)) "__ne__" = some (some (.builtin "object.__ne__")) ∧ PySem.W.mroIn K (He.ga K x) (.type "object") = some true := by
  obtain ⟨h1, h2⟩ := He.ba h
  exact ⟨He.eqO_ok h1, of_decide_eq_true h2⟩
section
variable {S : Sta} {k n C f : Nat} {x w : Str} {fn : List Mp.D → MH → R Mp.D}
theorem mth_of {K : Frag} (hK : S.K = K) (hC : S.ca C = He.ga K x) (hf : S.nm f = w) (hc : (He.Fa.cls x).ok K = true) (hm : (He.Fa.meth x w).ok K = true) {fd : FuncData} {ps : List Str} (hp : ps.length = n) (hb : Binds K fd ps []) (F : FnOk S.P S.w S.K S.mg S.base (L2.CX S.P S.w) k (He.ma K (He.ga K x) w) fd ps (spOf S n fn)) : MthOk S k C f n fn := by
  subst hK
  exact ⟨_, fd, ps, by rw [hC]; exact He.cls_ok hc, by rw [hC, hf]; exact He.meth_ok hm, hp, hb, F⟩
theorem prp_of {K : Frag} (hK : S.K = K) (hC : S.ca C = He.ga K x) (hf : S.nm f = w) (hc : (He.Fa.cls x).ok K = true) (hm : propB K x w = true) {fd : FuncData} {ps : List Str} (hp : ps.length = 1) (hb : Binds K fd ps []) (F : FnOk S.P S.w S.K S.mg S.base (L2.CX S.P S.w) k (prAd K x w) fd ps (spOf S 1 fn)) : PrpOk S k C f fn := by
  subst hK
  exact ⟨_, _, fd, ps, by rw [hC]; exact He.cls_ok hc, by rw [hC, hf]; exact propB_ok hm, hp, hb, F⟩
theorem fld_of {K : Frag} (hK : S.K = K) (hC : S.ca C = He.ga K x) (hf : S.nm f = w) (hc : (He.Fa.cls x).ok K = true) (hm : (He.Fa.noat x w).ok K = true) : FldOk S C f := by
  subst hK
  exact ⟨by rw [hC]; exact He.cls_ok hc, by rw [hC, hf]; exact He.noat_ok hm⟩
theorem raw_spN {ga : Addr} {fd : FuncData} {ps : List Str} {K : Frag} (hK : S.K = K) (hb : Binds K fd ps []) (F : FnOk S.P S.w S.K S.mg S.base (L2.CX S.P S.w) k ga fd ps (spOf S n fn)) : FnR S.P S.w S.K S.mg S.base (L2.CX S.P S.w) k ga (spN S n fn) := by
  subst hK
  refine (F.raw hb .nil).imp fun vs H Q E h => ?_
  rw [List.append_nil]
  exact h
theorem cm_of {K : Frag} (hK : S.K = K) (hC : S.ca C = He.ga K x) (hx : S.mg x = some (.ref (He.ga K x))) (hm : cmB K x w = true) {fd : FuncData} {ps : List Str} (hb : Binds K fd ps []) (F : FnOk S.P S.w S.K S.mg S.base (L2.CX S.P S.w) k (cmAd K x w) fd ps (spOf S n fn)) : CmOk S k x w C n fn := by
  have R := raw_spN hK hb F
  subst hK
  obtain ⟨h1, h2⟩ := cmB_ok hm
  exact ⟨_, _, _, by rw [hC]; exact hx, by rw [hC]; exact h1, by rw [hC]; exact h2, R⟩
theorem sm_of {K : Frag} (hK : S.K = K) (hx : S.mg x = some (.ref (He.ga K x))) (hm : smB K x w = true) {fd : FuncData} {ps : List Str} (hb : Binds K fd ps []) (F : FnOk S.P S.w S.K S.mg S.base (L2.CX S.P S.w) k (smAd K x w) fd ps (spOf S n fn)) : SmOk S k x w n fn := by
  have R := raw_spN hK hb F
  subst hK
  obtain ⟨h1, h2⟩ := smB_ok hm
  exact ⟨_, _, _, _, hx, h1, h2, R⟩
theorem mk_of {K : Frag} (hK : S.K = K) (hC : S.ca C = He.ga K x) (hx : S.mg x = some (.ref (He.ga K x))) (hm : (He.Fa.mkr x).ok K = true) {fd : FuncData} {ps : List Str} (hp : ps.length = n + 1) (hb : Binds K fd ps []) (F : FnOk S.P S.w S.K S.mg S.base (L2.CX S.P S.w) k (He.ma K (He.ga K x) "__init__") fd ps (spIni S C (n + 1) fn)) : MkOk S k x C n fn := by
  subst hK
  exact ⟨_, fd, ps, by rw [hC]; exact hx, by rw [hC]; exact He.mkr_ok hm, hp, hb, F⟩
theorem fnI0_ok {fa : Addr} {fd : FuncData} {ps : List Str} : FnOk S.P S.w S.K S.mg S.base (L2.CX S.P S.w) k fa fd ps (spIni S C n (fun _ _ => .bad)) :=
  ⟨fun vs H Q E h => by obtain ⟨_, _, _, _, _, _, _, _, _, _, _, _, _, _, _, _, _, p⟩ := h; exact p.elim, fun A outer s H args us vs Q E _ _ _ _ h => by obtain ⟨_, _, _, _, _, _, _, _, _, _, _, _, _, _, _, _, _, p⟩ := h; exact p.elim⟩
end
end Mp
end
section
set_option Elab.async false
set_option linter.all false
set_option maxRecDepth 100000
set_option maxHeartbeats 4000000
/-! MpHead5: binding with defaults and keywords; calls from the facts of the top. -/
namespace Mp
open PySem PySem.Spec PyProof.Rows L2

section
variable {K : Frag} {x qual : Str} {params : Arguments} {body : List Stmt} {scope : Scope} {dvs : List V} {kws : List (Str × V)} {f : Addr} {fd : FuncData} {ps : List Str}
/-- n values by place, the keywords ks, defaults for the others (g puts them in order) -/
theorem kb_dfl (F : FunD K x qual params body scope dvs kws f fd) (n : Nat) (ks : List Str) (g : {α : Type} → List α → List α → List α → List α) (hd : dvs ≠ [])
    (hrel : ∀ {vs ds zs : List V} {us its ws : List Value}, Vals vs us → Vals ds its → Vals zs ws → Vals (g vs ds zs) (g us its ws))
    (h : ∀ (T : Addr) (kV doc pm : Value) (an : Option Addr) (cdv ct : Value) (us its ws : List Value), us.length = n → its.length = dvs.length → ws.length = ks.length →
      ∃ k, bindArgs (PySem.W.fnOf x qual params body scope (.ref T) kV doc pm an cdv ct) ⟨us, ks.zip ws⟩ = seqItems? (.ref T) >>= k ∧ k (some its.toArray) = pure (ps.zip (g us its ws))) :
    ∃ its : List Value, KBn K fd ps n ks (fun us ws => g us its ws) (fun vs zs => g vs dvs zs) := by
  obtain ⟨oc, od, dV, kV, doc, pm, an, cdv, ct, osl, rfl, lk, hcd, hD, hK⟩ := F.ex
  rcases hD with ⟨e, _⟩ | ⟨_, T, o, its, m, rfl, lT, oT, rT⟩
  · exact absurd e hd
  · refine ⟨its, ⟨fun s us ws X l1 l2 => ?_, fun r rz => hrel r rT rz⟩⟩
    obtain ⟨k, h1, h2⟩ := h T kV doc pm an cdv ct us its ws l1 rT.length.symm l2
    exact .of_defaults (fd := PySem.W.fnOf x qual params body scope (.ref T) kV doc pm an cdv ct) rfl (X _ _ lT) oT h1 h2
/-- no defaults -/
theorem kb_plain (F : FunD K x qual params body scope [] kws f fd) (n : Nat) (ks : List Str) (g : {α : Type} → List α → List α → List α)
    (hrel : ∀ {vs zs : List V} {us ws : List Value}, Vals vs us → Vals zs ws → Vals (g vs zs) (g us ws))
    (h : ∀ (kV doc pm : Value) (an : Option Addr) (cdv ct : Value) (us ws : List Value), us.length = n → ws.length = ks.length → bindArgs (PySem.W.fnOf x qual params body scope .none kV doc pm an cdv ct) ⟨us, ks.zip ws⟩ = pure (ps.zip (g us ws))) :
    KBn K fd ps n ks (fun us ws => g us ws) (fun vs zs => g vs zs) := by
  obtain ⟨oc, od, dV, kV, doc, pm, an, cdv, ct, osl, rfl, lk, hcd, hD, hK⟩ := F.ex
  rcases hD with ⟨_, rfl⟩ | ⟨e, _⟩
  · exact ⟨fun s us ws X l1 l2 => .of_eq (h kV doc pm an cdv ct us ws l1 l2), fun r rz => hrel r rz⟩
  · exact absurd rfl e
/-- all by place, some have defaults -/
theorem bd_full (F : FunD K x qual params body scope dvs kws f fd) (h : ∀ (dV kV doc pm : Value) (an : Option Addr) (cdv ct : Value) (us : List Value), us.length = ps.length → bindArgs (PySem.W.fnOf x qual params body scope dV kV doc pm an cdv ct) ⟨us, []⟩ = pure (ps.zip us)) : Binds K fd ps [] := by
  obtain ⟨oc, od, dV, kV, doc, pm, an, cdv, ct, osl, rfl, lk, hcd, hD, hK⟩ := F.ex
  exact .all (h dV kV doc pm an cdv ct)
end
theorem saysD_mem {fa : List He.Fa} {fn : List He.DefD} {K : Frag} (c : He.SaysD fa fn K) {f : He.Fa} (hf : f ∈ fa) : f.ok K = true := by
  have c1 := (He.ba (show ((fa.all fun f => f.ok K) && fn.all fun d => d.ok K) = true from congrArg (fun z : He.AlD => z.1) c)).1
  exact List.all_eq_true.mp c1 f hf
theorem cal_mono {S : Sta} {j k : Nat} {x : Str} {n : Nat} {f : List Mp.D → MH → R Mp.D} (C : CalOk S j x n f) (h : j ≤ k) : CalOk S k x n f := by
  obtain ⟨fa, fd, ps, h1, h2, h3, h4, h5⟩ := C
  exact ⟨fa, fd, ps, h1, h2, h3, h4, h5.mono h⟩
theorem calK_mono {S : Sta} {j k : Nat} {x : Str} {n : Nat} {ks : List Str} {b : List Mp.D → List Mp.D → Option (List Mp.D)} {f : List Mp.D → MH → R Mp.D} (C : CalKOk S j x n ks b f) (h : j ≤ k) : CalKOk S k x n ks b f := by
  obtain ⟨fa, fd, ps, g, gV, h1, h2, h3, h4, h5, h6⟩ := C
  exact ⟨fa, fd, ps, g, gV, h1, h2, h3, h4, h5, h6.mono h⟩
theorem fnIx_nil {x : Str} {n f : Nat} (h : fnIx [] x n = some f) : False := by cases h
/-- the table of the defs, one by one -/
theorem fnIx_cons {y : Str} {k f : Nat} {r : List (Str × Nat × Nat)} {P : Str → Nat → Nat → Prop} (h0 : P y k f) (hr : ∀ x n g, fnIx r x n = some g → P x n g) : ∀ x n g, fnIx ((y, k, f) :: r) x n = some g → P x n g := fun x n g h => by
  unfold fnIx at h
  split at h
  · rename_i e
    obtain ⟨rfl, rfl⟩ := e
    cases h
    exact h0
  · exact hr x n g h
theorem fkIx_cons {y : Str} {k f b : Nat} {ks : List Str} {r : List (Str × Nat × List Str × Nat × Nat)} {P : Str → Nat → List Str → Nat → Nat → Prop} (h0 : P y k ks f b) (hr : ∀ x n l g c, fkIx r x n l = some (g, c) → P x n l g c) : ∀ x n l g c, fkIx ((y, k, ks, f, b) :: r) x n l = some (g, c) → P x n l g c := fun x n l g c h => by
  unfold fkIx at h
  split at h
  · rename_i e
    obtain ⟨rfl, rfl, rfl⟩ := e
    cases h
    exact h0
  · exact hr x n l g c h
theorem csIx_cons {y : Str} {f : Nat} {r : List (Str × Nat)} {P : Str → Nat → Prop} (h0 : P y f) (hr : ∀ x g, csIx r x = some g → P x g) : ∀ x g, csIx ((y, f) :: r) x = some g → P x g := fun x g h => by
  unfold csIx at h
  split at h
  · rename_i e
    subst e
    cases h
    exact h0
  · exact hr x g h
end Mp
end
section
set_option Elab.async false
set_option linter.all false
set_option maxRecDepth 100000
set_option maxHeartbeats 4000000
/-! MpHead6: the asking def and the field reader of the laws. -/
namespace Mp
open PySem PySem.Spec PyProof.Rows L2

/-- the field reader's steps: the same text in every law -/
def fdPs : List (List Str × Str) := [(["InvalidFraction", "InvalidStocks", "InvalidAmounts", "InvalidShare", "InvalidWeighing"], "given"), (["InvalidDistance", "InvalidLimit"], "given"), (["InvalidStep", "InvalidCondition", "InvalidRow", "InvalidCommand"], "index"),
  (["InvalidName", "WrongKind", "DuplicateName", "Circular", "UnknownName"], "name"), (["TooMany", "Full"], "limit"), (["TooLittle"], "stock"), (["InvalidRun"], "place"), (["InvalidPlan"], "part"), (["InUse"], "user")]
def fdL : Str × Str := ("InvalidPage", "line")
def fdNs : List Str := ["given", "index", "name", "limit", "stock", "place", "part", "user", "tag", "line"]
theorem fd_sub : ∀ n ∈ fdNames fdPs fdL, n ∈ fdNs := by decide +kernel
section
variable {S : Sta} {pw pf : Arguments} {bw bf : List Stmt} {sw sf : Scope} {kw kf : List (Str × V)} {gw gf : Addr} {fw ff : FuncData}
theorem fdOk_of (FF : FunD S.K "_law_field" "_law_field" pf bf sf [] kf gf ff) (hm : S.mg "_law_field" = some (.ref gf)) (sc : FnScope ["_law_e"] ["_law_e"] sf) (hb : fdBody "_law_e" bf = some (fdPs, fdL)) (hv : sf.names.lookup ("_law_e" : Str) = some .local)
    (hB : ∀ (kV doc pm : Value) (an : Option Addr) (cdv ct : Value) (us : List Value), us.length = 1 → bindArgs (PySem.W.fnOf "_law_field" "_law_field" pf bf sf .none kV doc pm an cdv ct) ⟨us, []⟩ = pure ([("_law_e" : Str)].zip us)) : FdOk S.K S.mg "_law_field" fdPs fdL := by
  have hbind := FF.bindsN (ps := ["_law_e"]) hB
  obtain ⟨oc, od, dV, kV, doc, pm, an, cdv, ct, osl, rfl, lk, hcd, _, _⟩ := FF.ex
  exact ⟨gf, cdv, "_law_e", ["_law_e"], _, pf, bf, sf, dV, kV, doc, pm, ct, oc, an, od, osl, hm, FF.kp, lk, hcd, sc, hbind, rfl, .inl hv, by decide +kernel, by decide +kernel, hb⟩
theorem whyDef_of {wd : Exn → Option Mp.D} {c1 c2 c3 : Value} (FW : FunD S.K "_law_why" "_law_why" pw bw sw [] kw gw fw) (hm : S.mg "_law_why" = some (.ref gw)) (sc : FnScope ["_law_ask", "_law_e"] ["_law_ask"] sw) (hb : whyB "_law_ask" "_law_e" "BodyError" "Missing" "NothingLeft" "_law_field" bw = true)
    (hva : sw.names.lookup ("_law_ask" : Str) = some .local) (hve : sw.names.lookup ("_law_e" : Str) = some .local) (h1 : sw.names.lookup ("BodyError" : Str) = some .globalImplicit) (h2 : sw.names.lookup ("Missing" : Str) = some .globalImplicit) (h3 : sw.names.lookup ("NothingLeft" : Str) = some .globalImplicit)
    (h4 : sw.names.lookup ("_law_field" : Str) = some .globalImplicit) (m1 : S.mg "BodyError" = some c1) (m2 : S.mg "Missing" = some c2) (m3 : S.mg "NothingLeft" = some c3) (F : FdOk S.K S.mg "_law_field" fdPs fdL) (W : WhyOk S [c1, c2, c3] fdPs fdL wd)
    (hB : ∀ (kV doc pm : Value) (an : Option Addr) (cdv ct : Value) (us : List Value), us.length = 1 → bindArgs (PySem.W.fnOf "_law_why" "_law_why" pw bw sw .none kV doc pm an cdv ct) ⟨us, []⟩ = pure ([("_law_ask" : Str)].zip us)) : WhyDef S "_law_why" wd := by
  have hbind := FW.bindsN (ps := ["_law_ask"]) hB
  obtain ⟨oc, od, dV, kV, doc, pm, an, cdv, ct, osl, rfl, lk, hcd, _, _⟩ := FW.ex
  exact ⟨gw, "_law_ask", "_law_e", "BodyError", "Missing", "NothingLeft", "_law_field", pw, bw, sw, dV, kV, doc, pm, cdv, ct, oc, c1, c2, c3, an, od, osl, ["_law_ask", "_law_e"], fdPs, fdL,
    hm, FW.kp, lk, hcd, hbind, sc, rfl, by decide +kernel, .inl hva, by decide +kernel, by decide +kernel, hb, ⟨h1, by decide +kernel, m1⟩, ⟨h2, by decide +kernel, m2⟩, ⟨h3, by decide +kernel, m3⟩, h4, by decide +kernel, F, hve, by decide +kernel, by decide +kernel, W⟩
end
end Mp
end
section
set_option Elab.async false
set_option linter.all false
set_option maxRecDepth 100000
set_option maxHeartbeats 4000000
/-! MpHead7: own exceptions with a field; the asking def for a list of classes. -/
namespace Mp
open PySem PySem.Spec PyProof.Rows L2
section
variable {S : Sta} {d : IniD} {f cc cda : Addr} {ns : List Str} {z tag : Str}
/-- an own exception with one field -/
theorem xk1_of {fld y : Str} (A : XcAll S.P S.K ns d f cc cda) (sc : XcS S.P d.params d.scope) (hd : iniDec d.body = some (z, tag, some (fld, y))) (hw : IniW d.qual d.scope d.body) (hm : S.mg d.cls = some (.ref (He.ga S.K d.cls))) (hs : S.mg "super" = none) (ht : tag ∈ ns) (hf' : fld ∈ ns) {C tagN fldN : Nat} (hC : S.ca C = He.ga S.K d.cls) (hT : S.nm tagN = tag) (hF : S.nm fldN = fld)
    (ny : (y == ("self" : Str)) = false) (nd : (y == ("__debug__" : Str)) = false) (ly : d.scope.names.lookup y = some .local) (nf : fld ≠ tag)
    (hb : ∀ (cl : List (Str × Addr)) (kV doc pm : Value) (an : Option Addr) (cdv ct : Value) (us : List Value), us.length = 2 → bindArgs (PySem.W.fnX "__init__" d.qual d.params d.body d.scope cl .none kV doc pm an cdv ct) ⟨us, []⟩ = pure ([("self" : Str), y].zip us)) : Xk S d.cls C 1 (fun ws => [(S.nm fldN, ws.headD .non), (S.nm tagN, .str z)]) := by
  have hm' : S.mg d.cls = some (.ref (S.ca C)) := by rw [hC]; exact hm
  have hno := A.no _ ht
  have hnf := A.no _ hf'
  obtain ⟨oc, od, kV, doc, pm, an, ct, osl, hf⟩ := A.fn
  have T := A.xcf
  unfold iniDec at hd
  split at hd
  · split at hd <;> cases hd
  · rename_i s1 p0 p1 ini p2 z' j1 p3 p4 p5 s2 p6 tag' p7 z2 j2 p8 p9 s3 q6 fld' q7 y' q8 q9 hbd
    split at hd
    · rename_i hc
      obtain ⟨rfl, rfl, rfl, rfl, rfl⟩ := hc
      cases hd
      have hB : d.body = initB z p0 p1 p2 p3 p4 p5 p6 p7 p8 p9 j1 j2 tag [.Assign [.Attribute (.Name "self" q6) fld q7] (.Name y q8) q9] := hbd
      rw [hB] at hf T hw
      have F := fn_ini1 (w := S.w) (base := S.base) (k := 0) T sc (xcw_of sc.kind hw) hs ny nd ly (fun L => rfl) nf hnf hno hf
      rw [← hC, ← hT, ← hF] at F
      refine ⟨hm', by rw [hC]; exact A.oex, _, _, _, _, rfl, by rw [hC]; exact A.ini, A.tyI, .all fun us hu => ?_, Nat.le_refl _, F⟩
      have := hb [("__class__", cc)] kV doc pm an (.ref cda) ct us hu
      rw [hB] at this
      exact this
    · cases hd
  · cases hd
end
end Mp
end
section
set_option Elab.async false
set_option linter.all false
set_option maxRecDepth 100000
set_option maxHeartbeats 1000000
/-! MpSimp: the evaluator's equations. -/
namespace Mp
open PySem PySem.Spec PyProof.Rows L2
section
variable (G : Gt) (mkx : Nat → List D → Option Exn) (fr : Fr) (m : MH) (d : D) (i j f g b0 : Nat) (a b c l h : E) (es ks cs : List E) (o p : CO) (q : BO) (ts : List Ty) (vs : List Nat) (tg : Tg) (bl : Bl) (s : St) (ss s1 s2 : List St)
@[simp] theorem ev_k : ev G (.k d) fr m = .ok d m := rfl
theorem ev_loc_ (h : fr[i]? = some (some (.val d))) : ev G (.loc i) fr m = .ok d m := by
  show (match fr[i]? with | some (some (.val d)) => R.ok d m | _ => R.bad) = _
  rw [h]
@[simp] theorem ev_loc_zero : ev G (.loc 0) (some (.val d) :: fr) m = .ok d m := rfl
@[simp] theorem ev_loc_succ (s0 : Option Sl) : ev G (.loc (i + 1)) (s0 :: fr) m = ev G (.loc i) fr m := rfl
@[simp] theorem ev_cst : ev G (.cst g) fr m = .ok (G.cst g) m := rfl
@[simp] theorem ev_bin : ev G (.bin q a b) fr m = (ev G a fr m).bind fun x m1 => (ev G b fr m1).bind fun y m2 => optR (binD q x y) m2 := rfl
@[simp] theorem ev_neg : ev G (.neg a) fr m = (ev G a fr m).bind fun x m1 => match x with | .int i => .ok (.int (-i)) m1 | _ => .bad := rfl
@[simp] theorem ev_cmp : ev G (.cmp o a b) fr m = (ev G a fr m).bind fun x m1 => (ev G b fr m1).bind fun y m2 => optR (cmpD o x y) m2 := rfl
@[simp] theorem ev_isN : ev G (.isN a) fr m = (ev G a fr m).bind fun x m1 => .ok (.bl (isNonD x)) m1 := rfl
@[simp] theorem ev_notN : ev G (.notN a) fr m = (ev G a fr m).bind fun x m1 => .ok (.bl (!isNonD x)) m1 := rfl
@[simp] theorem ev_andv : ev G (.andv a b) fr m = (ev G a fr m).bind fun x m1 => match truD x with | some true => ev G b fr m1 | some false => .ok x m1 | none => .bad := rfl
@[simp] theorem ev_orv : ev G (.orv a b) fr m = (ev G a fr m).bind fun x m1 => match truD x with | some true => .ok x m1 | some false => ev G b fr m1 | none => .bad := rfl
@[simp] theorem ev_notv : ev G (.notv a) fr m = (ev G a fr m).bind fun x m1 => match truD x with | some t => .ok (.bl (!t)) m1 | none => .bad := rfl
@[simp] theorem ev_ite : ev G (.ite c a b) fr m = (ev G c fr m).bind fun x m1 => match truD x with | some true => ev G a fr m1 | some false => ev G b fr m1 | none => .bad := rfl
@[simp] theorem ev_tup : ev G (.tup es) fr m = (evs G es fr m).bind fun ds m1 => if ds.length ≤ sizeLine then .ok (.tup ds) m1 else .bad := rfl
@[simp] theorem ev_lst : ev G (.lst es) fr m = (evs G es fr m).bind fun ds m1 => if ds.length ≤ sizeLine then .ok (.lst ds) m1 else .bad := rfl
@[simp] theorem ev_idx : ev G (.idx a b) fr m = (ev G a fr m).bind fun x m1 => (ev G b fr m1).bind fun y m2 => optR (idxD x y m2) m2 := rfl
@[simp] theorem ev_prt : ev G (.prt a) fr m = (ev G a fr m).bind fun x m1 => match x with | .int i => .ok (.int i) m1 | _ => .bad := rfl
@[simp] theorem ev_sl : ev G (.sl a l h) fr m = (ev G a fr m).bind fun x m1 => (ev G l fr m1).bind fun l m2 => match optI l with
    | some l => (ev G h fr m2).bind fun h m3 => match optI h with | some h => optR (slD x l h) m3 | none => .bad
    | none => .bad := rfl
@[simp] theorem ev_call : ev G (.call f es) fr m = (evs G es fr m).bind fun ds m1 => G.fn f ds m1 := rfl
@[simp] theorem ev_callK : ev G (.callK f b0 es ks) fr m = (evs G es fr m).bind fun ds m1 => (evs G ks fr m1).bind fun zs m2 => match G.bnd b0 ds zs with | some as => G.fn f as m2 | none => .bad := rfl
@[simp] theorem ev_blt : ev G (.blt bl es) fr m = (evs G es fr m).bind fun ds m1 => optR (bltD bl ds m1) m1 := rfl
@[simp] theorem ev_isi : ev G (.isi a ts) fr m = (ev G a fr m).bind fun x m1 => optR ((isTys x m1 ts).map .bl) m1 := rfl
@[simp] theorem ev_comp_ : ev G (.comp vs tg a cs b) fr m = (ev G a fr m).bind fun x m1 => match itemsD x with | some xs => (compGo vs tg (evc G cs) (ev G b) fr xs [] m1).bind fun ys m2 => .ok (.lst ys) m2 | none => .bad := rfl
@[simp] theorem ev_rng1 : ev G (.rng1 a) fr m = (ev G a fr m).bind fun y m1 => match rngD (.int 0) y with | some xs => .ok (.lst xs) m1 | none => .bad := rfl
@[simp] theorem ev_zip : ev G (.zip a b) fr m = (ev G a fr m).bind fun x m1 => (ev G b fr m1).bind fun y m2 => match zipD x y with | some xs => .ok (.lst xs) m2 | none => .bad := rfl
@[simp] theorem ev_why : ev G (.why a) fr m = whyR G.why (ev G a fr m) := rfl
@[simp] theorem evs_nil : evs G [] fr m = .ok [] m := rfl
@[simp] theorem evs_cons : evs G (a :: es) fr m = (ev G a fr m).bind fun x m1 => (evs G es fr m1).bind fun xs m2 => .ok (x :: xs) m2 := rfl
@[simp] theorem evc_nil : evc G [] = [] := rfl
@[simp] theorem evc_cons : evc G (a :: es) = ev G a :: evc G es := rfl
@[simp] theorem exs_nil : exs G mkx [] fr m = .nx fr m := rfl
@[simp] theorem exs_cons : exs G mkx (s :: ss) fr m = (ex G mkx s fr m).then_ fun f1 m1 => exs G mkx ss f1 m1 := rfl
@[simp] theorem ex_asg : ex G mkx (.asg tg a) fr m = SR.of (ev G a fr m) fr fun d m1 => match tgD tg d fr with | some f1 => .nx f1 m1 | none => .bad := rfl
@[simp] theorem ex_ret : ex G mkx (.ret a) fr m = SR.of (ev G a fr m) fr fun d m1 => .rt d m1 := rfl
@[simp] theorem ex_retS : ex G mkx (.retS a) fr m = SR.of (ev G a fr m) fr fun d m1 => match d with | .lst xs => .rt (.ref m1.length) (m1 ++ [.lst xs]) | _ => .bad := rfl
@[simp] theorem ex_ife : ex G mkx (.ife a s1 s2) fr m = SR.of (tst (ev G a) fr m) fr fun t m1 => match t with | true => exs G mkx s1 fr m1 | false => exs G mkx s2 fr m1 := rfl
@[simp] theorem ex_whl : ex G mkx (.whl a s1) fr m = whileS (tst (ev G a)) (exs G mkx s1) fr m := rfl
@[simp] theorem ex_for0 : ex G mkx (.for_ tg a s1) fr m = SR.of (ev G a fr m) fr fun d m1 => match itemsD d with | some xs => forS tg (exs G mkx s1) xs fr m1 | none => .bad := rfl
@[simp] theorem ex_rais : ex G mkx (.rais i es) fr m = SR.of (evs G es fr m) fr fun ds m1 => match mkx i ds with | some x => .ex x fr m1 | none => .bad := rfl
@[simp] theorem ex_setX : ex G mkx (.setX a b c) fr m = SR.of (ev G c fr m) fr fun d m1 => SR.of (ev G a fr m1) fr fun x m2 => SR.of (ev G b fr m2) fr fun y m3 => match setXD x y d m3 with | some m4 => .nx fr m4 | none => .bad := rfl
@[simp] theorem ev_chain (e3 : E) : ev G (.chain o p a b e3) fr m = (ev G a fr m).bind fun x m1 => (ev G b fr m1).bind fun y m2 => match cmpD o x y with | some (.bl true) => (ev G e3 fr m2).bind fun z m3 => optR (cmpD p y z) m3 | some (.bl false) => .ok (.bl false) m2 | _ => .bad := rfl
@[simp] theorem ev_rng2 : ev G (.rng2 a b) fr m = (ev G a fr m).bind fun x m1 => (ev G b fr m1).bind fun y m2 => match rngD x y with | some xs => .ok (.lst xs) m2 | none => .bad := rfl
@[simp] theorem ev_fld : ev G (.fld a f) fr m = (ev G a fr m).bind fun x m1 => match insD x m1 with | some (C, ns, ds) => (match G.ci.pr C f with | some (some g) => isOk (G.fn g [x] m1) | some none => (match (ns.zip ds).lookup f with | some d => .ok d m1 | none => .bad) | none => .bad) | none => .bad := rfl
@[simp] theorem ev_mth : ev G (.mth f a es) fr m = (ev G a fr m).bind fun x m1 => match insD x m1 with | some (C, ns, _) => (match G.ci.mt C f with | some g => if ns.contains f = true then .bad else (evs G es fr m1).bind fun ds m2 => G.fn g (x :: ds) m2 | none => .bad) | none => .bad := rfl
@[simp] theorem ev_dun (kd : Du) : ev G (.dun kd f a) fr m = (ev G a fr m).bind fun x m1 => match insD x m1 with | some (C, _, _) => (match G.ci.mt C f with | some g => (isOk (G.fn g [x] m1)).bind fun d m2 => optR (duD kd d) m2 | none => .bad) | none => .bad := rfl
@[simp] theorem ev_mthK (b1 : Nat) : ev G (.mthK f b1 a es ks) fr m = (ev G a fr m).bind fun x m1 => match insD x m1 with | some (C, ns, _) => (match G.ci.mt C f with | some g => if ns.contains f = true then .bad else (evs G es fr m1).bind fun ds m2 => (evs G ks fr m2).bind fun zs m3 => (match G.bnd b1 (x :: ds) zs with | some as => G.fn g as m3 | none => .bad) | none => .bad) | none => .bad := rfl
@[simp] theorem ev_eqI (ng : Bool) : ev G (.eqI ng f a b) fr m = (ev G a fr m).bind fun x m1 => (ev G b fr m1).bind fun y m2 => match insD x m2 with | some (C, _, _) => (match G.ci.mt C f with | some g => if eqY C y m2 = true then (isOk (G.fn g [x, y] m2)).bind fun d m3 => match d with | .bl t => .ok (.bl (xor ng t)) m3 | _ => .bad else .bad | none => .bad) | none => optR ((eqD x y).map fun t => .bl (xor ng t)) m2 := rfl
@[simp] theorem ev_callL (C : Nat) : ev G (.callL i C f es) fr m = match fr[i]? with | some (some (.val (.cls C'))) => if C' = C then (evs G es fr m).bind fun ds m1 => G.fn f ds m1 else .bad | _ => .bad := rfl
@[simp] theorem ex_aug : ex G mkx (.aug i q a) fr m = augF i q (ev G a) fr m := rfl
@[simp] theorem ex_augO : ex G mkx (.augO i a q b) fr m = augOF i (ev G a) q (ev G b) fr m := rfl
@[simp] theorem ev_isC (C : Nat) : ev G (.isC a C) fr m = (ev G a fr m).bind fun x m1 => optR ((isCD G.ci.isc C m1 x).map .bl) m1 := rfl
@[simp] theorem ev_enm : ev G (.enm a) fr m = (ev G a fr m).bind fun x m1 => match enmD x with | some xs => .ok (.lst xs) m1 | none => .bad := rfl
@[simp] theorem ev_dcomp : ev G (.dcomp vs tg a b c) fr m = (ev G a fr m).bind fun x m1 => match itemsD x with | some xs => (dcGo vs tg (ev G b) (ev G c) fr xs [] m1).bind fun acc m2 => .ok (.dct (acc.map (·.1)) (acc.map (·.2))) m2 | none => .bad := rfl
@[simp] theorem ex_fldO : ex G mkx (.fldO f a) fr m = fldOF G.ci f (ev G a) fr m := rfl
@[simp] theorem ev_m1 (k1 : M1) : ev G (.m1 k1 a b) fr m = (ev G a fr m).bind fun x m1 => match x with | .str z => (ev G b fr m1).bind fun y m2 => optR (m1D k1 z y m2) m2 | _ => .bad := rfl
@[simp] theorem ev_fmt : ev G (.fmt a) fr m = (ev G a fr m).bind fun x m1 => optR (fmtD x) m1 := rfl
@[simp] theorem ev_fs : ev G (.fs es) fr m = evf G es Str.empty fr m := rfl
@[simp] theorem evf_nil (acc : Str) : evf G [] acc fr m = .ok (.str acc) m := rfl
@[simp] theorem evf_cons (acc : Str) : evf G (a :: es) acc fr m = (ev G a fr m).bind fun x m1 => match x with | .str y => if (acc ++ y).length ≤ sizeLine then evf G es (acc ++ y) fr m1 else .bad | _ => .bad := rfl
@[simp] theorem ev_rev : ev G (.rev a) fr m = (ev G a fr m).bind fun x m1 => optR (revD x) m1 := rfl
@[simp] theorem ev_own_zero : ev G (.own 0) (some (.val d) :: fr) m = .ok d m := rfl
@[simp] theorem ev_own_zero' (xs : List D) : ev G (.own 0) (some (.olst xs) :: fr) m = .ok (.lst xs) m := rfl
@[simp] theorem ev_own_succ (s0 : Option Sl) : ev G (.own (i + 1)) (s0 :: fr) m = ev G (.own i) fr m := rfl
@[simp] theorem ex_asgO : ex G mkx (.asgO i a) fr m = asgOF i (ev G a) fr m := rfl
@[simp] theorem ex_app : ex G mkx (.app i a) fr m = appF i (ev G a) fr m := rfl
@[simp] theorem ex_extO : ex G mkx (.extO i a) fr m = extF i (ev G a) fr m := rfl
@[simp] theorem ex_setO : ex G mkx (.setO i a b) fr m = setF i (ev G a) (ev G b) fr m := rfl
@[simp] theorem ex_frz : ex G mkx (.frz i) fr m = .nx (frzF i fr) m := rfl
@[simp] theorem ex_popA : ex G mkx (.popA tg i) fr m = popF tg i fr m := rfl
@[simp] theorem ex_exp : ex G mkx (.exp a) fr m = SR.of (ev G a fr m) fr fun _ m1 => .nx fr m1 := rfl
@[simp] theorem ex_retN : ex G mkx .retN fr m = .rt .non m := rfl
@[simp] theorem ex_pas : ex G mkx .pas fr m = .nx fr m := rfl
@[simp] theorem ex_brk : ex G mkx .brk fr m = .bk fr m := rfl
@[simp] theorem ex_cnt : ex G mkx .cnt fr m = .ct fr m := rfl
end
@[simp] theorem tgD_nm (i : Nat) (d : D) (fr : Fr) : tgD (.nm i) d fr = some (fr.set i (some (.val d))) := by unfold tgD; rfl
@[simp] theorem tgD_tup (ts : List Tg) (ds : List D) (fr : Fr) : tgD (.tup ts) (.tup ds) fr = tgDs ts ds fr := by
  conv => lhs; unfold tgD
@[simp] theorem tgD_tupl (ts : List Tg) (ds : List D) (fr : Fr) : tgD (.tup ts) (.lst ds) fr = tgDs ts ds fr := by
  conv => lhs; unfold tgD
@[simp] theorem tgDs_nil (fr : Fr) : tgDs [] [] fr = some fr := by unfold tgDs; rfl
@[simp] theorem tgDs_cons (t : Tg) (ts : List Tg) (d : D) (ds : List D) (fr : Fr) : tgDs (t :: ts) (d :: ds) fr = (tgD t d fr).bind (tgDs ts ds) := by
  conv => lhs; unfold tgDs
theorem le_line {n : Nat} (h : n ≤ 1000) : n ≤ sizeLine := by
  rw [sizeLine_eq]
  omega
theorem runF_rt {G : Gt} {mkx : Nat → List D → Option Exn} {n N : Nat} {b : List St} {ds : List D} {m m1 : MH} {d : D} (hl : ds.length = n) (h : exs G mkx b (ds.map (fun d => some (.val d)) ++ List.replicate (N - n) none) m = .rt d m1) : runF G mkx n N b ds m = .ok d m1 := by
  unfold runF
  rw [if_pos hl, h]
theorem runF_ex {G : Gt} {mkx : Nat → List D → Option Exn} {n N : Nat} {b : List St} {ds : List D} {m m1 : MH} {x : Exn} {f : F} (hl : ds.length = n) (h : exs G mkx b (ds.map (fun d => some (.val d)) ++ List.replicate (N - n) none) m = .ex x f m1) : runF G mkx n N b ds m = .exc x m1 := by
  unfold runF
  rw [if_pos hl, h]
end Mp
end
section
set_option Elab.async false
set_option linter.all false
set_option maxRecDepth 100000
set_option maxHeartbeats 1000000
/-! MpEq: what the operations give on data of a known kind (a simp set: give none of the operations themselves to simp). -/
namespace Mp
open PySem PySem.Spec PyProof.Rows L2
theorem lt_line {n : Nat} (h : n < 1000) : n < sizeLine := by
  rw [sizeLine_eq]
  omega
section
variable (b c : Bool) (i j : Int) (x y : Str) (xs ys : List D) (d e : D) (m : MH) (n k : Nat)
@[simp] theorem isNonD_non : isNonD .non = true := rfl
@[simp] theorem isNonD_bl : isNonD (.bl b) = false := rfl
@[simp] theorem isNonD_int : isNonD (.int i) = false := rfl
@[simp] theorem isNonD_str : isNonD (.str x) = false := rfl
@[simp] theorem isNonD_tup : isNonD (.tup xs) = false := rfl
@[simp] theorem isNonD_lst : isNonD (.lst xs) = false := rfl
@[simp] theorem isNonD_fz : isNonD (.fz xs) = false := rfl
@[simp] theorem isNonD_ref : isNonD (.ref n) = false := rfl
@[simp] theorem truD_non : truD .non = some false := rfl
@[simp] theorem truD_bl : truD (.bl b) = some b := rfl
@[simp] theorem truD_int : truD (.int i) = some (i != 0) := rfl
@[simp] theorem truD_tup : truD (.tup xs) = some (!xs.isEmpty) := rfl
@[simp] theorem truD_lst : truD (.lst xs) = some (!xs.isEmpty) := rfl
theorem truD_str (h : x.length ≤ sizeLine) : truD (.str x) = some ((x.length : Int) != 0) := by
  show (if _ then _ else _) = _
  rw [if_pos h]
@[simp] theorem cmp_eq_int : cmpD .eq (.int i) (.int j) = some (.bl (decide (i = j))) := rfl
@[simp] theorem cmp_ne_int : cmpD .ne (.int i) (.int j) = some (.bl (!decide (i = j))) := rfl
@[simp] theorem cmp_eq_bl : cmpD .eq (.bl b) (.bl c) = some (.bl (decide (b = c))) := rfl
@[simp] theorem cmp_ne_bl : cmpD .ne (.bl b) (.bl c) = some (.bl (!decide (b = c))) := rfl
@[simp] theorem cmp_eq_str : cmpD .eq (.str x) (.str y) = some (.bl (decide (x = y))) := rfl
@[simp] theorem cmp_ne_str : cmpD .ne (.str x) (.str y) = some (.bl (!decide (x = y))) := rfl
@[simp] theorem cmp_lt_int : cmpD .lt (.int i) (.int j) = some (.bl (decide (i < j))) := rfl
@[simp] theorem cmp_le_int : cmpD .le (.int i) (.int j) = some (.bl (decide (i ≤ j))) := rfl
@[simp] theorem cmp_gt_int : cmpD .gt (.int i) (.int j) = some (.bl (decide (j < i))) := rfl
@[simp] theorem cmp_ge_int : cmpD .ge (.int i) (.int j) = some (.bl (decide (j ≤ i))) := rfl
@[simp] theorem bin_add_int : binD .add (.int i) (.int j) = some (.int (i + j)) := rfl
@[simp] theorem bin_sub_int : binD .sub (.int i) (.int j) = some (.int (i - j)) := rfl
theorem bin_mul_int (h : mulOk i j = true) : binD .mul (.int i) (.int j) = some (.int (i * j)) := by
  show (if _ then _ else _) = _
  rw [if_pos h]
theorem bin_fdiv_int (h : divOk j = true) : binD .fdiv (.int i) (.int j) = some (.int (i / j)) := by
  show (if _ then _ else _) = _
  rw [if_pos h]
theorem bin_mod_int (h : 0 < j) : binD .mod (.int i) (.int j) = some (.int (i % j)) := by
  show (if _ then _ else _) = _
  rw [if_pos h]
theorem bin_add_str (h : x.length + y.length ≤ sizeLine) : binD .add (.str x) (.str y) = some (.str (x ++ y)) := by
  show (if _ then _ else _) = _
  rw [if_pos h]
theorem bin_add_lst (h : xs.length + ys.length ≤ sizeLine) : binD .add (.lst xs) (.lst ys) = some (.lst (xs ++ ys)) := by
  show (if _ then _ else _) = _
  rw [if_pos h]
@[simp] theorem isTys_nil : isTys d m [] = some false := rfl
theorem isTys_one (t : Ty) : isTys d m [t] = (isTy d m t).map id := by
  show (match isTy d m t with | some true => some true | some false => isTys d m [] | none => none) = _
  cases h : isTy d m t with
  | none => rfl
  | some z => cases z <;> rfl
@[simp] theorem isTy_int (t : Ty) (h : ∀ C, t ≠ .cls C) : isTys (.int i) m [t] = some (match t with | .int => true | _ => false) := by
  cases t <;> first | rfl | exact absurd rfl (h _)
@[simp] theorem isTy_bl (t : Ty) (h : ∀ C, t ≠ .cls C) : isTys (.bl b) m [t] = some (match t with | .int => true | .bool => true | _ => false) := by
  cases t <;> first | rfl | exact absurd rfl (h _)
@[simp] theorem isTy_non (t : Ty) (h : ∀ C, t ≠ .cls C) : isTys .non m [t] = some false := by
  cases t <;> first | rfl | exact absurd rfl (h _)
@[simp] theorem isTy_str (t : Ty) (h : ∀ C, t ≠ .cls C) : isTys (.str x) m [t] = some (match t with | .str => true | _ => false) := by
  cases t <;> first | rfl | exact absurd rfl (h _)
@[simp] theorem isTy_tup (t : Ty) (h : ∀ C, t ≠ .cls C) : isTys (.tup xs) m [t] = some (match t with | .tuple => true | _ => false) := by
  cases t <;> first | rfl | exact absurd rfl (h _)
@[simp] theorem isTy_lst (t : Ty) (h : ∀ C, t ≠ .cls C) : isTys (.lst xs) m [t] = some (match t with | .list => true | _ => false) := by
  cases t <;> first | rfl | exact absurd rfl (h _)
@[simp] theorem len_tup : bltD .len [.tup xs] m = some (.int xs.length) := rfl
@[simp] theorem len_lst : bltD .len [.lst xs] m = some (.int xs.length) := rfl
@[simp] theorem len_fz : bltD .len [.fz xs] m = some (.int xs.length) := rfl
theorem len_str (h : x.length ≤ sizeLine) : bltD .len [.str x] m = some (.int x.length) := by
  simp [bltD, lenB, lenD, h]
@[simp] theorem int_int : bltD .int_ [.int i] m = some (.int i) := rfl
@[simp] theorem int_bl : bltD .int_ [.bl b] m = some (.int (if b then 1 else 0)) := rfl
@[simp] theorem abs_int : bltD .abs [.int i] m = some (.int (if i < 0 then -i else i)) := rfl
@[simp] theorem list_lst : bltD .list [.lst xs] m = some (.lst xs) := rfl
@[simp] theorem list_tup : bltD .list [.tup xs] m = some (.lst xs) := rfl
@[simp] theorem list_fz : bltD .list [.fz xs] m = some (.lst xs) := rfl
@[simp] theorem tuple_lst : bltD .tuple [.lst xs] m = some (.tup xs) := rfl
@[simp] theorem tuple_tup : bltD .tuple [.tup xs] m = some (.tup xs) := rfl
@[simp] theorem max2_int : bltD .max2 [.int i, .int j] m = some (.int (if j > i then j else i)) := rfl
@[simp] theorem min2_int : bltD .min2 [.int i, .int j] m = some (.int (if j < i then j else i)) := rfl
theorem blsD_map : ∀ bs : List Bool, blsD (bs.map D.bl) = some bs
  | [] => rfl
  | b :: bs => by rw [List.map_cons, blsD, blsD_map bs]; rfl
theorem all_map (bs : List Bool) : bltD .all [.lst (bs.map D.bl)] m = some (.bl (bs.all id)) := by
  show (blsD _).map _ = _
  rw [blsD_map]
  rfl
theorem any_map (bs : List Bool) : bltD .any [.lst (bs.map D.bl)] m = some (.bl (bs.any id)) := by
  show (blsD _).map _ = _
  rw [blsD_map]
  rfl
theorem intsD_map : ∀ bs : List Int, intsD (bs.map D.int) = some bs
  | [] => rfl
  | b :: bs => by rw [List.map_cons, intsD, intsD_map bs]; rfl
theorem sum_map (bs : List Int) : bltD .sum [.lst (bs.map D.int)] m = some (.int bs.sum) := by
  show (intsD _).map _ = _
  rw [intsD_map]
  rfl
theorem atI0 : atI (d :: xs) 0 = some d := by
  unfold atI ixN
  rw [if_pos (by omega), if_pos (by simp)]
  rfl
theorem atI1 : atI (d :: e :: xs) 1 = some e := by
  unfold atI ixN
  rw [if_pos (by omega), if_pos (by simp; omega)]
  rfl
@[simp] theorem idx_tup0 : idxD (.tup (d :: xs)) (.int 0) m = some d := atI0 xs d
@[simp] theorem idx_tup1 : idxD (.tup (d :: e :: xs)) (.int 1) m = some e := atI1 xs d e
@[simp] theorem idx_lst0 : idxD (.lst (d :: xs)) (.int 0) m = some d := atI0 xs d
@[simp] theorem idx_lst1 : idxD (.lst (d :: e :: xs)) (.int 1) m = some e := idx_tup1 xs d e m
theorem atI_nat (h : n < xs.length) : atI xs (n : Int) = some xs[n] := by
  unfold atI ixN
  rw [if_pos (by omega), if_pos (by omega)]
  simp [h]
theorem idx_lst_nat (h : n < xs.length) : idxD (.lst xs) (.int (n : Int)) m = some xs[n] := atI_nat xs n h
theorem idx_tup_nat (h : n < xs.length) : idxD (.tup xs) (.int (n : Int)) m = some xs[n] := atI_nat xs n h
@[simp] theorem items_lst : itemsD (.lst xs) = some xs := rfl
@[simp] theorem items_fz : itemsD (.fz xs) = some xs := rfl
@[simp] theorem items_tup : itemsD (.tup xs) = some xs := rfl
@[simp] theorem zip_tup : zipD (.tup xs) (.tup ys) = some ((xs.zip ys).map pairD) := rfl
@[simp] theorem zip_lst : zipD (.lst xs) (.lst ys) = some ((xs.zip ys).map pairD) := rfl
end
theorem tst_ok {f : Fr → MH → R D} {fr : Fr} {m m1 : MH} {d : D} {b : Bool} (h : f fr m = .ok d m1) (t : truD d = some b) : tst f fr m = .ok b m1 := by
  unfold tst
  rw [h]
  simp only [R.ok_bind, t]
end Mp
end
section
set_option Elab.async false
set_option linter.all false
set_option maxRecDepth 100000
set_option maxHeartbeats 1000000
/-! MpPl: plain data are equal to themselves. -/
namespace Mp
open PySem PySem.Spec PyProof.Rows L2
/-- plain data, so deep -/
def Pl : Nat → D → Prop
  | _, .non => True
  | _, .bl _ => True
  | _, .int _ => True
  | _, .str x => PyData.strOk x = true
  | k + 1, .tup xs => ∀ x ∈ xs, Pl k x
  | k + 1, .lst xs => ∀ x ∈ xs, Pl k x
  | k + 1, .fz xs => ∀ x ∈ xs, Pl k x
  | _, _ => False
def PdOk (k : Nat) (p : PyData) : Prop := p.canLay0 = true ∧ p.depth ≤ k ∧ PyData.eqv p p = true
theorem pdAll_ok (k : Nat) (h : ∀ d, Pl k d → ∃ p, pdOf d = some p ∧ PdOk k p) : ∀ ds : List D, (∀ d ∈ ds, Pl k d) → ∃ ps, pdAll ds = some ps ∧ PyData.canLayAll0 ps = true ∧ PyData.depthAll ps ≤ k ∧ PyData.eqvAll ps ps = true
  | [], _ => ⟨[], rfl, rfl, Nat.zero_le _, by unfold PyData.eqvAll; rfl⟩
  | d :: ds, hd => by
    obtain ⟨p, e1, p1, p2, p3⟩ := h d (hd d (List.mem_cons_self ..))
    obtain ⟨ps, e2, q1, q2, q3⟩ := pdAll_ok k h ds fun x hx => hd x (List.mem_cons_of_mem _ hx)
    refine ⟨p :: ps, by rw [pdAll, e1, e2], ?_, ?_, ?_⟩
    · rw [PyData.canLayAll0, p1, q1]; rfl
    · rw [PyData.depthAll]; omega
    · unfold PyData.eqvAll; rw [p3, q3]; rfl
theorem pd_ok : ∀ (k : Nat) (d : D), Pl k d → ∃ p, pdOf d = some p ∧ PdOk k p
  | k, .non, _ => ⟨.none, rfl, rfl, Nat.zero_le _, by unfold PyData.eqv; rfl⟩
  | k, .bl b, _ => ⟨.bool b, rfl, rfl, Nat.zero_le _, by unfold PyData.eqv; simp⟩
  | k, .int b, _ => ⟨.int b, rfl, rfl, Nat.zero_le _, by unfold PyData.eqv; simp⟩
  | k, .str x, h => ⟨.str x, rfl, by unfold Pl at h; exact h, Nat.zero_le _, by unfold PyData.eqv; simp⟩
  | k + 1, .tup xs, h => by
    obtain ⟨ps, e, h1, h2, h3⟩ := pdAll_ok k (pd_ok k) xs h
    exact ⟨.tuple ps, by rw [pdOf, e]; rfl, h1, by rw [PyData.depth]; omega, by unfold PyData.eqv; exact h3⟩
  | k + 1, .lst xs, h => by
    obtain ⟨ps, e, h1, h2, h3⟩ := pdAll_ok k (pd_ok k) xs h
    exact ⟨.list ps, by rw [pdOf, e]; rfl, h1, by rw [PyData.depth]; omega, by unfold PyData.eqv; exact h3⟩
  | k + 1, .fz xs, h => by
    obtain ⟨ps, e, h1, h2, h3⟩ := pdAll_ok k (pd_ok k) xs h
    exact ⟨.list ps, by rw [pdOf, e]; rfl, h1, by rw [PyData.depth]; omega, by unfold PyData.eqv; exact h3⟩
  | 0, .tup _, h => h.elim
  | 0, .lst _, h => h.elim
  | 0, .fz _, h => h.elim
  | 0, .dct _ _, h => h.elim
  | 0, .ins _ _ _, h => h.elim
  | 0, .ref _, h => h.elim
  | 0, .cls _, h => h.elim
  | _ + 1, .cls _, h => h.elim
  | _ + 1, .dct _ _, h => h.elim
  | _ + 1, .ins _ _ _, h => h.elim
  | _ + 1, .ref _, h => h.elim
theorem shaped_of {k : Nat} {p : PyData} (hk : k ≤ 64) (h : PdOk k p) : SeqAt.shaped p = true := by
  unfold SeqAt.shaped
  rw [h.1, Bool.true_and]
  exact decide_eq_true (Nat.le_trans h.2.1 hk)
/-- Python's == on plain data, as a truth value -/
def eqv (a b : D) : Bool := match pdOf a, pdOf b with
  | some p, some q => PyData.eqv p q
  | _, _ => false
theorem eqDeep_pl {k : Nat} (hk : k ≤ 64) {a b : D} (ha : Pl k a) (hb : Pl k b) : eqDeep a b = some (eqv a b) := by
  obtain ⟨p, e1, p1⟩ := pd_ok k a ha
  obtain ⟨q, e2, q1⟩ := pd_ok k b hb
  unfold eqDeep eqv
  rw [e1, e2]
  dsimp only
  rw [shaped_of hk p1, shaped_of hk q1]
  rfl
theorem eqv_refl {k : Nat} {a : D} (ha : Pl k a) : eqv a a = true := by
  obtain ⟨p, e1, p1⟩ := pd_ok k a ha
  unfold eqv
  rw [e1]
  exact p1.2.2
theorem eqS_eqv {a b : D} {z : Bool} (h : eqS a b = some z) : eqv a b = z := by
  unfold eqS at h
  split at h <;> cases h <;> (unfold eqv pdOf; simp only [PyData.eqv]) <;> (rename_i i j; by_cases e : i = j <;> simp [e])
theorem eqD_ok {k : Nat} (hk : k ≤ 64) {a b : D} (ha : Pl k a) (hb : Pl k b) : eqD a b = some (eqv a b) := by
  unfold eqD
  cases e : eqS a b with
  | none => exact eqDeep_pl hk ha hb
  | some z => rw [eqS_eqv e]
theorem cmp_eq {k : Nat} (hk : k ≤ 64) {a b : D} (ha : Pl k a) (hb : Pl k b) : cmpD .eq a b = some (.bl (eqv a b)) := by
  have e : cmpD .eq a b = (eqD a b).map .bl := rfl
  rw [e, eqD_ok hk ha hb]
  rfl
theorem cmp_ne {k : Nat} (hk : k ≤ 64) {a b : D} (ha : Pl k a) (hb : Pl k b) : cmpD .ne a b = some (.bl (!eqv a b)) := by
  have e : cmpD .ne a b = (eqD a b).map fun z => .bl (!z) := rfl
  rw [e, eqD_ok hk ha hb]
  rfl
theorem any_self {p : PyData} : ∀ {ps : List PyData}, p ∈ ps → PyData.eqv p p = true → (ps.any fun z => PyData.eqv z p) = true := fun h e => List.any_eq_true.mpr ⟨p, h, e⟩
theorem pdAll_mem {x : D} {p : PyData} (e : pdOf x = some p) : ∀ {ys : List D} {ps : List PyData}, pdAll ys = some ps → x ∈ ys → p ∈ ps
  | [], _, _, h => nomatch h
  | y :: ys, ps, e2, h => by
    unfold pdAll at e2
    split at e2
    · rename_i d ds h1 h2
      cases e2
      rcases List.mem_cons.mp h with rfl | h
      · rw [e] at h1; cases h1; exact List.mem_cons_self ..
      · exact List.mem_cons_of_mem _ (pdAll_mem e h2 h)
    · cases e2
/-- a thing of a list is in it (no flat one) -/
theorem mem_self {k : Nat} (hk : k < 64) {x : D} {ys : List D} (hx : flatD x = false) (hy : ∀ y ∈ ys, Pl k y) (h : x ∈ ys) : memD x (.lst ys) = some true := by
  obtain ⟨p, e1, p1⟩ := pd_ok k x (hy x h)
  obtain ⟨ps, e2, q1, q2, q3⟩ := pdAll_ok k (pd_ok k) ys hy
  have s1 := shaped_of (Nat.le_of_lt hk) p1
  have s2 : SeqAt.shaped (.list ps) = true := shaped_of (k := k + 1) hk ⟨q1, by rw [PyData.depth]; omega, by unfold PyData.eqv; exact q3⟩
  have f : memF x ys = none := by unfold memF; rw [hx]; rfl
  show (match memF x ys with | some b => some b | none => memDeep x ys) = _
  rw [f]
  dsimp only
  unfold memDeep
  rw [e1, e2]
  dsimp only
  rw [s1, s2]
  exact congrArg some (any_self (pdAll_mem e1 e2 h) p1.2.2)
theorem cmp_nmem_self {k : Nat} (hk : k < 64) {x : D} {ys : List D} (hx : flatD x = false) (hy : ∀ y ∈ ys, Pl k y) (h : x ∈ ys) : cmpD .nmem x (.lst ys) = some (.bl false) := by
  have e : cmpD .nmem x (.lst ys) = (memD x (.lst ys)).map fun z => .bl (!z) := rfl
  rw [e, mem_self hk hx hy h]
  rfl
end Mp
end
section
set_option Elab.async false
set_option linter.all false
set_option maxRecDepth 100000
set_option maxHeartbeats 4000000
/-! MpPl2: ints, texts, None, tuples and lists of such: == is equality. -/
namespace Mp
open PySem PySem.Spec PyProof.Rows L2
def Qn : Nat → D → Prop
  | _, .non => True
  | _, .int _ => True
  | _, .str x => PyData.strOk x = true
  | k + 1, .tup xs => ∀ x ∈ xs, Qn k x
  | k + 1, .lst xs => ∀ x ∈ xs, Qn k x
  | _, _ => False
theorem Qn.pl : ∀ {k : Nat} {d : D}, Qn k d → Pl k d
  | _, .non, _ => by unfold Pl; trivial
  | _, .int _, _ => by unfold Pl; trivial
  | _, .str x, h => by unfold Qn at h; unfold Pl; exact h
  | k + 1, .tup xs, h => by
    unfold Qn at h; unfold Pl
    exact fun x hx => Qn.pl (h x hx)
  | k + 1, .lst xs, h => by
    unfold Qn at h; unfold Pl
    exact fun x hx => Qn.pl (h x hx)
  | 0, .tup _, h => h.elim
  | 0, .lst _, h => h.elim
  | 0, .fz _, h => h.elim
  | 0, .bl _, h => h.elim
  | 0, .dct _ _, h => h.elim
  | 0, .ins _ _ _, h => h.elim
  | 0, .ref _, h => h.elim
  | 0, .cls _, h => h.elim
  | _ + 1, .cls _, h => h.elim
  | _ + 1, .fz _, h => h.elim
  | _ + 1, .bl _, h => h.elim
  | _ + 1, .dct _ _, h => h.elim
  | _ + 1, .ins _ _ _, h => h.elim
  | _ + 1, .ref _, h => h.elim
theorem pdAll_iff {k : Nat} (ih : ∀ a b, Qn k a → Qn k b → ∃ p q, pdOf a = some p ∧ pdOf b = some q ∧ (PyData.eqv p q = true ↔ a = b)) : ∀ xs ys : List D, (∀ x ∈ xs, Qn k x) → (∀ y ∈ ys, Qn k y) → ∃ ps qs, pdAll xs = some ps ∧ pdAll ys = some qs ∧ (PyData.eqvAll ps qs = true ↔ xs = ys)
  | [], [], _, _ => ⟨[], [], rfl, rfl, by unfold PyData.eqvAll; simp⟩
  | [], y :: ys, hx, hy => by
    obtain ⟨_, q, _, e2, _⟩ := ih y y (hy y (List.mem_cons_self ..)) (hy y (List.mem_cons_self ..))
    obtain ⟨_, qs, _, e4, _⟩ := pdAll_iff ih [] ys hx fun z hz => hy z (List.mem_cons_of_mem _ hz)
    exact ⟨[], q :: qs, rfl, by rw [pdAll, e2, e4], by unfold PyData.eqvAll; simp⟩
  | x :: xs, [], hx, hy => by
    obtain ⟨p, _, e2, _, _⟩ := ih x x (hx x (List.mem_cons_self ..)) (hx x (List.mem_cons_self ..))
    obtain ⟨ps, _, e4, _, _⟩ := pdAll_iff ih xs [] (fun z hz => hx z (List.mem_cons_of_mem _ hz)) hy
    exact ⟨p :: ps, [], by rw [pdAll, e2, e4], rfl, by unfold PyData.eqvAll; simp⟩
  | x :: xs, y :: ys, hx, hy => by
    obtain ⟨p, q, e1, e2, e3⟩ := ih x y (hx x (List.mem_cons_self ..)) (hy y (List.mem_cons_self ..))
    obtain ⟨ps, qs, e4, e5, e6⟩ := pdAll_iff ih xs ys (fun z hz => hx z (List.mem_cons_of_mem _ hz)) fun z hz => hy z (List.mem_cons_of_mem _ hz)
    refine ⟨p :: ps, q :: qs, by rw [pdAll, e1, e4], by rw [pdAll, e2, e5], ?_⟩
    unfold PyData.eqvAll
    rw [Bool.and_eq_true, e3, e6, List.cons.injEq]
theorem pd_iff : ∀ (k : Nat) (a b : D), Qn k a → Qn k b → ∃ p q, pdOf a = some p ∧ pdOf b = some q ∧ (PyData.eqv p q = true ↔ a = b) := by
  have one : ∀ (k : Nat), (∀ j, j + 1 = k → ∀ a b, Qn j a → Qn j b → ∃ p q, pdOf a = some p ∧ pdOf b = some q ∧ (PyData.eqv p q = true ↔ a = b)) → ∀ a : D, Qn k a → (∃ p, pdOf a = some p) := by
    intro k ih a ha
    cases a with
    | non => exact ⟨_, rfl⟩
    | int i => exact ⟨_, rfl⟩
    | str x => exact ⟨_, rfl⟩
    | tup xs =>
      cases k with
      | zero => exact ha.elim
      | succ k =>
        obtain ⟨ps, _, e, _, _⟩ := pdAll_iff (ih k rfl) xs [] ha (fun _ h => nomatch h)
        exact ⟨_, by rw [pdOf, e]; rfl⟩
    | lst xs =>
      cases k with
      | zero => exact ha.elim
      | succ k =>
        obtain ⟨ps, _, e, _, _⟩ := pdAll_iff (ih k rfl) xs [] ha (fun _ h => nomatch h)
        exact ⟨_, by rw [pdOf, e]; rfl⟩
    | _ => cases k <;> exact ha.elim
  intro k
  induction k with
  | zero =>
    intro a b ha hb
    cases a with
    | non => cases b <;> first | exact hb.elim | exact ⟨_, _, rfl, rfl, by unfold PyData.eqv; simp⟩
    | int i => cases b <;> first | exact hb.elim | exact ⟨_, _, rfl, rfl, by unfold PyData.eqv; simp⟩
    | str x => cases b <;> first | exact hb.elim | exact ⟨_, _, rfl, rfl, by unfold PyData.eqv; simp⟩
    | _ => exact ha.elim
  | succ k ih =>
    intro a b ha hb
    have ihx : ∀ j, j + 1 = k + 1 → ∀ a b, Qn j a → Qn j b → ∃ p q, pdOf a = some p ∧ pdOf b = some q ∧ (PyData.eqv p q = true ↔ a = b) := fun j e => by
      have : j = k := by omega
      subst this
      exact ih
    obtain ⟨p, ep⟩ := one (k + 1) ihx a ha
    obtain ⟨q, eq⟩ := one (k + 1) ihx b hb
    cases a with
    | tup xs =>
      cases b with
      | tup ys =>
        obtain ⟨ps, qs, e1, e2, e3⟩ := pdAll_iff ih xs ys ha hb
        refine ⟨.tuple ps, .tuple qs, by rw [pdOf, e1]; rfl, by rw [pdOf, e2]; rfl, ?_⟩
        unfold PyData.eqv
        rw [e3, Mp.D.tup.injEq]
      | _ =>
        first
        | exact hb.elim
        | (refine ⟨p, q, ep, eq, ?_⟩
           unfold pdOf at ep eq
           obtain ⟨ps, _, rfl⟩ := Option.map_eq_some_iff.mp ep
           first | (cases eq; unfold PyData.eqv; simp) | (obtain ⟨qs, _, rfl⟩ := Option.map_eq_some_iff.mp eq; unfold PyData.eqv; simp))
    | lst xs =>
      cases b with
      | lst ys =>
        obtain ⟨ps, qs, e1, e2, e3⟩ := pdAll_iff ih xs ys ha hb
        refine ⟨.list ps, .list qs, by rw [pdOf, e1]; rfl, by rw [pdOf, e2]; rfl, ?_⟩
        unfold PyData.eqv
        rw [e3, Mp.D.lst.injEq]
      | _ =>
        first
        | exact hb.elim
        | (refine ⟨p, q, ep, eq, ?_⟩
           unfold pdOf at ep eq
           obtain ⟨ps, _, rfl⟩ := Option.map_eq_some_iff.mp ep
           first | (cases eq; unfold PyData.eqv; simp) | (obtain ⟨qs, _, rfl⟩ := Option.map_eq_some_iff.mp eq; unfold PyData.eqv; simp))
    | non =>
      cases b with
      | _ =>
        first
        | exact hb.elim
        | (refine ⟨p, q, ep, eq, ?_⟩
           unfold pdOf at ep eq
           cases ep
           first | (cases eq; unfold PyData.eqv; simp; done) | (obtain ⟨qs, _, rfl⟩ := Option.map_eq_some_iff.mp eq; unfold PyData.eqv; simp))
    | int i =>
      cases b with
      | _ =>
        first
        | exact hb.elim
        | (refine ⟨p, q, ep, eq, ?_⟩
           unfold pdOf at ep eq
           cases ep
           first | (cases eq; unfold PyData.eqv; simp; done) | (obtain ⟨qs, _, rfl⟩ := Option.map_eq_some_iff.mp eq; unfold PyData.eqv; simp))
    | str x =>
      cases b with
      | _ =>
        first
        | exact hb.elim
        | (refine ⟨p, q, ep, eq, ?_⟩
           unfold pdOf at ep eq
           cases ep
           first | (cases eq; unfold PyData.eqv; simp; done) | (obtain ⟨qs, _, rfl⟩ := Option.map_eq_some_iff.mp eq; unfold PyData.eqv; simp))
    | _ => exact ha.elim
theorem eqv_iff {k : Nat} {a b : D} (ha : Qn k a) (hb : Qn k b) : eqv a b = true ↔ a = b := by
  obtain ⟨p, q, e1, e2, e3⟩ := pd_iff k a b ha hb
  unfold eqv
  rw [e1, e2]
  exact e3
open Classical in
theorem cmp_eq_Q {k : Nat} (hk : k ≤ 64) {a b : D} (ha : Qn k a) (hb : Qn k b) : cmpD .eq a b = some (.bl (decide (a = b))) := by
  rw [cmp_eq hk ha.pl hb.pl]
  congr 2
  rw [Bool.eq_iff_iff, decide_eq_true_eq]
  exact eqv_iff ha hb
open Classical in
theorem cmp_ne_Q {k : Nat} (hk : k ≤ 64) {a b : D} (ha : Qn k a) (hb : Qn k b) : cmpD .ne a b = some (.bl (!decide (a = b))) := by
  rw [cmp_ne hk ha.pl hb.pl]
  congr 3
  rw [Bool.eq_iff_iff, decide_eq_true_eq]
  exact eqv_iff ha hb
end Mp
end
section
set_option Elab.async false
set_option linter.all false
set_option maxRecDepth 100000
set_option maxHeartbeats 1000000
/-! MpPl3: `in` is membership on such things. -/
namespace Mp
open PySem PySem.Spec PyProof.Rows L2
theorem eqF_iff {k : Nat} {x y : D} (hx : Qn k x) (hy : Qn k y) (fx : flatD x = true) (fy : flatD y = true) : eqF y x = true ↔ x = y := by
  cases x <;> cases y <;> first
    | (cases fx; done)
    | (cases fy; done)
    | (cases k <;> first | exact hx.elim | exact hy.elim)
    | (unfold eqF; simp; done)
    | (unfold eqF; simp; exact eq_comm)
theorem any_iff {k : Nat} {x : D} {p : PyData} (hx : Qn k x) (e : pdOf x = some p) : ∀ (ys : List D), (∀ y ∈ ys, Qn k y) → ∃ ps, pdAll ys = some ps ∧ ((ps.any fun z => PyData.eqv z p) = true ↔ x ∈ ys)
  | [], _ => ⟨[], rfl, by simp⟩
  | y :: ys, hy => by
    obtain ⟨q, p', e1, e2, e3⟩ := pd_iff k y x (hy y (List.mem_cons_self ..)) hx
    rw [e] at e2
    cases e2
    obtain ⟨ps, e4, e5⟩ := any_iff hx e ys fun z hz => hy z (List.mem_cons_of_mem _ hz)
    refine ⟨q :: ps, by rw [pdAll, e1, e4], ?_⟩
    rw [List.any_cons, Bool.or_eq_true, e3, e5, List.mem_cons]
    exact or_congr_left ⟨Eq.symm, Eq.symm⟩
open Classical in
theorem memG {k : Nat} (hk : k < 64) {x : D} {ys : List D} (hx : Qn k x) (hy : ∀ y ∈ ys, Qn k y) : (match memF x ys with | some b => some b | none => memDeep x ys) = some (decide (x ∈ ys)) := by
  cases hf : memF x ys with
  | some b =>
    unfold memF at hf
    split at hf
    · rename_i h
      rw [Bool.and_eq_true] at h
      cases hf
      dsimp only
      congr 1
      rw [Bool.eq_iff_iff, decide_eq_true_eq, List.any_eq_true]
      constructor
      · rintro ⟨y, hm, e⟩
        rw [(eqF_iff hx (hy y hm) h.1 (List.all_eq_true.mp h.2 y hm)).mp e]
        exact hm
      · exact fun hm => ⟨x, hm, (eqF_iff hx hx h.1 h.1).mpr rfl⟩
    · cases hf
  | none =>
    dsimp only
    obtain ⟨p, e1, p1⟩ := pd_ok k x hx.pl
    obtain ⟨ps, e2, q1, q2, q3⟩ := pdAll_ok k (pd_ok k) ys fun y h => (hy y h).pl
    have s1 := shaped_of (Nat.le_of_lt hk) p1
    have s2 : SeqAt.shaped (.list ps) = true := shaped_of (k := k + 1) hk ⟨q1, by rw [PyData.depth]; omega, by unfold PyData.eqv; exact q3⟩
    obtain ⟨ps', e3, e4⟩ := any_iff hx e1 ys hy
    rw [e2] at e3
    cases e3
    unfold memDeep
    rw [e1, e2]
    dsimp only
    rw [s1, s2]
    show some _ = _
    congr 1
    rw [Bool.eq_iff_iff, e4, decide_eq_true_eq]
open Classical in
theorem mem_tup {k : Nat} (hk : k < 64) {x : D} {ys : List D} (hx : Qn k x) (hy : ∀ y ∈ ys, Qn k y) : cmpD .mem x (.tup ys) = some (.bl (decide (x ∈ ys))) := by
  have e : cmpD .mem x (.tup ys) = (match memF x ys with | some b => some b | none => memDeep x ys).map .bl := rfl
  rw [e, memG hk hx hy]
  rfl
open Classical in
theorem mem_lst {k : Nat} (hk : k < 64) {x : D} {ys : List D} (hx : Qn k x) (hy : ∀ y ∈ ys, Qn k y) : cmpD .mem x (.lst ys) = some (.bl (decide (x ∈ ys))) := by
  have e : cmpD .mem x (.lst ys) = (match memF x ys with | some b => some b | none => memDeep x ys).map .bl := rfl
  rw [e, memG hk hx hy]
  rfl
open Classical in
theorem mem_tup_no {k : Nat} (hk : k < 64) {x : D} {ys : List D} (hx : Qn k x) (hy : ∀ y ∈ ys, Qn k y) (h : x ∉ ys) : cmpD .mem x (.tup ys) = some (.bl false) := by rw [mem_tup hk hx hy, decide_eq_false h]
open Classical in
theorem mem_lst_no {k : Nat} (hk : k < 64) {x : D} {ys : List D} (hx : Qn k x) (hy : ∀ y ∈ ys, Qn k y) (h : x ∉ ys) : cmpD .mem x (.lst ys) = some (.bl false) := by rw [mem_lst hk hx hy, decide_eq_false h]
open Classical in
theorem mem_tup_yes {k : Nat} (hk : k < 64) {x : D} {ys : List D} (hx : Qn k x) (hy : ∀ y ∈ ys, Qn k y) (h : x ∈ ys) : cmpD .mem x (.tup ys) = some (.bl true) := by rw [mem_tup hk hx hy, decide_eq_true h]
open Classical in
theorem mem_lst_yes {k : Nat} (hk : k < 64) {x : D} {ys : List D} (hx : Qn k x) (hy : ∀ y ∈ ys, Qn k y) (h : x ∈ ys) : cmpD .mem x (.lst ys) = some (.bl true) := by rw [mem_lst hk hx hy, decide_eq_true h]
end Mp
end
section
set_option Elab.async false
set_option linter.all false
set_option maxRecDepth 100000
set_option maxHeartbeats 1000000
/-! MpCut: slices. -/
namespace Mp
open PySem PySem.Spec PyProof.Rows L2
theorem sIx_nat (n d i : Nat) : HT.sIx n d (some (i : Int)) = min i n := by
  unfold HT.sIx
  dsimp only
  rw [if_neg (by omega)]
  rfl
theorem sIx_none (n d : Nat) : HT.sIx n d none = d := rfl
theorem cut_from (xs : List D) (i : Nat) : cutD xs (some (i : Int)) none = xs.drop i := by
  unfold cutD
  rw [sIx_nat, sIx_none]
  by_cases h : i ≤ xs.length
  · rw [Nat.min_eq_left h]
    exact List.take_of_length_le (by rw [List.length_drop]; exact Nat.le_refl _)
  · rw [Nat.min_eq_right (by omega), Nat.sub_self, List.take_zero, List.drop_eq_nil_of_le (by omega)]
theorem cut_to (xs : List D) (j : Nat) : cutD xs none (some (j : Int)) = xs.take j := by
  unfold cutD
  rw [sIx_nat, sIx_none, List.drop_zero, Nat.sub_zero, ← List.take_take, List.take_length]
theorem cut_to' (xs : List D) (j : Nat) : cutD xs (some 0) (some (j : Int)) = xs.take j := cut_to xs j
end Mp
end
section
set_option Elab.async false
set_option linter.all false
set_option maxRecDepth 100000
set_option maxHeartbeats 1000000
/-! MpAlike: a law's own comparison: equal data are alike. -/
namespace Mp
open PySem PySem.Spec PyProof.Rows L2
def mAlike (n : Nat) : List St := [.ife (.orv (.isN (.loc 1)) (.isN (.loc 0))) [.ret (.andv (.isN (.loc 1)) (.isN (.loc 0)))] [], .ife (.orv (.isi (.loc 1) [.bool]) (.isi (.loc 0) [.bool])) [.ret (.andv (.isi (.loc 1) [.bool]) (.andv (.isi (.loc 0) [.bool]) (.cmp .eq (.loc 0) (.loc 1))))] [], .ife (.orv (.isi (.loc 1) [.str]) (.isi (.loc 0) [.str])) [.ret (.andv (.isi (.loc 1) [.str]) (.andv (.isi (.loc 0) [.str]) (.cmp .eq (.loc 0) (.loc 1))))] [], .ife (.orv (.isi (.loc 1) [.int]) (.isi (.loc 0) [.int])) [.ret (.andv (.isi (.loc 1) [.int]) (.andv (.isi (.loc 0) [.int]) (.cmp .eq (.loc 0) (.loc 1))))] [], .ife (.cmp .ne (.isi (.loc 1) [.tuple]) (.isi (.loc 0) [.tuple])) [.ret (.k (.bl false))] [], .ife (.cmp .ne (.isi (.loc 1) [.list]) (.isi (.loc 0) [.list])) [.ret (.k (.bl false))] [], .ret (.andv (.cmp .eq (.blt .len [(.loc 0)]) (.blt .len [(.loc 1)])) (.blt .all [(.comp [2, 3] (.tup [.nm 2, .nm 3]) (.zip (.loc 0) (.loc 1)) [] (.call n [(.loc 2), (.loc 3)]))]))]
/-- data that the comparison goes through, so deep -/
def Alk : Nat → D → Prop
  | 0, _ => False
  | _ + 1, .non => True
  | _ + 1, .bl _ => True
  | _ + 1, .int _ => True
  | _ + 1, .str _ => True
  | k + 1, .tup xs => xs.length ≤ sizeLine ∧ ∀ x ∈ xs, Alk k x
  | k + 1, .lst xs => xs.length ≤ sizeLine ∧ ∀ x ∈ xs, Alk k x
  | _ + 1, _ => False
theorem Alk.up : ∀ {k : Nat} {d : D}, Alk k d → Alk (k + 1) d
  | 0, _, h => h.elim
  | _ + 1, .non, _ => True.intro
  | _ + 1, .bl _, _ => True.intro
  | _ + 1, .int _, _ => True.intro
  | _ + 1, .str _, _ => True.intro
  | k + 1, .tup xs, h => ⟨h.1, fun x hx => Alk.up (h.2 x hx)⟩
  | k + 1, .lst xs, h => ⟨h.1, fun x hx => Alk.up (h.2 x hx)⟩
  | _ + 1, .fz _, h => h.elim
  | _ + 1, .dct _ _, h => h.elim
  | _ + 1, .ins _ _ _, h => h.elim
  | _ + 1, .ref _, h => h.elim
section
variable (G : Gt) (mkx : Nat → List D → Option Exn) (n : Nat)
theorem alike_comp (P : D → Prop) (h : ∀ d m, P d → G.fn n [d, d] m = .ok (.bl true) m) (f0 f1 f2 f3 : Option Sl) (m : MH) : ∀ (xs : List D) (acc : List D), (∀ x ∈ xs, P x) → acc.length + xs.length ≤ sizeLine →
    compGo [2, 3] (.tup [.nm 2, .nm 3]) [] (ev G (.call n [(.loc 2), (.loc 3)])) [f0, f1, f2, f3] ((xs.zip xs).map pairD) acc m = .ok (acc ++ List.replicate xs.length (.bl true)) m
  | [], acc, _, _ => by simp [compGo]
  | x :: xs, acc, hx, hl => by
    rw [List.zip_cons_cons, List.map_cons]
    have hl1 : acc.length < sizeLine := by simp at hl; omega
    have ih := alike_comp P h f0 f1 f2 f3 m xs (acc ++ [.bl true]) (fun y hy => hx y (List.mem_cons_of_mem _ hy)) (by simp at hl ⊢; omega)
    unfold compGo
    have t : tgD (.tup [.nm 2, .nm 3]) (pairD (x, x)) (wipeF [f0, f1, f2, f3] [2, 3]) = some [f0, f1, some (.val x), some (.val x)] := by
      simp [pairD, wipeF]
    rw [t]
    have hx0 := h x m (hx x (List.mem_cons_self ..))
    simp only [condGo, R.ok_bind, ev_call, evs_cons, evs_nil, ev_loc_succ, ev_loc_zero, hx0, isOk, hl1, if_true]
    rw [ih]
    simp [List.replicate_succ]
theorem alike_all (k : Nat) (m : MH) : bltD .all [.lst (List.replicate k (.bl true))] m = some (.bl true) := by
  have : ∀ k, blsD (List.replicate k (.bl true)) = some (List.replicate k true) := fun k => by
    induction k with
    | zero => rfl
    | succ k ih => rw [List.replicate_succ, blsD, ih]; rfl
  show (blsD (List.replicate k (.bl true))).map _ = _
  rw [this]
  simp
theorem alike_step (k : Nat) (h : ∀ d m, Alk k d → G.fn n [d, d] m = .ok (.bl true) m) (d : D) (m : MH) (hd : Alk (k + 1) d) : runF G mkx 2 4 (mAlike n) [d, d] m = .ok (.bl true) m := by
  refine runF_rt rfl ?_
  show exs G mkx (mAlike n) [some (.val d), some (.val d), none, none] m = _
  cases d with
  | non => simp [mAlike, tst]
  | bl b => simp [mAlike, tst]
  | int b => simp [mAlike, tst]
  | str b => simp [mAlike, tst]
  | tup xs =>
    have e := alike_comp G n (Alk k) h (some (.val (.tup xs))) (some (.val (.tup xs))) none none m xs [] hd.2 (by simpa using hd.1)
    simp [mAlike, tst, e, alike_all]
  | lst xs =>
    have e := alike_comp G n (Alk k) h (some (.val (.lst xs))) (some (.val (.lst xs))) none none m xs [] hd.2 (by simpa using hd.1)
    simp [mAlike, tst, e, alike_all]
  | fz _ => exact hd.elim
  | dct _ _ => exact hd.elim
  | ins _ _ _ => exact hd.elim
  | ref _ => exact hd.elim
  | cls _ => exact hd.elim
end
end Mp
end
section
set_option Elab.async false
set_option linter.all false
set_option maxRecDepth 100000
set_option maxHeartbeats 1000000
/-! MpFn: one meaning for all defs of a program, by a bound on the depth of calls; what every law's joining needs. -/
namespace Mp
open PySem PySem.Spec PyProof.Rows L2
structure Pr where
  np : Nat
  st : Bool
  nl : Nat
  b : List St
  ini : Option Nat := none
structure Wl where
  mkx : Nat → List D → Option Exn
  why : Exn → Option D
  cst : Nat → D
  bnd : Nat → List D → List D → Option (List D)
  body : Nat → Pr
  ci : Ci := ⟨fun _ _ => none, fun _ _ => none, fun _ _ => none⟩
abbrev Fn : Type := List D → MH → R D
def gtW (P : Wl) (fn : Nat → Fn) : Gt := { fn := fn, cst := P.cst, bnd := P.bnd, why := P.why, ci := P.ci }
noncomputable def runP (P : Wl) (fn : Nat → Fn) (p : Pr) : Fn := if p.st = true then runFS (gtW P fn) P.mkx p.np p.nl p.b else match p.ini with
  | none => runF (gtW P fn) P.mkx p.np p.nl p.b
  | some C => runI (gtW P fn) P.mkx C p.np p.nl p.b
noncomputable def FN (P : Wl) : Nat → Nat → Fn
  | 0, _ => fun _ _ => .bad
  | k + 1, f => runP P (FN P k) (P.body f)
@[simp] theorem gtW_fn (P : Wl) (fn : Nat → Fn) (f : Nat) : (gtW P fn).fn f = fn f := rfl
@[simp] theorem gtW_cst (P : Wl) (fn : Nat → Fn) (f : Nat) : (gtW P fn).cst f = P.cst f := rfl
@[simp] theorem gtW_bnd (P : Wl) (fn : Nat → Fn) (f : Nat) : (gtW P fn).bnd f = P.bnd f := rfl
@[simp] theorem gtW_ci (P : Wl) (fn : Nat → Fn) : (gtW P fn).ci = P.ci := rfl
@[simp] theorem gtW_why (P : Wl) (fn : Nat → Fn) : (gtW P fn).why = P.why := rfl
/-- an exception asked for by the law's own def: its tag and its field, if its class is among these -/
def wdG (nm : Nat → Str) (cl : List Nat) (x : Exn) : Option D := if x.c ∈ cl then (match ((x.ns.map nm).zip x.ds).lookup ("tag" : Str) with
  | some (D.str z) => (fdRunG D.non fdPs fdL z ((x.ns.map nm).zip x.ds)).map fun d => .tup [.str z, d]
  | _ => none) else none
theorem wdG_ok {S : Sta} {cl : List Nat} {cs : List Value} (h : ∀ C ∈ cl, PySem.W.exmAny S.K (.ref (S.ca C)) cs = some true ∧ Xfs S.K (S.ca C) (fdNames fdPs fdL)) : WhyOk S cs fdPs fdL (wdG S.nm cl) := ⟨fun x d e => by
  unfold wdG at e
  split at e
  · rename_i hc
    refine ⟨(h _ hc).1, (h _ hc).2, ?_⟩
    split at e
    · rename_i z hz
      obtain ⟨dv, e1, rfl⟩ := Option.map_eq_some_iff.mp e
      exact ⟨z, dv, hz, e1, rfl⟩
    · cases e
  · cases e⟩
/-! ### names by number -/
def nmOf (l : List (Nat × Str)) (g : Nat) : Str := (l.lookup g).getD ""
theorem nmOf_inj {l : List (Nat × Str)} {s : Str} {f : Nat} (hs : s ≠ "") (h : (l.all fun p => decide (p.2 = s → p.1 = f)) = true) {g : Nat} (e : nmOf l g = s) : g = f := by
  unfold nmOf at e
  cases q : l.lookup g with
  | none => rw [q] at e; exact absurd e.symm hs
  | some x =>
    rw [q] at e
    have e : x = s := e
    subst e
    have hm : (g, x) ∈ l := by
      clear h
      induction l with
      | nil => cases q
      | cons p r ih =>
        rw [List.lookup_cons] at q
        split at q
        · rename_i hb
          cases q
          have : g = p.1 := by simpa using hb
          rw [this]
          exact List.mem_cons_self ..
        · exact List.mem_cons_of_mem _ (ih q)
    exact of_decide_eq_true (List.all_eq_true.mp h (g, x) hm) rfl
/-! ### tables by class and name -/
def lk2 {α : Type} : List (Nat × Nat × α) → Nat → Nat → Option α
  | [], _, _ => none
  | (c, f, g) :: r, C, F => if c = C ∧ f = F then some g else lk2 r C F
theorem lk2_nil {α : Type} {C f : Nat} {g : α} (h : lk2 [] C f = some g) : False := by cases h
theorem lk2_cons {α : Type} {c f : Nat} {g : α} {r : List (Nat × Nat × α)} {P : Nat → Nat → α → Prop} (h0 : P c f g) (hr : ∀ C F o, lk2 r C F = some o → P C F o) : ∀ C F o, lk2 ((c, f, g) :: r) C F = some o → P C F o := fun C F o h => by
  unfold lk2 at h
  split at h
  · rename_i e
    obtain ⟨rfl, rfl⟩ := e
    cases h
    exact h0
  · exact hr C F o h
theorem mmIx_cons {y : Str} {k C f : Nat} {r : List (Str × Nat × Nat × Nat)} {P : Str → Nat → Nat → Nat → Prop} (h0 : P y k C f) (hr : ∀ x n C f, mmIx r x n = some (C, f) → P x n C f) : ∀ x n D g, mmIx ((y, k, C, f) :: r) x n = some (D, g) → P x n D g := fun x n D g h => by
  unfold mmIx at h
  split at h
  · rename_i e
    obtain ⟨rfl, rfl⟩ := e
    cases h
    exact h0
  · exact hr x n D g h
theorem mmKx_cons {y : Str} {k C f b : Nat} {ks : List Str} {r : List (Str × Nat × List Str × Nat × Nat × Nat)} {P : Str → Nat → List Str → Nat → Nat → Nat → Prop} (h0 : P y k ks C f b) (hr : ∀ x n l C f b, mmKx r x n l = some (C, f, b) → P x n l C f b) : ∀ x n l D g c, mmKx ((y, k, ks, C, f, b) :: r) x n l = some (D, g, c) → P x n l D g c := fun x n l D g c h => by
  unfold mmKx at h
  split at h
  · rename_i e
    obtain ⟨rfl, rfl, rfl⟩ := e
    cases h
    exact h0
  · exact hr x n l D g c h
theorem ccIx_cons {y z : Str} {f : Nat} {r : List (Str × Str × Nat)} {P : Str → Str → Nat → Prop} (h0 : P y z f) (hr : ∀ x w g, ccIx r x w = some g → P x w g) : ∀ x w g, ccIx ((y, z, f) :: r) x w = some g → P x w g := fun x w g h => by
  unfold ccIx at h
  split at h
  · rename_i e
    obtain ⟨rfl, rfl⟩ := e
    cases h
    exact h0
  · exact hr x w g h
theorem smIx_cons {y z : Str} {k f : Nat} {c : Option Nat} {r : List (Str × Str × Nat × Nat × Option Nat)} {P : Str → Str → Nat → Nat → Option Nat → Prop} (h0 : P y z k f c) (hr : ∀ x w n g d, smIx r x w n = some (g, d) → P x w n g d) : ∀ x w n g d, smIx ((y, z, k, f, c) :: r) x w n = some (g, d) → P x w n g d := fun x w n g d h => by
  unfold smIx at h
  split at h
  · rename_i e
    obtain ⟨rfl, rfl, rfl⟩ := e
    cases h
    exact h0
  · exact hr x w n g d h
theorem smKx_cons {y z : Str} {k f b : Nat} {ks : List Str} {c : Option Nat} {r : List (Str × Str × Nat × List Str × Nat × Nat × Option Nat)} {P : Str → Str → Nat → List Str → Nat → Nat → Option Nat → Prop} (h0 : P y z k ks f b c) (hr : ∀ x w n l g e d, smKx r x w n l = some (g, e, d) → P x w n l g e d) : ∀ x w n l g e d, smKx ((y, z, k, ks, f, b, c) :: r) x w n l = some (g, e, d) → P x w n l g e d := fun x w n l g e d h => by
  unfold smKx at h
  split at h
  · rename_i e'
    obtain ⟨rfl, rfl, rfl, rfl⟩ := e'
    cases h
    exact h0
  · exact hr x w n l g e d h
/-! ### a call's values put in place -/
inductive Bp where
  | p (i : Nat) | k (i : Nat) | d (i : Nat)
def pick {A : Type} (l : List Bp) (us its ws : List A) : List A := l.filterMap fun b => match b with
  | .p i => us[i]?
  | .k i => ws[i]?
  | .d i => its[i]?
theorem vals_get {vs : List V} {us : List Value} (h : Vals vs us) : ∀ i : Nat, (vs[i]? = none ∧ us[i]? = none) ∨ ∃ v u, vs[i]? = some v ∧ us[i]? = some u ∧ RelV v u := by
  induction h with
  | nil => exact fun i => .inl ⟨rfl, rfl⟩
  | cons r t ih =>
    intro i
    cases i with
    | zero => exact .inr ⟨_, _, rfl, rfl, r⟩
    | succ i => simpa using ih i
theorem pick_rel {vs dvs zs : List V} {us its ws : List Value} : ∀ (l : List Bp), Vals vs us → Vals dvs its → Vals zs ws → Vals (pick l vs dvs zs) (pick l us its ws)
  | [], _, _, _ => .nil
  | b :: l, r, rT, rz => by
    have ih := pick_rel l r rT rz
    unfold pick at ih ⊢
    rw [List.filterMap_cons, List.filterMap_cons]
    cases b with
    | p i =>
      dsimp only
      rcases vals_get r i with ⟨e1, e2⟩ | ⟨v, u, e1, e2, q⟩
      · rw [e1, e2]; exact ih
      · rw [e1, e2]; exact .cons q ih
    | k i =>
      dsimp only
      rcases vals_get rz i with ⟨e1, e2⟩ | ⟨v, u, e1, e2, q⟩
      · rw [e1, e2]; exact ih
      · rw [e1, e2]; exact .cons q ih
    | d i =>
      dsimp only
      rcases vals_get rT i with ⟨e1, e2⟩ | ⟨v, u, e1, e2, q⟩
      · rw [e1, e2]; exact ih
      · rw [e1, e2]; exact .cons q ih
section
variable {S : Sta}
theorem RVs.uncons {ow : Addr → Prop} {io : List Addr} {H : Hp} {d : D} {ds : List D} {vs : List V} (h : RVs S ow io H (d :: ds) vs) : ∃ v r, vs = v :: r ∧ RV S ow io H d v ∧ RVs S ow io H ds r := by
  unfold RVs at h
  exact h
theorem RVs.unnil {ow : Addr → Prop} {io : List Addr} {H : Hp} {vs : List V} (h : RVs S ow io H [] vs) : vs = [] := by
  unfold RVs at h
  exact h
theorem cal0 {k : Nat} {x : Str} {n : Nat} {fa : Addr} {fd : FuncData} {ps : List Str} (h1 : S.mg x = some (.ref fa)) (h2 : PySem.W.keepIn S.K (.ref fa) = true) (h3 : ps.length = n) (h4 : Binds S.K fd ps []) : CalOk S k x n (fun _ _ => .bad) :=
  ⟨fa, fd, ps, h1, h2, h3, h4, ⟨fun vs H Q E h => by obtain ⟨_, _, _, _, _, _, _, _, p⟩ := h; exact p.elim, fun A outer s H args us vs Q E _ _ _ _ h => by obtain ⟨_, _, _, _, _, _, _, _, p⟩ := h; exact p.elim⟩⟩
theorem fn0_ok {k : Nat} {n : Nat} {fa : Addr} {fd : FuncData} {ps : List Str} : FnOk S.P S.w S.K S.mg S.base (L2.CX S.P S.w) k fa fd ps (spOf S n (fun _ _ => .bad)) :=
  ⟨fun vs H Q E h => by obtain ⟨_, _, _, _, _, _, _, _, p⟩ := h; exact p.elim, fun A outer s H args us vs Q E _ _ _ _ h => by obtain ⟨_, _, _, _, _, _, _, _, p⟩ := h; exact p.elim⟩
theorem fnr0_ok {k : Nat} {fa : Addr} : FnR S.P S.w S.K S.mg S.base (L2.CX S.P S.w) k fa (spR S (fun _ _ => .bad)) := by
  intro A outer s H us vs Q E _ _ _ h
  obtain ⟨_, _, _, _, _, _, _, p⟩ := h
  exact p.elim
theorem calR_mono {j k : Nat} {x : Str} {f : List D → MH → R D} (C : CalROk S j x f) (h : j ≤ k) : CalROk S k x f := by
  obtain ⟨fa, h1, h2, F⟩ := C
  exact ⟨fa, h1, h2, F.mono h⟩
theorem frIx_nil {x : Str} {f : Nat} (h : frIx [] x = some f) : False := by cases h
theorem frIx_cons {y : Str} {f : Nat} {r : List (Str × Nat)} {P : Str → Nat → Prop} (h0 : P y f) (hr : ∀ x g, frIx r x = some g → P x g) : ∀ x g, frIx ((y, f) :: r) x = some g → P x g := fun x g h => by
  unfold frIx at h
  split at h
  · rename_i e
    cases h
    subst e
    exact h0
  · exact hr x g h
end
end Mp
end
section
set_option Elab.async false
set_option linter.all false
set_option maxRecDepth 100000
set_option maxHeartbeats 1000000
/-! MpStep: what instances answer, step by step. -/
namespace Mp
open PySem PySem.Spec PyProof.Rows L2
section
variable {G : Gt} {fr : Fr} {m m1 m2 m3 : MH} {a b : E} {x y d d' : D} {C f g : Nat} {ns : List Nat} {ds es' as : List D} {es ks : List E}
theorem ev_fld_of (h1 : ev G a fr m = .ok x m1) (h2 : insD x m1 = some (C, ns, ds)) (h3 : G.ci.pr C f = some none) (h4 : (ns.zip ds).lookup f = some d) : ev G (.fld a f) fr m = .ok d m1 := by
  rw [ev_fld, h1, R.ok_bind, h2]
  dsimp only
  rw [h3]
  dsimp only
  rw [h4]
theorem ev_prp_of (h1 : ev G a fr m = .ok x m1) (h2 : insD x m1 = some (C, ns, ds)) (h3 : G.ci.pr C f = some (some g)) (h4 : G.fn g [x] m1 = .ok d m2) : ev G (.fld a f) fr m = .ok d m2 := by
  rw [ev_fld, h1, R.ok_bind, h2]
  dsimp only
  rw [h3]
  dsimp only
  rw [h4]
  rfl
theorem ev_mth_of (h1 : ev G a fr m = .ok x m1) (h2 : insD x m1 = some (C, ns, ds)) (h3 : G.ci.mt C f = some g) (h4 : ns.contains f = false) (h5 : evs G es fr m1 = .ok es' m2) : ev G (.mth f a es) fr m = G.fn g (x :: es') m2 := by
  rw [ev_mth, h1, R.ok_bind, h2]
  dsimp only
  rw [h3]
  dsimp only
  rw [h4, if_neg Bool.false_ne_true, h5, R.ok_bind]
theorem ev_dun_of {k : Du} (h1 : ev G a fr m = .ok x m1) (h2 : insD x m1 = some (C, ns, ds)) (h3 : G.ci.mt C f = some g) (h4 : G.fn g [x] m1 = .ok d m2) (h5 : duD k d = some d') : ev G (.dun k f a) fr m = .ok d' m2 := by
  rw [ev_dun, h1, R.ok_bind, h2]
  dsimp only
  rw [h3]
  dsimp only
  rw [h4]
  show optR (duD k d) m2 = _
  rw [h5]
  rfl
theorem ev_eqI_of {ng t : Bool} (h1 : ev G a fr m = .ok x m1) (h1b : ev G b fr m1 = .ok y m2) (h2 : insD x m2 = some (C, ns, ds)) (h3 : G.ci.mt C f = some g) (hy : eqY C y m2 = true) (h4 : G.fn g [x, y] m2 = .ok (.bl t) m3) : ev G (.eqI ng f a b) fr m = .ok (.bl (xor ng t)) m3 := by
  rw [ev_eqI, h1, R.ok_bind, h1b, R.ok_bind, h2]
  dsimp only
  rw [h3]
  dsimp only
  rw [if_pos hy, h4]
  rfl
theorem ev_lst_of (h1 : evs G es fr m = .ok ds m1) (h2 : ds.length ≤ sizeLine) : ev G (.lst es) fr m = .ok (.lst ds) m1 := by
  rw [ev_lst, h1, R.ok_bind, if_pos h2]
theorem ev_tup_of (h1 : evs G es fr m = .ok ds m1) (h2 : ds.length ≤ sizeLine) : ev G (.tup es) fr m = .ok (.tup ds) m1 := by
  rw [ev_tup, h1, R.ok_bind, if_pos h2]
theorem evs_of (h1 : ev G a fr m = .ok x m1) (h2 : evs G es fr m1 = .ok ds m2) : evs G (a :: es) fr m = .ok (x :: ds) m2 := by
  rw [evs_cons, h1, R.ok_bind, h2, R.ok_bind]
theorem ev_blt_of {q : Bl} (h1 : evs G es fr m = .ok ds m1) (h2 : bltD q ds m1 = some d) : ev G (.blt q es) fr m = .ok d m1 := by
  rw [ev_blt, h1, R.ok_bind, h2]; rfl
theorem ev_cmp_of {o : CO} (h1 : ev G a fr m = .ok x m1) (h2 : ev G b fr m1 = .ok y m2) (h3 : cmpD o x y = some d) : ev G (.cmp o a b) fr m = .ok d m2 := by
  rw [ev_cmp, h1, R.ok_bind, h2, R.ok_bind, h3]; rfl
theorem ev_bin_of {o : BO} (h1 : ev G a fr m = .ok x m1) (h2 : ev G b fr m1 = .ok y m2) (h3 : binD o x y = some d) : ev G (.bin o a b) fr m = .ok d m2 := by
  rw [ev_bin, h1, R.ok_bind, h2, R.ok_bind, h3]; rfl
theorem ev_not_of {t : Bool} (h1 : ev G a fr m = .ok x m1) (h2 : truD x = some t) : ev G (.notv a) fr m = .ok (.bl (!t)) m1 := by
  rw [ev_notv, h1, R.ok_bind, h2]
theorem ev_or_t (h1 : ev G a fr m = .ok x m1) (h2 : truD x = some true) : ev G (.orv a b) fr m = .ok x m1 := by
  rw [ev_orv, h1, R.ok_bind, h2]
theorem ev_or_f (h1 : ev G a fr m = .ok x m1) (h2 : truD x = some false) : ev G (.orv a b) fr m = ev G b fr m1 := by
  rw [ev_orv, h1, R.ok_bind, h2]
theorem ev_and_t (h1 : ev G a fr m = .ok x m1) (h2 : truD x = some true) : ev G (.andv a b) fr m = ev G b fr m1 := by
  rw [ev_andv, h1, R.ok_bind, h2]
theorem ev_and_f (h1 : ev G a fr m = .ok x m1) (h2 : truD x = some false) : ev G (.andv a b) fr m = .ok x m1 := by
  rw [ev_andv, h1, R.ok_bind, h2]
theorem ev_ite_t {c' : E} (h1 : ev G c' fr m = .ok x m1) (h2 : truD x = some true) : ev G (.ite c' a b) fr m = ev G a fr m1 := by
  rw [ev_ite, h1, R.ok_bind, h2]
theorem ev_ite_f {c' : E} (h1 : ev G c' fr m = .ok x m1) (h2 : truD x = some false) : ev G (.ite c' a b) fr m = ev G b fr m1 := by
  rw [ev_ite, h1, R.ok_bind, h2]
theorem ev_idx_of (h1 : ev G a fr m = .ok x m1) (h2 : ev G b fr m1 = .ok y m2) (h3 : idxD x y m2 = some d) : ev G (.idx a b) fr m = .ok d m2 := by
  rw [ev_idx, h1, R.ok_bind, h2, R.ok_bind, h3]; rfl
theorem ev_m1_of {k : M1} {z : Str} (h1 : ev G a fr m = .ok (.str z) m1) (h2 : ev G b fr m1 = .ok y m2) (h3 : m1D k z y m2 = some d) : ev G (.m1 k a b) fr m = .ok d m2 := by
  rw [ev_m1, h1, R.ok_bind]
  dsimp only
  rw [h2, R.ok_bind, h3]; rfl
theorem ev_isi_of {ts : List Ty} {t : Bool} (h1 : ev G a fr m = .ok x m1) (h2 : isTys x m1 ts = some t) : ev G (.isi a ts) fr m = .ok (.bl t) m1 := by
  rw [ev_isi, h1, R.ok_bind, h2]; rfl
theorem ev_comp_of {vs : List Nat} {tg : Tg} {cs : List E} {el : E} {xs ys : List D} (h1 : ev G a fr m = .ok x m1) (h2 : itemsD x = some xs) (h3 : compGo vs tg (evc G cs) (ev G el) fr xs [] m1 = .ok ys m2) : ev G (.comp vs tg a cs el) fr m = .ok (.lst ys) m2 := by
  rw [ev_comp_, h1, R.ok_bind, h2]
  dsimp only
  rw [h3]; rfl
theorem ev_rng_of {xs : List D} (h1 : ev G a fr m = .ok x m1) (h2 : rngD (.int 0) x = some xs) : ev G (.rng1 a) fr m = .ok (.lst xs) m1 := by
  rw [ev_rng1, h1, R.ok_bind, h2]
theorem ev_call_of (h1 : evs G es fr m = .ok es' m1) : ev G (.call f es) fr m = G.fn f es' m1 := by
  rw [ev_call, h1, R.ok_bind]
variable {mkx : Nat → List D → Option Exn} {e c : E} {i : Nat} {s : St} {ss s1 s2 : List St} {f1 f2 : Fr} {t : Tg} {r : SR} {xe : Exn}
theorem exs_nx (h : ex G mkx s fr m = .nx f1 m1) : exs G mkx (s :: ss) fr m = exs G mkx ss f1 m1 := by rw [exs_cons, h]; rfl
theorem exs_rt (h : ex G mkx s fr m = .rt d m1) : exs G mkx (s :: ss) fr m = .rt d m1 := by rw [exs_cons, h]; rfl
theorem exs_xe (h : ex G mkx s fr m = .ex xe f1 m1) : exs G mkx (s :: ss) fr m = .ex xe f1 m1 := by rw [exs_cons, h]; rfl
theorem exs_asg (h : ev G e fr m = .ok d m1) : exs G mkx (.asg (.nm i) e :: ss) fr m = exs G mkx ss (fr.set i (some (.val d))) m1 := exs_nx (by rw [ex_asg, h, SR.of_ok, tgD_nm])
theorem exs_asgT (h : ev G e fr m = .ok d m1) (h2 : tgD t d fr = some f1) : exs G mkx (.asg t e :: ss) fr m = exs G mkx ss f1 m1 := exs_nx (by rw [ex_asg, h, SR.of_ok, h2])
theorem exs_ret (h : ev G e fr m = .ok d m1) : exs G mkx (.ret e :: ss) fr m = .rt d m1 := exs_rt (by rw [ex_ret, h, SR.of_ok])
theorem exs_exp (h : ev G e fr m = .ok d m1) : exs G mkx (.exp e :: ss) fr m = exs G mkx ss fr m1 := exs_nx (by rw [ex_exp, h, SR.of_ok])
theorem exs_it (h : tst (ev G c) fr m = .ok true m1) : exs G mkx (.ife c s1 s2 :: ss) fr m = (exs G mkx s1 fr m1).then_ fun f1 m1 => exs G mkx ss f1 m1 := by rw [exs_cons, ex_ife, h, SR.of_ok]
theorem exs_if (h : tst (ev G c) fr m = .ok false m1) : exs G mkx (.ife c s1 s2 :: ss) fr m = (exs G mkx s2 fr m1).then_ fun f1 m1 => exs G mkx ss f1 m1 := by rw [exs_cons, ex_ife, h, SR.of_ok]
theorem exs_if0 (h : tst (ev G c) fr m = .ok false m1) : exs G mkx (.ife c s1 [] :: ss) fr m = exs G mkx ss fr m1 := by rw [exs_if h, exs_nil, SR.then_nx]
theorem exs_it_ret (h : tst (ev G c) fr m = .ok true m1) (h2 : ev G e fr m1 = .ok d m2) : exs G mkx (.ife c [.ret e] s2 :: ss) fr m = .rt d m2 := by rw [exs_it h, exs_ret h2]; rfl
theorem exs_for {xs : List D} (h : ev G e fr m = .ok d m1) (hx : itemsD d = some xs) (h2 : forS t (exs G mkx s1) xs fr m1 = .nx f1 m2) : exs G mkx (.for_ t e s1 :: ss) fr m = exs G mkx ss f1 m2 := exs_nx (by rw [ex_for0, h, SR.of_ok, hx]; exact h2)
theorem exs_forR {xs : List D} (h : ev G e fr m = .ok d m1) (hx : itemsD d = some xs) (h2 : forS t (exs G mkx s1) xs fr m1 = .rt d' m2) : exs G mkx (.for_ t e s1 :: ss) fr m = .rt d' m2 := exs_rt (by rw [ex_for0, h, SR.of_ok, hx]; exact h2)
theorem exs_app {xs : List D} (h0 : fr[i]? = some (some (.olst xs))) (h : ev G e fr m = .ok d m1) (hl : xs.length < sizeLine) : exs G mkx (.app i e :: ss) fr m = exs G mkx ss (fr.set i (some (.olst (xs ++ [d])))) m1 := exs_nx (by
  rw [ex_app]; unfold appF; rw [h0]; dsimp only; rw [h, SR.of_ok, if_pos hl])
theorem exs_frz {xs : List D} (h0 : fr[i]? = some (some (.olst xs))) : exs G mkx (.frz i :: ss) fr m = exs G mkx ss (fr.set i (some (.val (.lst xs)))) m := exs_nx (by
  rw [ex_frz]; unfold frzF; rw [h0])
theorem exs_asgO {xs : List D} (hi : i < fr.length) (h : ev G e fr m = .ok (.lst xs) m1) : exs G mkx (.asgO i e :: ss) fr m = exs G mkx ss (fr.set i (some (.olst xs))) m1 := exs_nx (by
  rw [ex_asgO]; unfold asgOF; rw [if_pos hi, h, SR.of_ok])
theorem exs_setO {xs : List D} {k : E} {j : Nat} {kv : Int} (h : ev G e fr m = .ok d m1) (h0 : fr[i]? = some (some (.olst xs))) (h2 : ev G k fr m1 = .ok (.int kv) m2) (h3 : ixN xs.length kv = some j) : exs G mkx (.setO i k e :: ss) fr m = exs G mkx ss (fr.set i (some (.olst (xs.set j d)))) m2 := exs_nx (by
  rw [ex_setO]; unfold setF; rw [h, SR.of_ok, h0]; dsimp only; rw [h2, SR.of_ok]; dsimp only; rw [h3])
theorem ev_own_of {xs : List D} (h0 : fr[i]? = some (some (.olst xs))) : ev G (.own i) fr m = .ok (.lst xs) m := by
  show (match fr[i]? with | some (some (.val d)) => R.ok d m | some (some (.olst xs)) => .ok (.lst xs) m | _ => R.bad) = _
  rw [h0]
theorem forS_nx {bd : Fr → MH → SR} {ds' : List D} (h1 : tgD t d fr = some f1) (h2 : bd f1 m = .nx f2 m2) : forS t bd (d :: ds') fr m = forS t bd ds' f2 m2 := by
  conv => lhs; unfold forS
  rw [h1]; dsimp only; rw [h2]
theorem forS_rt {bd : Fr → MH → SR} {ds' : List D} (h1 : tgD t d fr = some f1) (h2 : bd f1 m = .rt d' m2) : forS t bd (d :: ds') fr m = .rt d' m2 := by
  conv => lhs; unfold forS
  rw [h1]; dsimp only; rw [h2]
theorem tst_bl {b : Bool} (h : ev G e fr m = .ok (.bl b) m1) : tst (ev G e) fr m = .ok b m1 := tst_ok h rfl
end
end Mp
end
section
set_option Elab.async false
set_option linter.all false
set_option maxRecDepth 100000
set_option maxHeartbeats 1000000
/-! MpStep2: steps by the functions' meanings. -/
namespace Mp
open PySem PySem.Spec PyProof.Rows L2
section
variable {P : Wl} {fn : Nat → Fn} {fr : Fr} {m m1 m2 m3 : MH} {a b : E} {x y d d' : D} {C f g : Nat} {ns : List Nat} {ds es' as zs : List D} {es ks : List E} {r : R D}
theorem evs_one {G : Gt} (h : ev G a fr m = .ok x m1) : evs G [a] fr m = .ok [x] m1 := by rw [evs_cons, h, R.ok_bind, evs_nil, R.ok_bind]
theorem evs_two {G : Gt} (h : ev G a fr m = .ok x m1) (h2 : ev G b fr m1 = .ok y m2) : evs G [a, b] fr m = .ok [x, y] m2 := evs_of h (evs_one h2)
theorem evs_three {G : Gt} {c : E} {z : D} (h : ev G a fr m = .ok x m1) (h2 : ev G b fr m1 = .ok y m2) (h3 : ev G c fr m2 = .ok z m3) : evs G [a, b, c] fr m = .ok [x, y, z] m3 := evs_of h (evs_two h2 h3)
theorem W_call (h1 : evs (gtW P fn) es fr m = .ok ds m1) (h2 : fn f ds m1 = r) : ev (gtW P fn) (.call f es) fr m = r := (ev_call_of h1).trans h2
theorem W_prp (h1 : ev (gtW P fn) a fr m = .ok x m1) (h2 : insD x m1 = some (C, ns, ds)) (h3 : P.ci.pr C f = some (some g)) (h4 : fn g [x] m1 = .ok d m2) : ev (gtW P fn) (.fld a f) fr m = .ok d m2 := ev_prp_of h1 h2 h3 h4
theorem W_fld (h1 : ev (gtW P fn) a fr m = .ok x m1) (h2 : insD x m1 = some (C, ns, ds)) (h3 : P.ci.pr C f = some none) (h4 : (ns.zip ds).lookup f = some d) : ev (gtW P fn) (.fld a f) fr m = .ok d m1 := ev_fld_of h1 h2 h3 h4
theorem W_mth (h1 : ev (gtW P fn) a fr m = .ok x m1) (h2 : insD x m1 = some (C, ns, ds)) (h3 : P.ci.mt C f = some g) (h4 : ns.contains f = false) (h5 : evs (gtW P fn) es fr m1 = .ok es' m2) (h6 : fn g (x :: es') m2 = r) : ev (gtW P fn) (.mth f a es) fr m = r := (ev_mth_of h1 h2 h3 h4 h5).trans h6
theorem W_mthK {bb : Nat} (h1 : ev (gtW P fn) a fr m = .ok x m1) (h2 : insD x m1 = some (C, ns, ds)) (h3 : P.ci.mt C f = some g) (h4 : ns.contains f = false) (h5 : evs (gtW P fn) es fr m1 = .ok es' m2) (h6 : evs (gtW P fn) ks fr m2 = .ok zs m3) (h7 : P.bnd bb (x :: es') zs = some as) (h8 : fn g as m3 = r) : ev (gtW P fn) (.mthK f bb a es ks) fr m = r := by
  rw [ev_mthK, h1, R.ok_bind, h2]
  dsimp only
  rw [show (gtW P fn).ci.mt C f = some g from h3]
  dsimp only
  rw [h4, if_neg Bool.false_ne_true, h5, R.ok_bind, h6, R.ok_bind, show (gtW P fn).bnd bb (x :: es') zs = some as from h7]
  exact h8
theorem W_callK {bb : Nat} (h5 : evs (gtW P fn) es fr m = .ok es' m2) (h6 : evs (gtW P fn) ks fr m2 = .ok zs m3) (h7 : P.bnd bb es' zs = some as) (h8 : fn f as m3 = r) : ev (gtW P fn) (.callK f bb es ks) fr m = r := by
  rw [ev_callK, h5, R.ok_bind, h6, R.ok_bind, show (gtW P fn).bnd bb es' zs = some as from h7]
  exact h8
theorem W_dun {k : Du} (h1 : ev (gtW P fn) a fr m = .ok x m1) (h2 : insD x m1 = some (C, ns, ds)) (h3 : P.ci.mt C f = some g) (h4 : fn g [x] m1 = .ok d m2) (h5 : duD k d = some d') : ev (gtW P fn) (.dun k f a) fr m = .ok d' m2 := ev_dun_of h1 h2 h3 h4 h5
theorem W_eqI {ng t : Bool} (h1 : ev (gtW P fn) a fr m = .ok x m1) (h1b : ev (gtW P fn) b fr m1 = .ok y m2) (h2 : insD x m2 = some (C, ns, ds)) (h3 : P.ci.mt C f = some g) (hy : eqY C y m2 = true) (h4 : fn g [x, y] m2 = .ok (.bl t) m3) : ev (gtW P fn) (.eqI ng f a b) fr m = .ok (.bl (xor ng t)) m3 := ev_eqI_of h1 h1b h2 h3 hy h4
theorem W_callL {i : Nat} (h0 : fr[i]? = some (some (.val (.cls C)))) (h1 : evs (gtW P fn) es fr m = .ok ds m1) (h2 : fn f ds m1 = r) : ev (gtW P fn) (.callL i C f es) fr m = r := by
  rw [ev_callL, h0]
  dsimp only
  rw [if_pos rfl, h1, R.ok_bind]
  exact h2
end
end Mp
end
section
set_option Elab.async false
set_option linter.all false
set_option maxRecDepth 100000
set_option maxHeartbeats 0

/-! PProg: the defs of the program and of the laws, as the layer turns them; numbers. -/
namespace Kb
open PySem PySem.Spec PyProof.Rows L2 Mp
abbrev n_is_number : Nat := 0
def m_is_number : List Mp.St := [.ret (.andv (.isi (.loc 0) [.int]) (.notv (.isi (.loc 0) [.bool])))]
abbrev n__law_bag : Nat := 4
def m__law_bag : List Mp.St := [.asg (.nm 1) (.blt .list [(.sl (.loc 0) (.k .non) (.prt (.k (.int 63))))]), .asg (.nm 2) (.bin .add (.k (.int 3848)) (.bin .mul (.k (.int 29)) (.blt .len [(.loc 1)]))), .for_ (.nm 3) (.loc 1) [.asg (.nm 2) (.bin .mod (.blt .int_ [(.bin .add (.bin .add (.bin .mul (.loc 2) (.k (.int 40507))) (.bin .mod (.blt .int_ [(.loc 3)]) (.k (.int 2147483399)))) (.k (.int 13)))]) (.k (.int 2147483563)))], .retS (.lst [(.loc 1), .k (.int 0), .k (.int 0), (.loc 2)])]
abbrev n__law_draw : Nat := 5
def m__law_draw : List Mp.St := [.ife (.andv (.cmp .eq (.idx (.loc 0) (.k (.int 2))) (.k (.int 0))) (.cmp .lt (.idx (.loc 0) (.k (.int 1))) (.blt .len [(.idx (.loc 0) (.k (.int 0)))]))) [.asg (.nm 2) (.idx (.idx (.loc 0) (.k (.int 0))) (.idx (.loc 0) (.k (.int 1)))), .setX (.loc 0) (.k (.int 1)) (.bin .add (.idx (.loc 0) (.k (.int 1))) (.k (.int 1))), .ife (.cmp .ge (.loc 2) (.bin .pow (.k (.int 10)) (.k (.int 18)))) [.setX (.loc 0) (.k (.int 2)) (.loc 2)] [.asg (.nm 4) (.bin .add (.bin .mul (.idx (.loc 0) (.k (.int 3))) (.k (.int 39373))) (.bin .mod (.blt .int_ [(.loc 2)]) (.k (.int 2000000011)))), .setX (.loc 0) (.k (.int 3)) (.bin .mod (.blt .int_ [(.bin .add (.loc 4) (.idx (.loc 0) (.k (.int 1))))]) (.k (.int 2147483563)))]] [], .ife (.cmp .gt (.idx (.loc 0) (.k (.int 2))) (.k (.int 0))) [.asg (.nm 3) (.bin .mod (.blt .int_ [(.idx (.loc 0) (.k (.int 2)))]) (.loc 1)), .setX (.loc 0) (.k (.int 2)) (.bin .fdiv (.idx (.loc 0) (.k (.int 2))) (.loc 1)), .ret (.loc 3)] [], .setX (.loc 0) (.k (.int 3)) (.bin .mod (.blt .int_ [(.bin .add (.bin .mul (.idx (.loc 0) (.k (.int 3))) (.k (.int 48889))) (.k (.int 1013)))]) (.k (.int 2147483563))), .ret (.bin .mod (.blt .int_ [(.bin .fdiv (.bin .mod (.blt .int_ [(.bin .mul (.idx (.loc 0) (.k (.int 3))) (.idx (.loc 0) (.k (.int 3))))]) (.k (.int 999999937))) (.k (.int 31)))]) (.loc 1))]
abbrev n__law_of : Nat := 6
def m__law_of : List Mp.St := [.ret (.idx (.loc 1) (.call 5 [(.loc 0), (.blt .len [(.loc 1)])]))]
abbrev n__law_alike : Nat := 8
def m__law_alike : List Mp.St := [.ife (.orv (.isN (.loc 1)) (.isN (.loc 0))) [.ret (.andv (.isN (.loc 1)) (.isN (.loc 0)))] [], .ife (.orv (.isi (.loc 1) [.bool]) (.isi (.loc 0) [.bool])) [.ret (.andv (.isi (.loc 1) [.bool]) (.andv (.isi (.loc 0) [.bool]) (.cmp .eq (.loc 0) (.loc 1))))] [], .ife (.orv (.isi (.loc 1) [.str]) (.isi (.loc 0) [.str])) [.ret (.andv (.isi (.loc 1) [.str]) (.andv (.isi (.loc 0) [.str]) (.cmp .eq (.loc 0) (.loc 1))))] [], .ife (.orv (.isi (.loc 1) [.int]) (.isi (.loc 0) [.int])) [.ret (.andv (.isi (.loc 1) [.int]) (.andv (.isi (.loc 0) [.int]) (.cmp .eq (.loc 0) (.loc 1))))] [], .ife (.cmp .ne (.isi (.loc 1) [.tuple]) (.isi (.loc 0) [.tuple])) [.ret (.k (.bl false))] [], .ife (.cmp .ne (.isi (.loc 1) [.list]) (.isi (.loc 0) [.list])) [.ret (.k (.bl false))] [], .ret (.andv (.cmp .eq (.blt .len [(.loc 0)]) (.blt .len [(.loc 1)])) (.blt .all [(.comp [2, 3] (.tup [.nm 2, .nm 3]) (.zip (.loc 0) (.loc 1)) [] (.call 8 [(.loc 2), (.loc 3)]))]))]
abbrev n_number_in : Nat := 13
def m_number_in : List Mp.St := [.ife (.orv (.cmp .eq (.loc 0) (.k (.str ""))) (.orv (.notv (.blt .all [(.comp [2] (.nm 2) (.loc 0) [] (.cmp .mem (.loc 2) (.cst 2)))])) (.andv (.cmp .gt (.blt .len [(.loc 0)]) (.k (.int 1))) (.cmp .eq (.idx (.loc 0) (.k (.int 0))) (.k (.str "0")))))) [.ret (.k .non)] [], .asg (.nm 1) (.k (.int 0)), .for_ (.nm 2) (.loc 0) [.asg (.nm 1) (.bin .add (.bin .mul (.k (.int 10)) (.loc 1)) (.m1 .index (.cst 2) (.loc 2)))], .ret (.loc 1)]
abbrev n__wall : Nat := 30
def m__wall : List Mp.St := [.whl (.k (.bl true)) [.pas]]
abbrev n_is_within : Nat := 31
def m_is_within : List Mp.St := [.ret (.andv (.call 0 [(.loc 0)]) (.chain .le .le (.loc 1) (.loc 0) (.loc 2)))]
abbrev n_are_stocks : Nat := 32
def m_are_stocks : List Mp.St := [.ife (.orv (.notv (.isi (.loc 0) [.str])) (.notv (.chain .le .le (.k (.int 1)) (.blt .len [(.loc 0)]) (.cst 4)))) [.ret (.k (.bl false))] [], .ret (.andv (.blt .all [(.comp [1] (.nm 1) (.loc 0) [] (.cmp .mem (.loc 1) (.cst 3)))]) (.cmp .eq (.blt .list [(.loc 0)]) (.blt .sorted [(.dcomp [1] (.nm 1) (.loc 0) (.loc 1) (.k (.int 0)))])))]
abbrev n_need_stocks : Nat := 33
def m_need_stocks : List Mp.St := [.ife (.notv (.call 32 [(.loc 0)])) [.rais 5 [(.loc 0)]] []]
abbrev n_is_side : Nat := 34
def m_is_side : List Mp.St := [.ret (.andv (.isi (.loc 0) [.tuple]) (.andv (.cmp .eq (.blt .len [(.loc 0)]) (.loc 1)) (.blt .all [(.comp [2] (.nm 2) (.loc 0) [] (.call 31 [(.loc 2), .k (.int 0), (.cst 5)]))])))]
abbrev n_is_step : Nat := 35
def m_is_step : List Mp.St := [.ret (.andv (.isi (.loc 0) [.tuple]) (.andv (.cmp .eq (.blt .len [(.loc 0)]) (.k (.int 2))) (.blt .all [(.comp [2] (.nm 2) (.loc 0) [] (.call 34 [(.loc 2), (.loc 1)]))])))]
abbrev n_side_text : Nat := 36
def m_side_text : List Mp.St := [.asg (.nm 2) (.comp [3, 4] (.tup [.nm 3, .nm 4]) (.zip (.loc 0) (.loc 1)) [(.cmp .gt (.loc 4) (.k (.int 0)))] (.bin .add (.ite (.cmp .gt (.loc 4) (.k (.int 1))) (.blt .str [(.loc 4)]) (.k (.str ""))) (.loc 3))), .ret (.ite (.cmp .ne (.loc 2) (.lst [])) (.m1 .join (.k (.str "+")) (.loc 2)) (.k (.str "0")))]
abbrev n_side_in : Nat := 37
def m_side_in : List Mp.St := [.asgO 2 (.bin .mul (.lst [.k (.int 0)]) (.blt .len [(.loc 0)])), .for_ (.nm 3) (.ite (.cmp .ne (.loc 1) (.k (.str "0"))) (.m1 .split (.loc 1) (.k (.str "+"))) (.lst [])) [.asg (.nm 4) (.ite (.cmp .eq (.blt .len [(.loc 3)]) (.k (.int 1))) (.k (.int 1)) (.call 13 [(.sl (.loc 3) (.k .non) (.prt (.neg (.k (.int 1)))))])), .ife (.orv (.cmp .eq (.loc 3) (.k (.str ""))) (.orv (.cmp .nmem (.idx (.loc 3) (.neg (.k (.int 1)))) (.loc 0)) (.orv (.isN (.loc 4)) (.notv (.call 31 [(.loc 4), .k (.int 1), (.cst 5)]))))) [.ret (.k .non)] [], .setO 2 (.m1 .index (.loc 0) (.idx (.loc 3) (.neg (.k (.int 1))))) (.loc 4)], .frz 2, .ret (.ite (.cmp .eq (.call 36 [(.loc 0), (.loc 2)]) (.loc 1)) (.blt .tuple [(.own 2)]) (.k .non))]
abbrev n_step_in : Nat := 38
def m_step_in : List Mp.St := [.asg (.tup [.nm 3, .nm 4, .nm 5]) (.m1 .partition (.loc 1) (.k (.str ">"))), .asg (.nm 2) (.tup [(.call 37 [(.loc 0), (.loc 3)]), (.call 37 [(.loc 0), (.loc 5)])]), .ret (.ite (.cmp .mem (.k .non) (.loc 2)) (.k .non) (.loc 2))]
abbrev n__law_some_stocks : Nat := 39
def m__law_some_stocks : List Mp.St := [.asg (.nm 2) (.bin .add (.k (.int 1)) (.call 5 [(.loc 0), (.loc 1)])), .ret (.sl (.call 6 [(.loc 0), (.lst [.k (.str "abcd"), .k (.str "bdxz"), .k (.str "aghy")])]) (.k .non) (.prt (.loc 2)))]
abbrev n__law_some_side : Nat := 40
def m__law_some_side : List Mp.St := [.ret (.blt .tuple [(.comp [2] (.nm 2) (.rng1 (.loc 1)) [] (.call 6 [(.loc 0), (.lst [.k (.int 0), .k (.int 0), .k (.int 1), .k (.int 1), .k (.int 2), (.call 5 [(.loc 0), .k (.int 10)])])]))])]
abbrev n__law_some_steps : Nat := 41
def m__law_some_steps : List Mp.St := [.asgO 3 (.lst []), .for_ (.nm 4) (.rng1 (.call 5 [(.loc 0), (.bin .add (.loc 2) (.k (.int 1)))])) [.asg (.nm 5) (.tup [(.call 40 [(.loc 0), (.loc 1)]), (.call 40 [(.loc 0), (.loc 1)])]), .app 3 (.call 6 [(.loc 0), (.lst [(.loc 5), (.loc 5), (.loc 5), (.call 6 [(.loc 0), (.bin .add (.own 3) (.lst [(.loc 5)]))])])])], .frz 3, .ret (.loc 3)]
abbrev n__law_side_text : Nat := 42
def m__law_side_text : List Mp.St := [.asg (.nm 2) (.comp [3, 4] (.tup [.nm 3, .nm 4]) (.zip (.loc 0) (.loc 1)) [(.cmp .gt (.loc 4) (.k (.int 0)))] (.bin .add (.ite (.cmp .eq (.loc 4) (.k (.int 1))) (.k (.str "")) (.blt .str [(.loc 4)])) (.loc 3))), .ret (.ite (.cmp .ne (.loc 2) (.lst [])) (.m1 .join (.k (.str "+")) (.loc 2)) (.k (.str "0")))]
abbrev n__law_work_text : Nat := 43
def m__law_work_text : List Mp.St := [.asg (.nm 2) (.comp [3, 4] (.tup [.nm 3, .nm 4]) (.loc 1) [] (.bin .add (.bin .add (.call 42 [(.loc 0), (.loc 3)]) (.k (.str ">"))) (.call 42 [(.loc 0), (.loc 4)]))), .ret (.bin .add (.bin .add (.loc 0) (.k (.str ":"))) (.m1 .join (.k (.str ",")) (.loc 2)))]
abbrev n__law_is_work : Nat := 44
def m__law_is_work : List Mp.St := [.asg (.nm 3) (.bin .add (.bin .add (.bin .add (.bin .add (.k (.str "Work(")) (.blt .str [(.blt .len [(.loc 1)])])) (.k (.str " stocks, "))) (.blt .str [(.blt .len [(.loc 2)])])) (.k (.str " steps)"))), .asg (.nm 4) (.lst [(.fld (.loc 0) 107), (.mth 108 (.loc 0) []), (.dun .len 100 (.loc 0)), (.mth 113 (.loc 0) []), (.dun .repr 101 (.loc 0))]), .ret (.call 8 [(.loc 4), (.lst [(.loc 1), (.loc 2), (.blt .len [(.loc 2)]), (.call 43 [(.loc 1), (.loc 2)]), (.loc 3)])])]
abbrev n_law_k06 : Nat := 50
def m_law_k06 : List Mp.St := [.asg (.nm 1) (.call 4 [(.loc 0)]), .for_ (.nm 2) (.rng1 (.k (.int 10))) [.asg (.nm 3) (.call 39 [(.loc 1), .k (.int 4)]), .asg (.nm 4) (.call 41 [(.loc 1), (.blt .len [(.loc 3)]), .k (.int 4)]), .asg (.tup [.nm 6, .nm 7]) (.tup [(.call 1000 [(.loc 3), (.loc 4)]), (.call 43 [(.loc 3), (.loc 4)])]), .ife (.orv (.cmp .ne (.mth 113 (.loc 6) []) (.loc 7)) (.orv (.notv (.call 44 [(.call 1001 [.k (.cls 8), (.loc 7)]), (.loc 3), (.loc 4)])) (.eqI true 102 (.callK 1001 507 [.k (.cls 8)] [(.loc 7)]) (.loc 6)))) [.ret (.k (.bl false))] [], .asg (.nm 5) (.call 1000 [(.loc 3), (.call 41 [(.loc 1), (.blt .len [(.loc 3)]), .k (.int 2)])]), .ife (.cmp .ne (.eqI false 102 (.loc 5) (.loc 6)) (.cmp .eq (.mth 113 (.loc 5) []) (.loc 7))) [.ret (.k (.bl false))] []], .ret (.call 44 [(.call 1001 [.k (.cls 8), .k (.str "ab:2a+9b>0,0>b")]), .k (.str "ab"), (.lst [(.tup [(.tup [.k (.int 2), .k (.int 9)]), (.tup [.k (.int 0), .k (.int 0)])]), (.tup [(.tup [.k (.int 0), .k (.int 0)]), (.tup [.k (.int 0), .k (.int 1)])])])])]
abbrev n_Work_init : Nat := 1000
def m_Work_init : List Mp.St := [.exp (.call 33 [(.loc 1)]), .for_ (.tup [.nm 3, .nm 4]) (.enm (.loc 2)) [.ife (.orv (.cmp .ge (.loc 3) (.cst 200)) (.notv (.call 35 [(.loc 4), (.blt .len [(.loc 1)])]))) [.rais 6 [(.loc 3)]] []], .fldO 103 (.loc 1), .fldO 104 (.blt .list [(.loc 2)])]
abbrev n_Work_read : Nat := 1001
def m_Work_read : List Mp.St := [.asg (.tup [.nm 3, .nm 4, .nm 5]) (.m1 .partition (.loc 1) (.k (.str ":"))), .ife (.orv (.notv (.call 32 [(.loc 3)])) (.cmp .eq (.loc 4) (.k (.str "")))) [.rais 7 []] [], .asg (.nm 2) (.ite (.cmp .ne (.loc 5) (.k (.str ""))) (.comp [6] (.nm 6) (.m1 .split (.loc 5) (.k (.str ","))) [] (.call 38 [(.loc 3), (.loc 6)])) (.lst [])), .ife (.orv (.cmp .mem (.k .non) (.loc 2)) (.cmp .gt (.blt .len [(.loc 2)]) (.cst 200))) [.rais 7 []] [], .ret (.callL 0 8 1000 [(.loc 3), (.loc 2)])]
abbrev n_Work_stocks : Nat := 1002
def m_Work_stocks : List Mp.St := [.ret (.fld (.loc 0) 103)]
abbrev n_Work_steps : Nat := 1003
def m_Work_steps : List Mp.St := [.ret (.blt .list [(.fld (.loc 0) 104)])]
abbrev n_Work_eq : Nat := 1006
def m_Work_eq : List Mp.St := [.ife (.notv (.isC (.loc 1) 8)) [.ret (.k (.bl false))] [], .ret (.cmp .eq (.tup [(.fld (.loc 0) 103), (.fld (.loc 0) 104)]) (.tup [(.fld (.loc 1) 103), (.fld (.loc 1) 104)]))]
abbrev n_Work_len : Nat := 1007
def m_Work_len : List Mp.St := [.ret (.blt .len [(.fld (.loc 0) 104)])]
abbrev n_Work_text : Nat := 1008
def m_Work_text : List Mp.St := [.asgO 1 (.lst []), .for_ (.tup [.nm 2, .nm 3]) (.fld (.loc 0) 104) [.app 1 (.bin .add (.bin .add (.call 36 [(.fld (.loc 0) 103), (.loc 2)]) (.k (.str ">"))) (.call 36 [(.fld (.loc 0) 103), (.loc 3)]))], .ret (.bin .add (.bin .add (.fld (.loc 0) 103) (.k (.str ":"))) (.m1 .join (.k (.str ",")) (.own 1)))]
abbrev n_Work_repr : Nat := 1009
def m_Work_repr : List Mp.St := [.ret (.fs [.k (.str "Work("), (.fmt (.blt .len [(.fld (.loc 0) 103)])), .k (.str " stocks, "), (.fmt (.blt .len [(.fld (.loc 0) 104)])), .k (.str " steps)")])]
def nmL : List (Nat × Str) := [(0, ("tag" : Str)), (1, ("given" : Str)), (2, ("index" : Str)), (3, ("limit" : Str)), (4, ("stock" : Str)), (5, ("place" : Str)), (6, ("part" : Str)), (7, ("name" : Str)), (8, ("user" : Str)), (9, ("line" : Str)), (100, ("__len__" : Str)), (101, ("__repr__" : Str)), (102, ("__eq__" : Str)), (103, ("own_stocks" : Str)), (104, ("own_steps" : Str)), (105, ("__init__" : Str)), (106, ("read" : Str)), (107, ("stocks" : Str)), (108, ("steps" : Str)), (109, ("need_step" : Str)), (110, ("change" : Str)), (111, ("turned" : Str)), (112, ("joined" : Str)), (113, ("text" : Str)), (114, ("own_work" : Str)), (115, ("states" : Str)), (116, ("deeds" : Str)), (117, ("working" : Str)), (118, ("work" : Str)), (119, ("amounts" : Str)), (120, ("busy" : Str)), (121, ("done_once" : Str)), (122, ("do" : Str)), (123, ("drive" : Str)), (124, ("most" : Str)), (125, ("back" : Str)), (126, ("log" : Str)), (127, ("twin" : Str)), (128, ("own_conditions" : Str)), (129, ("conditions" : Str)), (130, ("passes" : Str)), (131, ("own_works" : Str)), (132, ("own_gates" : Str)), (133, ("works" : Str)), (134, ("gates" : Str)), (135, ("unknowns" : Str)), (136, ("with_end" : Str)), (137, ("own_start" : Str)), (138, ("own_parts" : Str)), (139, ("start" : Str)), (140, ("parts" : Str)), (141, ("width" : Str)), (142, ("many" : Str)), (143, ("signs" : Str)), (144, ("scale" : Str)), (145, ("lines" : Str)), (146, ("basis" : Str)), (147, ("aim" : Str)), (148, ("pivot" : Str)), (149, ("leaving" : Str)), (150, ("climb" : Str)), (151, ("settle" : Str)), (152, ("factors" : Str)), (153, ("aimed" : Str)), (154, ("point" : Str)), (155, ("ray" : Str)), (156, ("aim_value" : Str)), (157, ("chain_of" : Str)), (158, ("size" : Str)), (159, ("unknown_keys" : Str)), (160, ("places" : Str)), (161, ("slacks" : Str)), (162, ("strict" : Str)), (163, ("equations" : Str)), (164, ("labels" : Str)), (165, ("add_balance" : Str)), (166, ("add_condition" : Str)), (167, ("columns_of" : Str)), (168, ("table" : Str)), (169, ("row_of" : Str)), (170, ("pulled" : Str)), (171, ("system" : Str)), (172, ("struck" : Str)), (173, ("found_rows" : Str)), (174, ("solution" : Str)), (175, ("barred" : Str)), (176, ("base" : Str)), (177, ("try_columns" : Str)), (178, ("try_column" : Str)), (179, ("open_amounts" : Str)), (180, ("open_steps" : Str)), (181, ("strike_cold" : Str)), (182, ("amounts_at" : Str)), (183, ("shares_at" : Str)), (184, ("own_chain" : Str)), (185, ("chain" : Str)), (186, ("told" : Str)), (187, ("holds" : Str)), (188, ("__bool__" : Str)), (189, ("own_run" : Str)), (190, ("run" : Str)), (191, ("own_rows" : Str)), (192, ("rows" : Str)), (193, ("own_weighing" : Str)), (194, ("own_value" : Str)), (195, ("weighing" : Str)), (196, ("value" : Str)), (197, ("own_bar" : Str)), (198, ("bar" : Str)), (199, ("near" : Str)), (200, ("own_direction" : Str)), (201, ("direction" : Str)), (202, ("above" : Str)), (203, ("source" : Str)), (204, ("at" : Str)), (205, ("depth" : Str)), (206, ("sign" : Str)), (207, ("row" : Str)), (208, ("piece" : Str)), (209, ("word" : Str)), (210, ("bracket" : Str)), (211, ("work_table" : Str)), (212, ("gate_table" : Str)), (213, ("plan_table" : Str)), (214, ("met" : Str)), (215, ("checked" : Str)), (216, ("known" : Str)), (217, ("check_names" : Str)), (218, ("check_rings" : Str)), (219, ("found" : Str)), (220, ("named" : Str)), (221, ("entries" : Str)), (222, ("past" : Str)), (223, ("future" : Str)), (224, ("answers" : Str)), (225, ("many_computed" : Str)), (226, ("own_limit" : Str)), (227, ("set_limit" : Str)), (228, ("computed" : Str)), (229, ("become" : Str)), (230, ("apply" : Str)), (231, ("undo" : Str)), (232, ("redo" : Str)), (233, ("history" : Str)), (234, ("names" : Str)), (235, ("kind_of" : Str)), (236, ("text_of" : Str)), (237, ("chains" : Str)), (238, ("can" : Str)), (239, ("keep" : Str)), (240, ("bound" : Str)), (241, ("kept" : Str)), (242, ("__contains__" : Str)), (243, ("own_shelf" : Str)), (244, ("shelf" : Str)), (245, ("say" : Str)), (246, ("answered" : Str)), (247, ("bounded" : Str)), (248, ("asked" : Str)), (249, ("__call__" : Str))]
def nmG : Nat → Str := nmOf nmL
def cnG : Nat → Str
  | 0 => "BodyError"
  | 1 => "Missing"
  | 2 => "ZeroDivisor"
  | 3 => "NothingLeft"
  | 4 => "InvalidFraction"
  | 5 => "InvalidStocks"
  | 6 => "InvalidStep"
  | 7 => "InvalidText"
  | 8 => "Work"
  | 9 => "StocksDiffer"
  | 10 => "TooMany"
  | 11 => "InvalidAmounts"
  | 12 => "InvalidShare"
  | 13 => "TooLittle"
  | 14 => "Vessel"
  | 15 => "InvalidCondition"
  | 16 => "Gate"
  | 17 => "InvalidChain"
  | 18 => "Chain"
  | 19 => "InvalidRun"
  | 20 => "Run"
  | 21 => "InvalidRow"
  | 22 => "Table"
  | 23 => "System"
  | 24 => "Family"
  | 25 => "Answer"
  | 26 => "Found"
  | 27 => "Never"
  | 28 => "InvalidWeighing"
  | 29 => "InvalidDistance"
  | 30 => "Reached"
  | 31 => "Approached"
  | 32 => "Endless"
  | 33 => "InvalidPlan"
  | 34 => "PlanReader"
  | 35 => "Circular"
  | 36 => "UnknownName"
  | 37 => "Expander"
  | 38 => "InvalidName"
  | 39 => "WrongKind"
  | 40 => "DuplicateName"
  | 41 => "Full"
  | 42 => "InUse"
  | 43 => "InvalidCommand"
  | 44 => "InvalidLimit"
  | 45 => "Shelf"
  | 46 => "InvalidPage"
  | 47 => "Desk"
  | _ => ""
def mkxG : Nat → List Mp.D → Option Exn := fun C ds => match C, ds with
  | 2, [] => some ⟨2, [0], [.str "ZeroDivisor"]⟩
  | 3, [] => some ⟨3, [0], [.str "NothingLeft"]⟩
  | 4, [d] => some ⟨4, [1, 0], [d, .str "InvalidFraction"]⟩
  | 5, [d] => some ⟨5, [1, 0], [d, .str "InvalidStocks"]⟩
  | 6, [d] => some ⟨6, [2, 0], [d, .str "InvalidStep"]⟩
  | 7, [] => some ⟨7, [0], [.str "InvalidText"]⟩
  | 9, [] => some ⟨9, [0], [.str "StocksDiffer"]⟩
  | 10, [d] => some ⟨10, [3, 0], [d, .str "TooMany"]⟩
  | 11, [d] => some ⟨11, [1, 0], [d, .str "InvalidAmounts"]⟩
  | 12, [d] => some ⟨12, [1, 0], [d, .str "InvalidShare"]⟩
  | 13, [d] => some ⟨13, [4, 0], [d, .str "TooLittle"]⟩
  | 15, [d] => some ⟨15, [2, 0], [d, .str "InvalidCondition"]⟩
  | 17, [] => some ⟨17, [0], [.str "InvalidChain"]⟩
  | 19, [d] => some ⟨19, [5, 0], [d, .str "InvalidRun"]⟩
  | 21, [d] => some ⟨21, [2, 0], [d, .str "InvalidRow"]⟩
  | 28, [d] => some ⟨28, [1, 0], [d, .str "InvalidWeighing"]⟩
  | 29, [d] => some ⟨29, [1, 0], [d, .str "InvalidDistance"]⟩
  | 33, [d] => some ⟨33, [6, 0], [d, .str "InvalidPlan"]⟩
  | 35, [d] => some ⟨35, [7, 0], [d, .str "Circular"]⟩
  | 36, [d] => some ⟨36, [7, 0], [d, .str "UnknownName"]⟩
  | 38, [d] => some ⟨38, [7, 0], [d, .str "InvalidName"]⟩
  | 39, [d] => some ⟨39, [7, 0], [d, .str "WrongKind"]⟩
  | 40, [d] => some ⟨40, [7, 0], [d, .str "DuplicateName"]⟩
  | 41, [d] => some ⟨41, [3, 0], [d, .str "Full"]⟩
  | 42, [d] => some ⟨42, [8, 0], [d, .str "InUse"]⟩
  | 43, [d] => some ⟨43, [2, 0], [d, .str "InvalidCommand"]⟩
  | 44, [d] => some ⟨44, [1, 0], [d, .str "InvalidLimit"]⟩
  | 46, [d] => some ⟨46, [9, 0], [d, .str "InvalidPage"]⟩
  | _, _ => none
def cstG : Nat → Mp.D
  | 2 => .str "0123456789"
  | 3 => .str "abcdefghijklmnopqrstuvwxyz"
  | 4 => .int (4)
  | 5 => .int (9)
  | 200 => .int (4)
  | _ => .non
def bndG : Nat → List Mp.D → List Mp.D → Option (List Mp.D)
  | 507, [a0], [z0] => some [a0, z0]
  | _, _, _ => none
def bodyL : List (Nat × Pr) := [(0, ⟨1, false, 1, m_is_number, none⟩),
  (4, ⟨1, false, 4, m__law_bag, none⟩),
  (5, ⟨2, false, 5, m__law_draw, none⟩),
  (6, ⟨2, false, 2, m__law_of, none⟩),
  (8, ⟨2, false, 4, m__law_alike, none⟩),
  (13, ⟨1, false, 3, m_number_in, none⟩),
  (30, ⟨1, false, 1, m__wall, none⟩),
  (31, ⟨3, false, 3, m_is_within, none⟩),
  (32, ⟨1, false, 2, m_are_stocks, none⟩),
  (33, ⟨1, false, 1, m_need_stocks, none⟩),
  (34, ⟨2, false, 3, m_is_side, none⟩),
  (35, ⟨2, false, 3, m_is_step, none⟩),
  (36, ⟨2, false, 5, m_side_text, none⟩),
  (37, ⟨2, false, 5, m_side_in, none⟩),
  (38, ⟨2, false, 6, m_step_in, none⟩),
  (39, ⟨2, false, 3, m__law_some_stocks, none⟩),
  (40, ⟨2, false, 3, m__law_some_side, none⟩),
  (41, ⟨3, false, 6, m__law_some_steps, none⟩),
  (42, ⟨2, false, 5, m__law_side_text, none⟩),
  (43, ⟨2, false, 5, m__law_work_text, none⟩),
  (44, ⟨3, false, 5, m__law_is_work, none⟩),
  (50, ⟨1, false, 8, m_law_k06, none⟩),
  (1000, ⟨3, false, 5, m_Work_init, some 8⟩),
  (1001, ⟨2, false, 7, m_Work_read, none⟩),
  (1002, ⟨1, false, 1, m_Work_stocks, none⟩),
  (1003, ⟨1, false, 1, m_Work_steps, none⟩),
  (1006, ⟨2, false, 2, m_Work_eq, none⟩),
  (1007, ⟨1, false, 1, m_Work_len, none⟩),
  (1008, ⟨1, false, 4, m_Work_text, none⟩),
  (1009, ⟨1, false, 1, m_Work_repr, none⟩)]
def mtL : List (Nat × Nat × Nat) := [(8, 108, 1003), (8, 102, 1006), (8, 100, 1007), (8, 113, 1008), (8, 101, 1009)]
def prL : List (Nat × Nat × Option Nat) := [(8, 107, some 1002), (8, 103, none), (8, 104, none)]
def iscL : List (Nat × Nat × Bool) := [(8, 8, true)]
def ciG : Ci := ⟨lk2 mtL, lk2 prL, lk2 iscL⟩
@[simp] theorem mt_8_108 : ciG.mt 8 108 = some 1003 := rfl
@[simp] theorem mt_8_102 : ciG.mt 8 102 = some 1006 := rfl
@[simp] theorem mt_8_100 : ciG.mt 8 100 = some 1007 := rfl
@[simp] theorem mt_8_113 : ciG.mt 8 113 = some 1008 := rfl
@[simp] theorem mt_8_101 : ciG.mt 8 101 = some 1009 := rfl
@[simp] theorem pr_8_107 : ciG.pr 8 107 = some (some 1002) := rfl
@[simp] theorem pr_8_103 : ciG.pr 8 103 = some none := rfl
@[simp] theorem pr_8_104 : ciG.pr 8 104 = some none := rfl
@[simp] theorem isc_8_8 : ciG.isc 8 8 = some true := rfl
def bodyG (f : Nat) : Pr := (bodyL.lookup f).getD ⟨0, false, 0, [], none⟩
def PP (cl : List Nat) : Wl := { mkx := mkxG, why := wdG nmG cl, cst := cstG, bnd := bndG, body := bodyG, ci := ciG }
noncomputable abbrev GG (cl : List Nat) (k : Nat) : Gt := gtW (PP cl) (FN (PP cl) k)
@[simp] theorem gg_cst (cl : List Nat) (g : Nat) : (PP cl).cst g = cstG g := rfl
@[simp] theorem gg_bnd (cl : List Nat) (b : Nat) : (PP cl).bnd b = bndG b := rfl
@[simp] theorem gg_ci (cl : List Nat) : (PP cl).ci = ciG := rfl
@[simp] theorem gg_why (cl : List Nat) : (PP cl).why = wdG nmG cl := rfl
theorem F_is_number (cl : List Nat) (k : Nat) : FN (PP cl) (k + 1) 0 = runF (GG cl k) mkxG 1 1 m_is_number := rfl
theorem F__law_bag (cl : List Nat) (k : Nat) : FN (PP cl) (k + 1) 4 = runF (GG cl k) mkxG 1 4 m__law_bag := rfl
theorem F__law_draw (cl : List Nat) (k : Nat) : FN (PP cl) (k + 1) 5 = runF (GG cl k) mkxG 2 5 m__law_draw := rfl
theorem F__law_of (cl : List Nat) (k : Nat) : FN (PP cl) (k + 1) 6 = runF (GG cl k) mkxG 2 2 m__law_of := rfl
theorem F__law_alike (cl : List Nat) (k : Nat) : FN (PP cl) (k + 1) 8 = runF (GG cl k) mkxG 2 4 m__law_alike := rfl
theorem F_number_in (cl : List Nat) (k : Nat) : FN (PP cl) (k + 1) 13 = runF (GG cl k) mkxG 1 3 m_number_in := rfl
theorem F__wall (cl : List Nat) (k : Nat) : FN (PP cl) (k + 1) 30 = runF (GG cl k) mkxG 1 1 m__wall := rfl
theorem F_is_within (cl : List Nat) (k : Nat) : FN (PP cl) (k + 1) 31 = runF (GG cl k) mkxG 3 3 m_is_within := rfl
theorem F_are_stocks (cl : List Nat) (k : Nat) : FN (PP cl) (k + 1) 32 = runF (GG cl k) mkxG 1 2 m_are_stocks := rfl
theorem F_need_stocks (cl : List Nat) (k : Nat) : FN (PP cl) (k + 1) 33 = runF (GG cl k) mkxG 1 1 m_need_stocks := rfl
theorem F_is_side (cl : List Nat) (k : Nat) : FN (PP cl) (k + 1) 34 = runF (GG cl k) mkxG 2 3 m_is_side := rfl
theorem F_is_step (cl : List Nat) (k : Nat) : FN (PP cl) (k + 1) 35 = runF (GG cl k) mkxG 2 3 m_is_step := rfl
theorem F_side_text (cl : List Nat) (k : Nat) : FN (PP cl) (k + 1) 36 = runF (GG cl k) mkxG 2 5 m_side_text := rfl
theorem F_side_in (cl : List Nat) (k : Nat) : FN (PP cl) (k + 1) 37 = runF (GG cl k) mkxG 2 5 m_side_in := rfl
theorem F_step_in (cl : List Nat) (k : Nat) : FN (PP cl) (k + 1) 38 = runF (GG cl k) mkxG 2 6 m_step_in := rfl
theorem F__law_some_stocks (cl : List Nat) (k : Nat) : FN (PP cl) (k + 1) 39 = runF (GG cl k) mkxG 2 3 m__law_some_stocks := rfl
theorem F__law_some_side (cl : List Nat) (k : Nat) : FN (PP cl) (k + 1) 40 = runF (GG cl k) mkxG 2 3 m__law_some_side := rfl
theorem F__law_some_steps (cl : List Nat) (k : Nat) : FN (PP cl) (k + 1) 41 = runF (GG cl k) mkxG 3 6 m__law_some_steps := rfl
theorem F__law_side_text (cl : List Nat) (k : Nat) : FN (PP cl) (k + 1) 42 = runF (GG cl k) mkxG 2 5 m__law_side_text := rfl
theorem F__law_work_text (cl : List Nat) (k : Nat) : FN (PP cl) (k + 1) 43 = runF (GG cl k) mkxG 2 5 m__law_work_text := rfl
theorem F__law_is_work (cl : List Nat) (k : Nat) : FN (PP cl) (k + 1) 44 = runF (GG cl k) mkxG 3 5 m__law_is_work := rfl
theorem F_law_k06 (cl : List Nat) (k : Nat) : FN (PP cl) (k + 1) 50 = runF (GG cl k) mkxG 1 8 m_law_k06 := rfl
theorem F_Work_init (cl : List Nat) (k : Nat) : FN (PP cl) (k + 1) 1000 = runI (GG cl k) mkxG 8 3 5 m_Work_init := rfl
theorem F_Work_read (cl : List Nat) (k : Nat) : FN (PP cl) (k + 1) 1001 = runF (GG cl k) mkxG 2 7 m_Work_read := rfl
theorem F_Work_stocks (cl : List Nat) (k : Nat) : FN (PP cl) (k + 1) 1002 = runF (GG cl k) mkxG 1 1 m_Work_stocks := rfl
theorem F_Work_steps (cl : List Nat) (k : Nat) : FN (PP cl) (k + 1) 1003 = runF (GG cl k) mkxG 1 1 m_Work_steps := rfl
theorem F_Work_eq (cl : List Nat) (k : Nat) : FN (PP cl) (k + 1) 1006 = runF (GG cl k) mkxG 2 2 m_Work_eq := rfl
theorem F_Work_len (cl : List Nat) (k : Nat) : FN (PP cl) (k + 1) 1007 = runF (GG cl k) mkxG 1 1 m_Work_len := rfl
theorem F_Work_text (cl : List Nat) (k : Nat) : FN (PP cl) (k + 1) 1008 = runF (GG cl k) mkxG 1 4 m_Work_text := rfl
theorem F_Work_repr (cl : List Nat) (k : Nat) : FN (PP cl) (k + 1) 1009 = runF (GG cl k) mkxG 1 1 m_Work_repr := rfl
end Kb
end
section
set_option Elab.async false
set_option linter.all false
set_option maxRecDepth 100000
set_option maxHeartbeats 0

namespace K06
open PySem PySem.Spec PyProof.Rows L2
abbrev Pg : Program := PySem.Challenge.pw_kindlebody_k06_whole_texts_of_works
def top (i : Nat) : Stmt := Pg.main.body.getD i (.Pass ⟨0, 0, 0, 0⟩)
def subSt : Stmt → Nat → Stmt
  | .ClassDef _ _ _ b _ _ _ _ _ _ _, j => b.getD j (.Pass ⟨0, 0, 0, 0⟩)
  | _, _ => .Pass ⟨0, 0, 0, 0⟩
def dd (x : Str) (i : Nat) (dfl : List He.Dv) : He.DefD := ⟨(x, none), x, x, defArgs (top i), defBody (top i), defScope (top i), dfl, []⟩
def dm_Work_init : He.DefD := ⟨("Work", some "__init__"), "__init__", "Work.__init__", defArgs (subSt (top 22) 1), defBody (subSt (top 22) 1), defScope (subSt (top 22) 1), [.adr fun K => Mp.dfAd K (He.ma K (He.ga K "Work") "__init__") 0], []⟩
def dm_Work_steps : He.DefD := ⟨("Work", some "steps"), "steps", "Work.steps", defArgs (subSt (top 22) 4), defBody (subSt (top 22) 4), defScope (subSt (top 22) 4), [], []⟩
def dm_Work_eq : He.DefD := ⟨("Work", some "__eq__"), "__eq__", "Work.__eq__", defArgs (subSt (top 22) 9), defBody (subSt (top 22) 9), defScope (subSt (top 22) 9), [], []⟩
def dm_Work_len : He.DefD := ⟨("Work", some "__len__"), "__len__", "Work.__len__", defArgs (subSt (top 22) 10), defBody (subSt (top 22) 10), defScope (subSt (top 22) 10), [], []⟩
def dm_Work_text : He.DefD := ⟨("Work", some "text"), "text", "Work.text", defArgs (subSt (top 22) 11), defBody (subSt (top 22) 11), defScope (subSt (top 22) 11), [], []⟩
def dm_Work_repr : He.DefD := ⟨("Work", some "__repr__"), "__repr__", "Work.__repr__", defArgs (subSt (top 22) 12), defBody (subSt (top 22) 12), defScope (subSt (top 22) 12), [], []⟩
def dw_Work_read : He5.DefA := ⟨fun K => Mp.cmAd K "Work" "read", "read", "Work.read", defArgs (subSt (top 22) 2), defBody (subSt (top 22) 2), defScope (subSt (top 22) 2), [], []⟩
def dw_Work_stocks : He5.DefA := ⟨fun K => Mp.prAd K "Work" "stocks", "stocks", "Work.stocks", defArgs (subSt (top 22) 3), defBody (subSt (top 22) 3), defScope (subSt (top 22) 3), [], []⟩
def fn : List He.DefD := [dd "_wall" 0 [], dd "is_number" 8 [], dd "is_within" 9 [], dd "number_in" 10 [], dd "are_stocks" 15 [], dd "need_stocks" 16 [], dd "is_side" 17 [], dd "is_step" 18 [], dd "side_text" 19 [], dd "side_in" 20 [], dd "step_in" 21 [], dd "_law_bag" 24 [], dd "_law_draw" 25 [], dd "_law_of" 26 [], dd "_law_some_stocks" 27 [], dd "_law_some_side" 28 [], dd "_law_some_steps" 29 [], dd "_law_side_text" 30 [], dd "_law_work_text" 31 [], dd "_law_alike" 32 [], dd "_law_is_work" 33 [], dd "law" 34 [], dm_Work_init, dm_Work_steps, dm_Work_eq, dm_Work_len, dm_Work_text, dm_Work_repr]
def ini : List Mp.IniD := [⟨"InvalidStocks", "InvalidStocks.__init__", defArgs (subSt (top 3) 0), defBody (subSt (top 3) 0), defScope (subSt (top 3) 0)⟩, ⟨"InvalidStep", "InvalidStep.__init__", defArgs (subSt (top 4) 0), defBody (subSt (top 4) 0), defScope (subSt (top 4) 0)⟩, ⟨"InvalidText", "InvalidText.__init__", defArgs (subSt (top 5) 0), defBody (subSt (top 5) 0), defScope (subSt (top 5) 0)⟩]
def wr : List He5.DefA := [dw_Work_read, dw_Work_stocks]
def gnames : List Str := ["_wall", "is_number", "is_within", "number_in", "are_stocks", "need_stocks", "is_side", "is_step", "side_text", "side_in", "step_in", "_law_bag", "_law_draw", "_law_of", "_law_some_stocks", "_law_some_side", "_law_some_steps", "_law_side_text", "_law_work_text", "_law_alike", "_law_is_work", "law", "BodyError", "InvalidStocks", "InvalidStep", "InvalidText", "Work"]
def cfa : List He.Fa := [.cls "Work", .noat "Work" "own_stocks", .noat "Work" "own_steps", .mkr "Work", .meth "Work" "steps", .meth "Work" "__eq__", .meth "Work" "__len__", .meth "Work" "text", .meth "Work" "__repr__"]
def fa0 : List He.Fa := (Mp.bnames.map He.Fa.free) ++ [.free "super"] ++ gnames.map He.Fa.glo
def fa : List He.Fa := fa0 ++ cfa
def lam : List (Str × Option Str) := []
def fdn : List Str := ["given", "index", "name", "limit", "stock", "place", "part", "user", "tag", "line"]
def exC (K : Mp.Frag) : Bool := Mp.cstB K "DIGITS" (.str "0123456789") && Mp.cstB K "LETTERS" (.str "abcdefghijklmnopqrstuvwxyz") && Mp.cstB K "MOST_STOCKS" (.int (4)) && Mp.cstB K "MOST_TAKEN" (.int (9))
def exX (K : Mp.Frag) : Bool := ini.all fun d => Mp.xcB K "/claim/cut.py" fdn d
def exW (K : Mp.Frag) : Bool := true
def exL (K : Mp.Frag) : Bool := lam.all fun p => decide (Mp.codeAd K p ≠ 0)
def exKL (K : Mp.Frag) : List Bool := [Mp.ccB K "Work" "STEPS" (.int (4)), Mp.iscTyB K "Work", Mp.iscB K "Work" "Work" true, Mp.cvB K 60 (.ref (Mp.dfAd K (He.ma K (He.ga K "Work") "__init__") 0)) (.tup []), Mp.cmB K "Work" "read", Mp.propB K "Work" "stocks", Mp.eqiB K "Work"]
def exK (K : Mp.Frag) : Bool := (exKL K).all id
def ex (K : Mp.Frag) : Bool := exC K && (exX K && (exW K && (exL K && exK K)))
abbrev R : PySem.W.OpenRow := PySem.W.OpenLaw.row PySem.Challenge.rw_kindlebody_k06_whole_texts_of_works
abbrev hk : PySem.W.Hook := Mp.hookM 7 lam ex fa fn ini wr
def ob (s : PySem.W.SharedT) : Mp.AlM := Mp.obsMG 7 lam ex fa fn ini wr (HandSHeadRun.getT s)
theorem ob_eq (s : PySem.W.SharedT) : ob s = hk.obs s.abs := Mp.obsMG_eq (HandSHeadRun.getT_eq s)
abbrev loose : List Str := ["_wall", "BodyError", "InvalidStocks", "InvalidStep", "InvalidText", "DIGITS", "is_number", "is_within", "number_in", "LETTERS", "MOST_STOCKS", "MOST_TAKEN", "are_stocks", "need_stocks", "is_side", "is_step", "side_text", "side_in", "step_in", "Work", "_law_bag", "_law_draw", "_law_of", "_law_some_stocks", "_law_some_side", "_law_some_steps", "_law_side_text", "_law_work_text", "_law_alike", "_law_is_work"]
theorem run (w : World) : HandSHeadRun.RunEq R (PySem.W.view R.prog [34]) hk ob 6000 loose w := by
  intro os
  kernel_rfl
end K06
end
section
set_option Elab.async false
set_option linter.all false
set_option maxRecDepth 100000
set_option maxHeartbeats 0

namespace K06
open PySem PySem.Spec PyProof.Rows L2 Mp Kb
def Tf : List (Str × Nat × Nat) := [("_wall", 1, 30), ("is_number", 1, 0), ("is_within", 3, 31), ("number_in", 1, 13), ("are_stocks", 1, 32), ("need_stocks", 1, 33), ("is_side", 2, 34), ("is_step", 2, 35), ("side_text", 2, 36), ("side_in", 2, 37), ("step_in", 2, 38), ("_law_bag", 1, 4), ("_law_draw", 2, 5), ("_law_of", 2, 6), ("_law_some_stocks", 2, 39), ("_law_some_side", 2, 40), ("_law_some_steps", 3, 41), ("_law_side_text", 2, 42), ("_law_work_text", 2, 43), ("_law_alike", 2, 8), ("_law_is_work", 3, 44)]
def Tk : List (Str × Nat × List Str × Nat × Nat) := []
def Tr : List (Str × Nat) := []
def Tx : List (Str × Nat × Nat) := [("InvalidStocks", 1, 5), ("InvalidStep", 1, 6), ("InvalidText", 0, 7)]
def Tc : List (Str × Nat) := [("DIGITS", 2), ("LETTERS", 3), ("MOST_STOCKS", 4), ("MOST_TAKEN", 5)]
def T : Tb := { fn := Tf, fk := Tk, xc := Tx, cs := Tc, wy := "_law_why", hw := false, fr := Tr, at_ := [("own_stocks", 103), ("own_steps", 104), ("stocks", 107)], mt := [("steps", 0, 108), ("text", 0, 113)], mm := [("Work", 2, 8, 1000)], mmK := [], cc := [("Work", "STEPS", 200)], sm := [("Work", "read", 1, 1001, some 8)], mtK := [], smK := [("Work", "read", 0, ["text"], 1001, 507, some 8)], cl := [("Work", 8)], hs := true, ln := 100, rp := 101, eq := 102 }
abbrev N__wall : List Str := ["k"]
theorem c__wall : cSs T false 60 { N := N__wall, sc := defScope (top 0), fnT := true, lam := false } (defBody (top 0)) = some m__wall := by kernel_rfl
theorem s__wall : FnScope N__wall ["k"] (defScope (top 0)) := ⟨rfl, rfl, rfl, by decide +kernel, rfl, by decide +kernel, by decide +kernel⟩
abbrev N_is_number : List Str := ["value"]
theorem c_is_number : cSs T false 60 { N := N_is_number, sc := defScope (top 8), fnT := true, lam := false } (defBody (top 8)) = some m_is_number := by kernel_rfl
theorem s_is_number : FnScope N_is_number ["value"] (defScope (top 8)) := ⟨rfl, rfl, rfl, by decide +kernel, rfl, by decide +kernel, by decide +kernel⟩
abbrev N_is_within : List Str := ["value", "low", "high"]
theorem c_is_within : cSs T false 60 { N := N_is_within, sc := defScope (top 9), fnT := true, lam := false } (defBody (top 9)) = some m_is_within := by kernel_rfl
theorem s_is_within : FnScope N_is_within ["value", "low", "high"] (defScope (top 9)) := ⟨rfl, rfl, rfl, by decide +kernel, rfl, by decide +kernel, by decide +kernel⟩
abbrev N_number_in : List Str := ["text", "found", "sign"]
theorem c_number_in : cSs T false 60 { N := N_number_in, sc := defScope (top 10), fnT := true, lam := false } (defBody (top 10)) = some m_number_in := by kernel_rfl
theorem s_number_in : FnScope N_number_in ["text"] (defScope (top 10)) := ⟨rfl, rfl, rfl, by decide +kernel, rfl, by decide +kernel, by decide +kernel⟩
abbrev N_are_stocks : List Str := ["value", "sign"]
theorem c_are_stocks : cSs T false 60 { N := N_are_stocks, sc := defScope (top 15), fnT := true, lam := false } (defBody (top 15)) = some m_are_stocks := by kernel_rfl
theorem s_are_stocks : FnScope N_are_stocks ["value"] (defScope (top 15)) := ⟨rfl, rfl, rfl, by decide +kernel, rfl, by decide +kernel, by decide +kernel⟩
abbrev N_need_stocks : List Str := ["value"]
theorem c_need_stocks : cSs T false 60 { N := N_need_stocks, sc := defScope (top 16), fnT := true, lam := false } (defBody (top 16)) = some m_need_stocks := by kernel_rfl
theorem s_need_stocks : FnScope N_need_stocks ["value"] (defScope (top 16)) := ⟨rfl, rfl, rfl, by decide +kernel, rfl, by decide +kernel, by decide +kernel⟩
abbrev N_is_side : List Str := ["value", "size", "one"]
theorem c_is_side : cSs T false 60 { N := N_is_side, sc := defScope (top 17), fnT := true, lam := false } (defBody (top 17)) = some m_is_side := by kernel_rfl
theorem s_is_side : FnScope N_is_side ["value", "size"] (defScope (top 17)) := ⟨rfl, rfl, rfl, by decide +kernel, rfl, by decide +kernel, by decide +kernel⟩
abbrev N_is_step : List Str := ["value", "size", "side"]
theorem c_is_step : cSs T false 60 { N := N_is_step, sc := defScope (top 18), fnT := true, lam := false } (defBody (top 18)) = some m_is_step := by kernel_rfl
theorem s_is_step : FnScope N_is_step ["value", "size"] (defScope (top 18)) := ⟨rfl, rfl, rfl, by decide +kernel, rfl, by decide +kernel, by decide +kernel⟩
abbrev N_side_text : List Str := ["stocks", "side", "parts", "stock", "many"]
theorem c_side_text : cSs T false 60 { N := N_side_text, sc := defScope (top 19), fnT := true, lam := false } (defBody (top 19)) = some m_side_text := by kernel_rfl
theorem s_side_text : FnScope N_side_text ["stocks", "side"] (defScope (top 19)) := ⟨rfl, rfl, rfl, by decide +kernel, rfl, by decide +kernel, by decide +kernel⟩
abbrev N_side_in : List Str := ["stocks", "text", "found", "part", "many"]
theorem c_side_in : cSs T false 60 { N := N_side_in, sc := defScope (top 20), fnT := true, lam := false, ol := [2], fz := [(62, 2)] } (defBody (top 20)) = some m_side_in := by kernel_rfl
theorem s_side_in : FnScope N_side_in ["stocks", "text"] (defScope (top 20)) := ⟨rfl, rfl, rfl, by decide +kernel, rfl, by decide +kernel, by decide +kernel⟩
abbrev N_step_in : List Str := ["stocks", "text", "found", "takes", "sign", "gives"]
theorem c_step_in : cSs T false 60 { N := N_step_in, sc := defScope (top 21), fnT := true, lam := false } (defBody (top 21)) = some m_step_in := by kernel_rfl
theorem s_step_in : FnScope N_step_in ["stocks", "text"] (defScope (top 21)) := ⟨rfl, rfl, rfl, by decide +kernel, rfl, by decide +kernel, by decide +kernel⟩
abbrev N__law_bag : List Str := ["_law_script", "_law_row", "_law_mark", "_law_cell"]
theorem c__law_bag : cSs T true 60 { N := N__law_bag, sc := defScope (top 24), fnT := true, lam := false } (defBody (top 24)) = some m__law_bag := by kernel_rfl
theorem s__law_bag : FnScope N__law_bag ["_law_script"] (defScope (top 24)) := ⟨rfl, rfl, rfl, by decide +kernel, rfl, by decide +kernel, by decide +kernel⟩
abbrev N__law_draw : List Str := ["_law_bag_here", "_law_many", "_law_cell", "_law_found", "_law_mixed"]
theorem c__law_draw : cSs T false 60 { N := N__law_draw, sc := defScope (top 25), fnT := true, lam := false } (defBody (top 25)) = some m__law_draw := by kernel_rfl
theorem s__law_draw : FnScope N__law_draw ["_law_bag_here", "_law_many"] (defScope (top 25)) := ⟨rfl, rfl, rfl, by decide +kernel, rfl, by decide +kernel, by decide +kernel⟩
abbrev N__law_of : List Str := ["_law_bag_here", "_law_things"]
theorem c__law_of : cSs T false 60 { N := N__law_of, sc := defScope (top 26), fnT := true, lam := false } (defBody (top 26)) = some m__law_of := by kernel_rfl
theorem s__law_of : FnScope N__law_of ["_law_bag_here", "_law_things"] (defScope (top 26)) := ⟨rfl, rfl, rfl, by decide +kernel, rfl, by decide +kernel, by decide +kernel⟩
abbrev N__law_some_stocks : List Str := ["_law_bag_here", "_law_most", "_law_size"]
theorem c__law_some_stocks : cSs T false 60 { N := N__law_some_stocks, sc := defScope (top 27), fnT := true, lam := false } (defBody (top 27)) = some m__law_some_stocks := by kernel_rfl
theorem s__law_some_stocks : FnScope N__law_some_stocks ["_law_bag_here", "_law_most"] (defScope (top 27)) := ⟨rfl, rfl, rfl, by decide +kernel, rfl, by decide +kernel, by decide +kernel⟩
abbrev N__law_some_side : List Str := ["_law_bag_here", "_law_size", "_law_place"]
theorem c__law_some_side : cSs T false 60 { N := N__law_some_side, sc := defScope (top 28), fnT := true, lam := false } (defBody (top 28)) = some m__law_some_side := by kernel_rfl
theorem s__law_some_side : FnScope N__law_some_side ["_law_bag_here", "_law_size"] (defScope (top 28)) := ⟨rfl, rfl, rfl, by decide +kernel, rfl, by decide +kernel, by decide +kernel⟩
abbrev N__law_some_steps : List Str := ["_law_bag_here", "_law_size", "_law_most", "_law_found", "_law_index", "_law_step"]
theorem c__law_some_steps : cSs T false 60 { N := N__law_some_steps, sc := defScope (top 29), fnT := true, lam := false, ol := [3], fz := [(157, 3)] } (defBody (top 29)) = some m__law_some_steps := by kernel_rfl
theorem s__law_some_steps : FnScope N__law_some_steps ["_law_bag_here", "_law_size", "_law_most"] (defScope (top 29)) := ⟨rfl, rfl, rfl, by decide +kernel, rfl, by decide +kernel, by decide +kernel⟩
abbrev N__law_side_text : List Str := ["_law_stocks", "_law_side", "_law_parts", "_law_sign", "_law_many"]
theorem c__law_side_text : cSs T false 60 { N := N__law_side_text, sc := defScope (top 30), fnT := true, lam := false } (defBody (top 30)) = some m__law_side_text := by kernel_rfl
theorem s__law_side_text : FnScope N__law_side_text ["_law_stocks", "_law_side"] (defScope (top 30)) := ⟨rfl, rfl, rfl, by decide +kernel, rfl, by decide +kernel, by decide +kernel⟩
abbrev N__law_work_text : List Str := ["_law_stocks", "_law_steps", "_law_parts", "_law_takes", "_law_gives"]
theorem c__law_work_text : cSs T false 60 { N := N__law_work_text, sc := defScope (top 31), fnT := true, lam := false } (defBody (top 31)) = some m__law_work_text := by kernel_rfl
theorem s__law_work_text : FnScope N__law_work_text ["_law_stocks", "_law_steps"] (defScope (top 31)) := ⟨rfl, rfl, rfl, by decide +kernel, rfl, by decide +kernel, by decide +kernel⟩
abbrev N__law_alike : List Str := ["_law_found", "_law_due", "_law_one", "_law_two"]
theorem c__law_alike : cSs T false 60 { N := N__law_alike, sc := defScope (top 32), fnT := true, lam := false } (defBody (top 32)) = some m__law_alike := by kernel_rfl
theorem s__law_alike : FnScope N__law_alike ["_law_found", "_law_due"] (defScope (top 32)) := ⟨rfl, rfl, rfl, by decide +kernel, rfl, by decide +kernel, by decide +kernel⟩
abbrev N__law_is_work : List Str := ["_law_made", "_law_stocks", "_law_steps", "_law_words", "_law_told"]
theorem c__law_is_work : cSs T false 60 { N := N__law_is_work, sc := defScope (top 33), fnT := true, lam := false, hi := [(180, 54), (180, 88)] } (defBody (top 33)) = some m__law_is_work := by kernel_rfl
theorem s__law_is_work : FnScope N__law_is_work ["_law_made", "_law_stocks", "_law_steps"] (defScope (top 33)) := ⟨rfl, rfl, rfl, by decide +kernel, rfl, by decide +kernel, by decide +kernel⟩
abbrev N_law : List Str := ["_law_script", "_law_bag_here", "_law_turn", "_law_stocks", "_law_steps", "_law_other", "_law_made", "_law_my_text"]
theorem c_law : cSs T false 60 { N := N_law, sc := defScope (top 34), fnT := true, lam := false, hi := [(188, 117), (191, 12)] } (defBody (top 34)) = some m_law_k06 := by kernel_rfl
theorem s_law : FnScope N_law ["_law_script"] (defScope (top 34)) := ⟨rfl, rfl, rfl, by decide +kernel, rfl, by decide +kernel, by decide +kernel⟩
abbrev N_Work_init : List Str := ["self", "stocks", "steps", "index", "step"]
theorem c_Work_init : cSs T false 60 { N := N_Work_init, sc := defScope (subSt (top 22) 1), fnT := true, lam := false } (defBody (subSt (top 22) 1)) = some m_Work_init := by kernel_rfl
theorem s_Work_init : FnScope N_Work_init ["self", "stocks", "steps"] (defScope (subSt (top 22) 1)) := ⟨rfl, rfl, rfl, by decide +kernel, rfl, by decide +kernel, by decide +kernel⟩
abbrev N_Work_read : List Str := ["cls", "text", "steps", "stocks", "sign", "rest", "part"]
theorem c_Work_read : cSs T false 60 { N := N_Work_read, sc := defScope (subSt (top 22) 2), fnT := true, lam := false, ck := [("cls", "Work")] } (defBody (subSt (top 22) 2)) = some m_Work_read := by kernel_rfl
theorem s_Work_read : FnScope N_Work_read ["cls", "text"] (defScope (subSt (top 22) 2)) := ⟨rfl, rfl, rfl, by decide +kernel, rfl, by decide +kernel, by decide +kernel⟩
abbrev N_Work_stocks : List Str := ["self"]
theorem c_Work_stocks : cSs T false 60 { N := N_Work_stocks, sc := defScope (subSt (top 22) 3), fnT := true, lam := false } (defBody (subSt (top 22) 3)) = some m_Work_stocks := by kernel_rfl
theorem s_Work_stocks : FnScope N_Work_stocks ["self"] (defScope (subSt (top 22) 3)) := ⟨rfl, rfl, rfl, by decide +kernel, rfl, by decide +kernel, by decide +kernel⟩
abbrev N_Work_steps : List Str := ["self"]
theorem c_Work_steps : cSs T false 60 { N := N_Work_steps, sc := defScope (subSt (top 22) 4), fnT := true, lam := false } (defBody (subSt (top 22) 4)) = some m_Work_steps := by kernel_rfl
theorem s_Work_steps : FnScope N_Work_steps ["self"] (defScope (subSt (top 22) 4)) := ⟨rfl, rfl, rfl, by decide +kernel, rfl, by decide +kernel, by decide +kernel⟩
abbrev N_Work_eq : List Str := ["self", "other"]
theorem c_Work_eq : cSs T false 60 { N := N_Work_eq, sc := defScope (subSt (top 22) 9), fnT := true, lam := false } (defBody (subSt (top 22) 9)) = some m_Work_eq := by kernel_rfl
theorem s_Work_eq : FnScope N_Work_eq ["self", "other"] (defScope (subSt (top 22) 9)) := ⟨rfl, rfl, rfl, by decide +kernel, rfl, by decide +kernel, by decide +kernel⟩
abbrev N_Work_len : List Str := ["self"]
theorem c_Work_len : cSs T false 60 { N := N_Work_len, sc := defScope (subSt (top 22) 10), fnT := true, lam := false } (defBody (subSt (top 22) 10)) = some m_Work_len := by kernel_rfl
theorem s_Work_len : FnScope N_Work_len ["self"] (defScope (subSt (top 22) 10)) := ⟨rfl, rfl, rfl, by decide +kernel, rfl, by decide +kernel, by decide +kernel⟩
abbrev N_Work_text : List Str := ["self", "texts", "takes", "gives"]
theorem c_Work_text : cSs T false 60 { N := N_Work_text, sc := defScope (subSt (top 22) 11), fnT := true, lam := false, ol := [1], fz := [] } (defBody (subSt (top 22) 11)) = some m_Work_text := by kernel_rfl
theorem s_Work_text : FnScope N_Work_text ["self"] (defScope (subSt (top 22) 11)) := ⟨rfl, rfl, rfl, by decide +kernel, rfl, by decide +kernel, by decide +kernel⟩
abbrev N_Work_repr : List Str := ["self"]
theorem c_Work_repr : cSs T false 60 { N := N_Work_repr, sc := defScope (subSt (top 22) 12), fnT := true, lam := false } (defBody (subSt (top 22) 12)) = some m_Work_repr := by kernel_rfl
theorem s_Work_repr : FnScope N_Work_repr ["self"] (defScope (subSt (top 22) 12)) := ⟨rfl, rfl, rfl, by decide +kernel, rfl, by decide +kernel, by decide +kernel⟩
end K06
end
section
set_option Elab.async false
set_option linter.all false
set_option maxRecDepth 100000
set_option maxHeartbeats 0

namespace K06
open PySem PySem.Spec PyProof.Rows L2 Mp Kb
def cl : List Nat := [5, 6, 7]
section
variable (w : World) (K0 : Mp.Frag) (mg : Str → Option Value) (base : Heap)
abbrev Kc : Mp.Frag := cutK lam K0
def Sx (b : Addr) : Sta := { P := Pg, w := w, K := Kc K0, mg := mg, base := base, nm := nmG, ca := fun C => He.ga (Kc K0) (cnG C), tb := [], slf := b }
end
section
variable {w : World} {K0 : Mp.Frag} {mg : Str → Option Value} {base : Heap} {b : Addr}
abbrev SA (K0 : Mp.Frag) : Prop := SaysM lam ex fa fn ini wr K0
theorem glo (X : (Kc K0).In base) (G : base.Ns mainGlobals mg) (c : SA K0) (x : Str) (h : x ∈ gnames) : mg x = some (.ref (He.ga (Kc K0) x)) := He.glo_ok X G (saysD_mem c.d (List.mem_append_left _ (List.mem_append_right _ (List.mem_map_of_mem h))))
theorem fre (X : (Kc K0).In base) (G : base.Ns mainGlobals mg) (c : SA K0) {x : Str} (h : He.Fa.free x ∈ fa0) : mg x = none := He.free_ok X G (saysD_mem c.d (List.mem_append_left _ h))
theorem cf (c : SA K0) (i : Nat) {f : He.Fa} (h : cfa[i]? = some f) : f.ok (Kc K0) = true := saysD_mem c.d (List.mem_append_right _ (List.mem_of_getElem? h))
theorem exs_ (c : SA K0) : exC (Kc K0) = true ∧ exX (Kc K0) = true ∧ exW (Kc K0) = true ∧ exL (Kc K0) = true ∧ exK (Kc K0) = true := by
  have e := c.ex
  unfold ex at e
  obtain ⟨e1, e⟩ := He.ba e
  obtain ⟨e2, e⟩ := He.ba e
  obtain ⟨e3, e⟩ := He.ba e
  obtain ⟨e4, e5⟩ := He.ba e
  exact ⟨e1, e2, e3, e4, e5⟩
theorem ek (c : SA K0) (i : Nat) {b : Bool} (h : (exKL (Kc K0))[i]? = some b) : b = true := List.all_eq_true.mp (exs_ c).2.2.2.2 b (List.mem_of_getElem? h)
theorem bl_ (X : (Kc K0).In base) (G : base.Ns mainGlobals mg) (c : SA K0) : ∀ x ∈ bnames, mg x = none := fun x hx => fre X G c (List.mem_append_left _ (List.mem_append_left _ (List.mem_map_of_mem hx)))
theorem cs_ (X : (Kc K0).In base) (G : base.Ns mainGlobals mg) (c : SA K0) : ∀ x g, csIx T.cs x = some g → CstOk (Sx w K0 mg base b) x (cstG g) := by
  have e := (exs_ c).1
  unfold exC at e
  simp only [Bool.and_eq_true] at e
  exact csIx_cons (cst_ok (S := Sx w K0 mg base b) X G e.1.1.1) (csIx_cons (cst_ok (S := Sx w K0 mg base b) X G e.1.1.2) (csIx_cons (cst_ok (S := Sx w K0 mg base b) X G e.1.2) (csIx_cons (cst_ok (S := Sx w K0 mg base b) X G e.2) (fun _ _ h => by cases h))))
theorem xa_InvalidStocks (c : SA K0) : ∃ f cc cda, XcAll Pg (Kc K0) fdn ⟨"InvalidStocks", "InvalidStocks.__init__", defArgs (subSt (top 3) 0), defBody (subSt (top 3) 0), defScope (subSt (top 3) 0)⟩ f cc cda := xc_ok (P := Pg) (K := Kc K0) (file := "/claim/cut.py") (ns := fdn) (d := ⟨"InvalidStocks", "InvalidStocks.__init__", defArgs (subSt (top 3) 0), defBody (subSt (top 3) 0), defScope (subSt (top 3) 0)⟩) (c.ini_ 0) (List.all_eq_true.mp (exs_ c).2.1 ⟨"InvalidStocks", "InvalidStocks.__init__", defArgs (subSt (top 3) 0), defBody (subSt (top 3) 0), defScope (subSt (top 3) 0)⟩ (List.mem_of_getElem? (i := 0) rfl)) (by decide +kernel) (by decide +kernel)
theorem xc_InvalidStocks (X : (Kc K0).In base) (G : base.Ns mainGlobals mg) (c : SA K0) : Xk (Sx w K0 mg base b) "InvalidStocks" 5 1 (fun ws => [(nmG 1, ws.headD .non), (nmG 0, .str "InvalidStocks")]) := by
  obtain ⟨f, cc, cda, A⟩ := xa_InvalidStocks c
  exact xk1_of (S := Sx w K0 mg base b) (tagN := 0) (fldN := 1) (z := "InvalidStocks") (tag := "tag") (fld := "given") (y := "given") A (xcs_ok (file := "") (by decide +kernel) (show (Pg.main.scope.names.lookup ("super" : Str)).isSome = false from by decide +kernel)) (by kernel_rfl) (fun L f cda cc => ⟨_, rfl⟩) (glo X G c "InvalidStocks" (by decide +kernel)) (fre X G c (List.mem_append_left _ (List.mem_append_right _ (List.mem_singleton.mpr rfl)))) (show ("tag" : Str) ∈ fdn from by decide +kernel) (by decide +kernel) rfl rfl rfl (by decide +kernel) (by decide +kernel) (by decide +kernel) (by decide +kernel) (fun _ _ _ _ _ _ _ us hu => match us, hu with | [_, _], _ => rfl)
theorem xa_InvalidStep (c : SA K0) : ∃ f cc cda, XcAll Pg (Kc K0) fdn ⟨"InvalidStep", "InvalidStep.__init__", defArgs (subSt (top 4) 0), defBody (subSt (top 4) 0), defScope (subSt (top 4) 0)⟩ f cc cda := xc_ok (P := Pg) (K := Kc K0) (file := "/claim/cut.py") (ns := fdn) (d := ⟨"InvalidStep", "InvalidStep.__init__", defArgs (subSt (top 4) 0), defBody (subSt (top 4) 0), defScope (subSt (top 4) 0)⟩) (c.ini_ 1) (List.all_eq_true.mp (exs_ c).2.1 ⟨"InvalidStep", "InvalidStep.__init__", defArgs (subSt (top 4) 0), defBody (subSt (top 4) 0), defScope (subSt (top 4) 0)⟩ (List.mem_of_getElem? (i := 1) rfl)) (by decide +kernel) (by decide +kernel)
theorem xc_InvalidStep (X : (Kc K0).In base) (G : base.Ns mainGlobals mg) (c : SA K0) : Xk (Sx w K0 mg base b) "InvalidStep" 6 1 (fun ws => [(nmG 2, ws.headD .non), (nmG 0, .str "InvalidStep")]) := by
  obtain ⟨f, cc, cda, A⟩ := xa_InvalidStep c
  exact xk1_of (S := Sx w K0 mg base b) (tagN := 0) (fldN := 2) (z := "InvalidStep") (tag := "tag") (fld := "index") (y := "index") A (xcs_ok (file := "") (by decide +kernel) (show (Pg.main.scope.names.lookup ("super" : Str)).isSome = false from by decide +kernel)) (by kernel_rfl) (fun L f cda cc => ⟨_, rfl⟩) (glo X G c "InvalidStep" (by decide +kernel)) (fre X G c (List.mem_append_left _ (List.mem_append_right _ (List.mem_singleton.mpr rfl)))) (show ("tag" : Str) ∈ fdn from by decide +kernel) (by decide +kernel) rfl rfl rfl (by decide +kernel) (by decide +kernel) (by decide +kernel) (by decide +kernel) (fun _ _ _ _ _ _ _ us hu => match us, hu with | [_, _], _ => rfl)
theorem xa_InvalidText (c : SA K0) : ∃ f cc cda, XcAll Pg (Kc K0) fdn ⟨"InvalidText", "InvalidText.__init__", defArgs (subSt (top 5) 0), defBody (subSt (top 5) 0), defScope (subSt (top 5) 0)⟩ f cc cda := xc_ok (P := Pg) (K := Kc K0) (file := "/claim/cut.py") (ns := fdn) (d := ⟨"InvalidText", "InvalidText.__init__", defArgs (subSt (top 5) 0), defBody (subSt (top 5) 0), defScope (subSt (top 5) 0)⟩) (c.ini_ 2) (List.all_eq_true.mp (exs_ c).2.1 ⟨"InvalidText", "InvalidText.__init__", defArgs (subSt (top 5) 0), defBody (subSt (top 5) 0), defScope (subSt (top 5) 0)⟩ (List.mem_of_getElem? (i := 2) rfl)) (by decide +kernel) (by decide +kernel)
theorem xc_InvalidText (X : (Kc K0).In base) (G : base.Ns mainGlobals mg) (c : SA K0) : Xk (Sx w K0 mg base b) "InvalidText" 7 0 (fun _ => [(nmG 0, .str "InvalidText")]) := by
  obtain ⟨f, cc, cda, A⟩ := xa_InvalidText c
  exact xk0_of (S := Sx w K0 mg base b) (tagN := 0) (z := "InvalidText") (tag := "tag") A (xcs_ok (file := "") (by decide +kernel) (show (Pg.main.scope.names.lookup ("super" : Str)).isSome = false from by decide +kernel)) (by kernel_rfl) (fun L f cda cc => ⟨_, rfl⟩) (glo X G c "InvalidText" (by decide +kernel)) (fre X G c (List.mem_append_left _ (List.mem_append_right _ (List.mem_singleton.mpr rfl)))) (show ("tag" : Str) ∈ fdn from by decide +kernel) rfl rfl (fun _ _ _ _ _ _ _ us hu => match us, hu with | [_], _ => rfl)
theorem xo_ (X : (Kc K0).In base) (G : base.Ns mainGlobals mg) (c : SA K0) : XcOk T (Sx w K0 mg base b) mkxG :=
  fnIx_cons (.inr ⟨rfl, 1, 0, "InvalidStocks", xc_InvalidStocks X G c, fun _ => rfl⟩) (fnIx_cons (.inr ⟨rfl, 2, 0, "InvalidStep", xc_InvalidStep X G c, fun _ => rfl⟩) (fnIx_cons (.inl ⟨rfl, 0, "InvalidText", xc_InvalidText X G c, rfl⟩) (fun _ _ _ h => (fnIx_nil h).elim)))
structure Ok (S : Sta) (j : Nat) : Prop where
  fn : ∀ x n f, fnIx Tf x n = some f → CalOk S (3 * j + 3) x n (FN (PP cl) j f)
  fk : ∀ x n l f b, fkIx Tk x n l = some (f, b) → CalKOk S (3 * j + 3) x n l (bndG b) (FN (PP cl) j f)
  fr : ∀ x f, frIx Tr x = some f → CalROk S (3 * j + 3) x (FN (PP cl) j f)
  cls : ClOk T (GG cl j) S (3 * j + 3)
theorem tb_ {j : Nat} (X : (Kc K0).In base) (G : base.Ns mainGlobals mg) (c : SA K0) (o : Ok (Sx w K0 mg base b) j) : TbOk T (GG cl j) (Sx w K0 mg base b) (3 * j + 3) :=
  ⟨o.fn, o.fk, cs_ X G c, bl_ X G c, (fun h => by cases h), o.fr, o.cls⟩
theorem fd__wall (c : SA K0) : ∃ fd, FunD (Kc K0) "_wall" "_wall" (defArgs (top 0)) (defBody (top 0)) (defScope (top 0)) [] [] (He.ga (Kc K0) "_wall") fd := c.d.def_ 0 (d := dd "_wall" 0 []) rfl
theorem f__wall (X : (Kc K0).In base) (G : base.Ns mainGlobals mg) (c : SA K0) {fd : FuncData} (FD : FunD (Kc K0) "_wall" "_wall" (defArgs (top 0)) (defBody (top 0)) (defScope (top 0)) [] [] (He.ga (Kc K0) "_wall") fd) : ∀ j, (∀ i, i < j → ∀ b, Ok (Sx w K0 mg base b) i) → FnOk Pg w (Kc K0) mg base (L2.CX Pg w) (3 * j + 3) (He.ga (Kc K0) "_wall") fd ["k"] (spOf (Sx w K0 mg base b) 1 (FN (PP cl) j 30))
  | 0, _ => fn0_ok (S := Sx w K0 mg base b)
  | j + 1, h => (def_ok (S := Sx w K0 mg base b) (T := T) (k := 3 * j + 3) FD s__wall rfl (tb_ X G c (h j (Nat.lt_succ_self j) b)) (by omega) (xo_ X G c) c__wall).mono (by omega)
theorem k__wall (X : (Kc K0).In base) (G : base.Ns mainGlobals mg) (c : SA K0) (j : Nat) (h : ∀ i, i < j → ∀ b, Ok (Sx w K0 mg base b) i) : CalOk (Sx w K0 mg base b) (3 * j + 3) "_wall" 1 (FN (PP cl) j 30) := by
  obtain ⟨fd, FD⟩ := fd__wall c
  exact ⟨_, fd, ["k"], glo X G c "_wall" (by decide +kernel), FD.kp, rfl, FD.bindsN fun _ _ _ _ _ _ us hl => match us, hl with | [_], _ => rfl, f__wall X G c FD j h⟩
theorem fd_is_number (c : SA K0) : ∃ fd, FunD (Kc K0) "is_number" "is_number" (defArgs (top 8)) (defBody (top 8)) (defScope (top 8)) [] [] (He.ga (Kc K0) "is_number") fd := c.d.def_ 1 (d := dd "is_number" 8 []) rfl
theorem f_is_number (X : (Kc K0).In base) (G : base.Ns mainGlobals mg) (c : SA K0) {fd : FuncData} (FD : FunD (Kc K0) "is_number" "is_number" (defArgs (top 8)) (defBody (top 8)) (defScope (top 8)) [] [] (He.ga (Kc K0) "is_number") fd) : ∀ j, (∀ i, i < j → ∀ b, Ok (Sx w K0 mg base b) i) → FnOk Pg w (Kc K0) mg base (L2.CX Pg w) (3 * j + 3) (He.ga (Kc K0) "is_number") fd ["value"] (spOf (Sx w K0 mg base b) 1 (FN (PP cl) j 0))
  | 0, _ => fn0_ok (S := Sx w K0 mg base b)
  | j + 1, h => (def_ok (S := Sx w K0 mg base b) (T := T) (k := 3 * j + 3) FD s_is_number rfl (tb_ X G c (h j (Nat.lt_succ_self j) b)) (by omega) (xo_ X G c) c_is_number).mono (by omega)
theorem k_is_number (X : (Kc K0).In base) (G : base.Ns mainGlobals mg) (c : SA K0) (j : Nat) (h : ∀ i, i < j → ∀ b, Ok (Sx w K0 mg base b) i) : CalOk (Sx w K0 mg base b) (3 * j + 3) "is_number" 1 (FN (PP cl) j 0) := by
  obtain ⟨fd, FD⟩ := fd_is_number c
  exact ⟨_, fd, ["value"], glo X G c "is_number" (by decide +kernel), FD.kp, rfl, FD.bindsN fun _ _ _ _ _ _ us hl => match us, hl with | [_], _ => rfl, f_is_number X G c FD j h⟩
theorem fd_is_within (c : SA K0) : ∃ fd, FunD (Kc K0) "is_within" "is_within" (defArgs (top 9)) (defBody (top 9)) (defScope (top 9)) [] [] (He.ga (Kc K0) "is_within") fd := c.d.def_ 2 (d := dd "is_within" 9 []) rfl
theorem f_is_within (X : (Kc K0).In base) (G : base.Ns mainGlobals mg) (c : SA K0) {fd : FuncData} (FD : FunD (Kc K0) "is_within" "is_within" (defArgs (top 9)) (defBody (top 9)) (defScope (top 9)) [] [] (He.ga (Kc K0) "is_within") fd) : ∀ j, (∀ i, i < j → ∀ b, Ok (Sx w K0 mg base b) i) → FnOk Pg w (Kc K0) mg base (L2.CX Pg w) (3 * j + 3) (He.ga (Kc K0) "is_within") fd ["value", "low", "high"] (spOf (Sx w K0 mg base b) 3 (FN (PP cl) j 31))
  | 0, _ => fn0_ok (S := Sx w K0 mg base b)
  | j + 1, h => (def_ok (S := Sx w K0 mg base b) (T := T) (k := 3 * j + 3) FD s_is_within rfl (tb_ X G c (h j (Nat.lt_succ_self j) b)) (by omega) (xo_ X G c) c_is_within).mono (by omega)
theorem k_is_within (X : (Kc K0).In base) (G : base.Ns mainGlobals mg) (c : SA K0) (j : Nat) (h : ∀ i, i < j → ∀ b, Ok (Sx w K0 mg base b) i) : CalOk (Sx w K0 mg base b) (3 * j + 3) "is_within" 3 (FN (PP cl) j 31) := by
  obtain ⟨fd, FD⟩ := fd_is_within c
  exact ⟨_, fd, ["value", "low", "high"], glo X G c "is_within" (by decide +kernel), FD.kp, rfl, FD.bindsN fun _ _ _ _ _ _ us hl => match us, hl with | [_, _, _], _ => rfl, f_is_within X G c FD j h⟩
theorem fd_number_in (c : SA K0) : ∃ fd, FunD (Kc K0) "number_in" "number_in" (defArgs (top 10)) (defBody (top 10)) (defScope (top 10)) [] [] (He.ga (Kc K0) "number_in") fd := c.d.def_ 3 (d := dd "number_in" 10 []) rfl
theorem f_number_in (X : (Kc K0).In base) (G : base.Ns mainGlobals mg) (c : SA K0) {fd : FuncData} (FD : FunD (Kc K0) "number_in" "number_in" (defArgs (top 10)) (defBody (top 10)) (defScope (top 10)) [] [] (He.ga (Kc K0) "number_in") fd) : ∀ j, (∀ i, i < j → ∀ b, Ok (Sx w K0 mg base b) i) → FnOk Pg w (Kc K0) mg base (L2.CX Pg w) (3 * j + 3) (He.ga (Kc K0) "number_in") fd ["text"] (spOf (Sx w K0 mg base b) 1 (FN (PP cl) j 13))
  | 0, _ => fn0_ok (S := Sx w K0 mg base b)
  | j + 1, h => (def_ok (S := Sx w K0 mg base b) (T := T) (k := 3 * j + 3) FD s_number_in rfl (tb_ X G c (h j (Nat.lt_succ_self j) b)) (by omega) (xo_ X G c) c_number_in).mono (by omega)
theorem k_number_in (X : (Kc K0).In base) (G : base.Ns mainGlobals mg) (c : SA K0) (j : Nat) (h : ∀ i, i < j → ∀ b, Ok (Sx w K0 mg base b) i) : CalOk (Sx w K0 mg base b) (3 * j + 3) "number_in" 1 (FN (PP cl) j 13) := by
  obtain ⟨fd, FD⟩ := fd_number_in c
  exact ⟨_, fd, ["text"], glo X G c "number_in" (by decide +kernel), FD.kp, rfl, FD.bindsN fun _ _ _ _ _ _ us hl => match us, hl with | [_], _ => rfl, f_number_in X G c FD j h⟩
theorem fd_are_stocks (c : SA K0) : ∃ fd, FunD (Kc K0) "are_stocks" "are_stocks" (defArgs (top 15)) (defBody (top 15)) (defScope (top 15)) [] [] (He.ga (Kc K0) "are_stocks") fd := c.d.def_ 4 (d := dd "are_stocks" 15 []) rfl
theorem f_are_stocks (X : (Kc K0).In base) (G : base.Ns mainGlobals mg) (c : SA K0) {fd : FuncData} (FD : FunD (Kc K0) "are_stocks" "are_stocks" (defArgs (top 15)) (defBody (top 15)) (defScope (top 15)) [] [] (He.ga (Kc K0) "are_stocks") fd) : ∀ j, (∀ i, i < j → ∀ b, Ok (Sx w K0 mg base b) i) → FnOk Pg w (Kc K0) mg base (L2.CX Pg w) (3 * j + 3) (He.ga (Kc K0) "are_stocks") fd ["value"] (spOf (Sx w K0 mg base b) 1 (FN (PP cl) j 32))
  | 0, _ => fn0_ok (S := Sx w K0 mg base b)
  | j + 1, h => (def_ok (S := Sx w K0 mg base b) (T := T) (k := 3 * j + 3) FD s_are_stocks rfl (tb_ X G c (h j (Nat.lt_succ_self j) b)) (by omega) (xo_ X G c) c_are_stocks).mono (by omega)
theorem k_are_stocks (X : (Kc K0).In base) (G : base.Ns mainGlobals mg) (c : SA K0) (j : Nat) (h : ∀ i, i < j → ∀ b, Ok (Sx w K0 mg base b) i) : CalOk (Sx w K0 mg base b) (3 * j + 3) "are_stocks" 1 (FN (PP cl) j 32) := by
  obtain ⟨fd, FD⟩ := fd_are_stocks c
  exact ⟨_, fd, ["value"], glo X G c "are_stocks" (by decide +kernel), FD.kp, rfl, FD.bindsN fun _ _ _ _ _ _ us hl => match us, hl with | [_], _ => rfl, f_are_stocks X G c FD j h⟩
theorem fd_need_stocks (c : SA K0) : ∃ fd, FunD (Kc K0) "need_stocks" "need_stocks" (defArgs (top 16)) (defBody (top 16)) (defScope (top 16)) [] [] (He.ga (Kc K0) "need_stocks") fd := c.d.def_ 5 (d := dd "need_stocks" 16 []) rfl
theorem f_need_stocks (X : (Kc K0).In base) (G : base.Ns mainGlobals mg) (c : SA K0) {fd : FuncData} (FD : FunD (Kc K0) "need_stocks" "need_stocks" (defArgs (top 16)) (defBody (top 16)) (defScope (top 16)) [] [] (He.ga (Kc K0) "need_stocks") fd) : ∀ j, (∀ i, i < j → ∀ b, Ok (Sx w K0 mg base b) i) → FnOk Pg w (Kc K0) mg base (L2.CX Pg w) (3 * j + 3) (He.ga (Kc K0) "need_stocks") fd ["value"] (spOf (Sx w K0 mg base b) 1 (FN (PP cl) j 33))
  | 0, _ => fn0_ok (S := Sx w K0 mg base b)
  | j + 1, h => (def_ok (S := Sx w K0 mg base b) (T := T) (k := 3 * j + 3) FD s_need_stocks rfl (tb_ X G c (h j (Nat.lt_succ_self j) b)) (by omega) (xo_ X G c) c_need_stocks).mono (by omega)
theorem k_need_stocks (X : (Kc K0).In base) (G : base.Ns mainGlobals mg) (c : SA K0) (j : Nat) (h : ∀ i, i < j → ∀ b, Ok (Sx w K0 mg base b) i) : CalOk (Sx w K0 mg base b) (3 * j + 3) "need_stocks" 1 (FN (PP cl) j 33) := by
  obtain ⟨fd, FD⟩ := fd_need_stocks c
  exact ⟨_, fd, ["value"], glo X G c "need_stocks" (by decide +kernel), FD.kp, rfl, FD.bindsN fun _ _ _ _ _ _ us hl => match us, hl with | [_], _ => rfl, f_need_stocks X G c FD j h⟩
theorem fd_is_side (c : SA K0) : ∃ fd, FunD (Kc K0) "is_side" "is_side" (defArgs (top 17)) (defBody (top 17)) (defScope (top 17)) [] [] (He.ga (Kc K0) "is_side") fd := c.d.def_ 6 (d := dd "is_side" 17 []) rfl
theorem f_is_side (X : (Kc K0).In base) (G : base.Ns mainGlobals mg) (c : SA K0) {fd : FuncData} (FD : FunD (Kc K0) "is_side" "is_side" (defArgs (top 17)) (defBody (top 17)) (defScope (top 17)) [] [] (He.ga (Kc K0) "is_side") fd) : ∀ j, (∀ i, i < j → ∀ b, Ok (Sx w K0 mg base b) i) → FnOk Pg w (Kc K0) mg base (L2.CX Pg w) (3 * j + 3) (He.ga (Kc K0) "is_side") fd ["value", "size"] (spOf (Sx w K0 mg base b) 2 (FN (PP cl) j 34))
  | 0, _ => fn0_ok (S := Sx w K0 mg base b)
  | j + 1, h => (def_ok (S := Sx w K0 mg base b) (T := T) (k := 3 * j + 3) FD s_is_side rfl (tb_ X G c (h j (Nat.lt_succ_self j) b)) (by omega) (xo_ X G c) c_is_side).mono (by omega)
theorem k_is_side (X : (Kc K0).In base) (G : base.Ns mainGlobals mg) (c : SA K0) (j : Nat) (h : ∀ i, i < j → ∀ b, Ok (Sx w K0 mg base b) i) : CalOk (Sx w K0 mg base b) (3 * j + 3) "is_side" 2 (FN (PP cl) j 34) := by
  obtain ⟨fd, FD⟩ := fd_is_side c
  exact ⟨_, fd, ["value", "size"], glo X G c "is_side" (by decide +kernel), FD.kp, rfl, FD.bindsN fun _ _ _ _ _ _ us hl => match us, hl with | [_, _], _ => rfl, f_is_side X G c FD j h⟩
theorem fd_is_step (c : SA K0) : ∃ fd, FunD (Kc K0) "is_step" "is_step" (defArgs (top 18)) (defBody (top 18)) (defScope (top 18)) [] [] (He.ga (Kc K0) "is_step") fd := c.d.def_ 7 (d := dd "is_step" 18 []) rfl
theorem f_is_step (X : (Kc K0).In base) (G : base.Ns mainGlobals mg) (c : SA K0) {fd : FuncData} (FD : FunD (Kc K0) "is_step" "is_step" (defArgs (top 18)) (defBody (top 18)) (defScope (top 18)) [] [] (He.ga (Kc K0) "is_step") fd) : ∀ j, (∀ i, i < j → ∀ b, Ok (Sx w K0 mg base b) i) → FnOk Pg w (Kc K0) mg base (L2.CX Pg w) (3 * j + 3) (He.ga (Kc K0) "is_step") fd ["value", "size"] (spOf (Sx w K0 mg base b) 2 (FN (PP cl) j 35))
  | 0, _ => fn0_ok (S := Sx w K0 mg base b)
  | j + 1, h => (def_ok (S := Sx w K0 mg base b) (T := T) (k := 3 * j + 3) FD s_is_step rfl (tb_ X G c (h j (Nat.lt_succ_self j) b)) (by omega) (xo_ X G c) c_is_step).mono (by omega)
theorem k_is_step (X : (Kc K0).In base) (G : base.Ns mainGlobals mg) (c : SA K0) (j : Nat) (h : ∀ i, i < j → ∀ b, Ok (Sx w K0 mg base b) i) : CalOk (Sx w K0 mg base b) (3 * j + 3) "is_step" 2 (FN (PP cl) j 35) := by
  obtain ⟨fd, FD⟩ := fd_is_step c
  exact ⟨_, fd, ["value", "size"], glo X G c "is_step" (by decide +kernel), FD.kp, rfl, FD.bindsN fun _ _ _ _ _ _ us hl => match us, hl with | [_, _], _ => rfl, f_is_step X G c FD j h⟩
theorem fd_side_text (c : SA K0) : ∃ fd, FunD (Kc K0) "side_text" "side_text" (defArgs (top 19)) (defBody (top 19)) (defScope (top 19)) [] [] (He.ga (Kc K0) "side_text") fd := c.d.def_ 8 (d := dd "side_text" 19 []) rfl
theorem f_side_text (X : (Kc K0).In base) (G : base.Ns mainGlobals mg) (c : SA K0) {fd : FuncData} (FD : FunD (Kc K0) "side_text" "side_text" (defArgs (top 19)) (defBody (top 19)) (defScope (top 19)) [] [] (He.ga (Kc K0) "side_text") fd) : ∀ j, (∀ i, i < j → ∀ b, Ok (Sx w K0 mg base b) i) → FnOk Pg w (Kc K0) mg base (L2.CX Pg w) (3 * j + 3) (He.ga (Kc K0) "side_text") fd ["stocks", "side"] (spOf (Sx w K0 mg base b) 2 (FN (PP cl) j 36))
  | 0, _ => fn0_ok (S := Sx w K0 mg base b)
  | j + 1, h => (def_ok (S := Sx w K0 mg base b) (T := T) (k := 3 * j + 3) FD s_side_text rfl (tb_ X G c (h j (Nat.lt_succ_self j) b)) (by omega) (xo_ X G c) c_side_text).mono (by omega)
theorem k_side_text (X : (Kc K0).In base) (G : base.Ns mainGlobals mg) (c : SA K0) (j : Nat) (h : ∀ i, i < j → ∀ b, Ok (Sx w K0 mg base b) i) : CalOk (Sx w K0 mg base b) (3 * j + 3) "side_text" 2 (FN (PP cl) j 36) := by
  obtain ⟨fd, FD⟩ := fd_side_text c
  exact ⟨_, fd, ["stocks", "side"], glo X G c "side_text" (by decide +kernel), FD.kp, rfl, FD.bindsN fun _ _ _ _ _ _ us hl => match us, hl with | [_, _], _ => rfl, f_side_text X G c FD j h⟩
theorem fd_side_in (c : SA K0) : ∃ fd, FunD (Kc K0) "side_in" "side_in" (defArgs (top 20)) (defBody (top 20)) (defScope (top 20)) [] [] (He.ga (Kc K0) "side_in") fd := c.d.def_ 9 (d := dd "side_in" 20 []) rfl
theorem f_side_in (X : (Kc K0).In base) (G : base.Ns mainGlobals mg) (c : SA K0) {fd : FuncData} (FD : FunD (Kc K0) "side_in" "side_in" (defArgs (top 20)) (defBody (top 20)) (defScope (top 20)) [] [] (He.ga (Kc K0) "side_in") fd) : ∀ j, (∀ i, i < j → ∀ b, Ok (Sx w K0 mg base b) i) → FnOk Pg w (Kc K0) mg base (L2.CX Pg w) (3 * j + 3) (He.ga (Kc K0) "side_in") fd ["stocks", "text"] (spOf (Sx w K0 mg base b) 2 (FN (PP cl) j 37))
  | 0, _ => fn0_ok (S := Sx w K0 mg base b)
  | j + 1, h => (def_ok (S := Sx w K0 mg base b) (T := T) (k := 3 * j + 3) FD s_side_in rfl (tb_ X G c (h j (Nat.lt_succ_self j) b)) (by omega) (xo_ X G c) c_side_in).mono (by omega)
theorem k_side_in (X : (Kc K0).In base) (G : base.Ns mainGlobals mg) (c : SA K0) (j : Nat) (h : ∀ i, i < j → ∀ b, Ok (Sx w K0 mg base b) i) : CalOk (Sx w K0 mg base b) (3 * j + 3) "side_in" 2 (FN (PP cl) j 37) := by
  obtain ⟨fd, FD⟩ := fd_side_in c
  exact ⟨_, fd, ["stocks", "text"], glo X G c "side_in" (by decide +kernel), FD.kp, rfl, FD.bindsN fun _ _ _ _ _ _ us hl => match us, hl with | [_, _], _ => rfl, f_side_in X G c FD j h⟩
theorem fd_step_in (c : SA K0) : ∃ fd, FunD (Kc K0) "step_in" "step_in" (defArgs (top 21)) (defBody (top 21)) (defScope (top 21)) [] [] (He.ga (Kc K0) "step_in") fd := c.d.def_ 10 (d := dd "step_in" 21 []) rfl
theorem f_step_in (X : (Kc K0).In base) (G : base.Ns mainGlobals mg) (c : SA K0) {fd : FuncData} (FD : FunD (Kc K0) "step_in" "step_in" (defArgs (top 21)) (defBody (top 21)) (defScope (top 21)) [] [] (He.ga (Kc K0) "step_in") fd) : ∀ j, (∀ i, i < j → ∀ b, Ok (Sx w K0 mg base b) i) → FnOk Pg w (Kc K0) mg base (L2.CX Pg w) (3 * j + 3) (He.ga (Kc K0) "step_in") fd ["stocks", "text"] (spOf (Sx w K0 mg base b) 2 (FN (PP cl) j 38))
  | 0, _ => fn0_ok (S := Sx w K0 mg base b)
  | j + 1, h => (def_ok (S := Sx w K0 mg base b) (T := T) (k := 3 * j + 3) FD s_step_in rfl (tb_ X G c (h j (Nat.lt_succ_self j) b)) (by omega) (xo_ X G c) c_step_in).mono (by omega)
theorem k_step_in (X : (Kc K0).In base) (G : base.Ns mainGlobals mg) (c : SA K0) (j : Nat) (h : ∀ i, i < j → ∀ b, Ok (Sx w K0 mg base b) i) : CalOk (Sx w K0 mg base b) (3 * j + 3) "step_in" 2 (FN (PP cl) j 38) := by
  obtain ⟨fd, FD⟩ := fd_step_in c
  exact ⟨_, fd, ["stocks", "text"], glo X G c "step_in" (by decide +kernel), FD.kp, rfl, FD.bindsN fun _ _ _ _ _ _ us hl => match us, hl with | [_, _], _ => rfl, f_step_in X G c FD j h⟩
theorem fd__law_bag (c : SA K0) : ∃ fd, FunD (Kc K0) "_law_bag" "_law_bag" (defArgs (top 24)) (defBody (top 24)) (defScope (top 24)) [] [] (He.ga (Kc K0) "_law_bag") fd := c.d.def_ 11 (d := dd "_law_bag" 24 []) rfl
theorem f__law_bag (X : (Kc K0).In base) (G : base.Ns mainGlobals mg) (c : SA K0) {fd : FuncData} (FD : FunD (Kc K0) "_law_bag" "_law_bag" (defArgs (top 24)) (defBody (top 24)) (defScope (top 24)) [] [] (He.ga (Kc K0) "_law_bag") fd) : ∀ j, (∀ i, i < j → ∀ b, Ok (Sx w K0 mg base b) i) → FnOk Pg w (Kc K0) mg base (L2.CX Pg w) (3 * j + 3) (He.ga (Kc K0) "_law_bag") fd ["_law_script"] (spOf (Sx w K0 mg base b) 1 (FN (PP cl) j 4))
  | 0, _ => fn0_ok (S := Sx w K0 mg base b)
  | j + 1, h => (def_ok (S := Sx w K0 mg base b) (T := T) (k := 3 * j + 3) FD s__law_bag rfl (tb_ X G c (h j (Nat.lt_succ_self j) b)) (by omega) (xo_ X G c) c__law_bag).mono (by omega)
theorem k__law_bag (X : (Kc K0).In base) (G : base.Ns mainGlobals mg) (c : SA K0) (j : Nat) (h : ∀ i, i < j → ∀ b, Ok (Sx w K0 mg base b) i) : CalOk (Sx w K0 mg base b) (3 * j + 3) "_law_bag" 1 (FN (PP cl) j 4) := by
  obtain ⟨fd, FD⟩ := fd__law_bag c
  exact ⟨_, fd, ["_law_script"], glo X G c "_law_bag" (by decide +kernel), FD.kp, rfl, FD.bindsN fun _ _ _ _ _ _ us hl => match us, hl with | [_], _ => rfl, f__law_bag X G c FD j h⟩
theorem fd__law_draw (c : SA K0) : ∃ fd, FunD (Kc K0) "_law_draw" "_law_draw" (defArgs (top 25)) (defBody (top 25)) (defScope (top 25)) [] [] (He.ga (Kc K0) "_law_draw") fd := c.d.def_ 12 (d := dd "_law_draw" 25 []) rfl
theorem f__law_draw (X : (Kc K0).In base) (G : base.Ns mainGlobals mg) (c : SA K0) {fd : FuncData} (FD : FunD (Kc K0) "_law_draw" "_law_draw" (defArgs (top 25)) (defBody (top 25)) (defScope (top 25)) [] [] (He.ga (Kc K0) "_law_draw") fd) : ∀ j, (∀ i, i < j → ∀ b, Ok (Sx w K0 mg base b) i) → FnOk Pg w (Kc K0) mg base (L2.CX Pg w) (3 * j + 3) (He.ga (Kc K0) "_law_draw") fd ["_law_bag_here", "_law_many"] (spOf (Sx w K0 mg base b) 2 (FN (PP cl) j 5))
  | 0, _ => fn0_ok (S := Sx w K0 mg base b)
  | j + 1, h => (def_ok (S := Sx w K0 mg base b) (T := T) (k := 3 * j + 3) FD s__law_draw rfl (tb_ X G c (h j (Nat.lt_succ_self j) b)) (by omega) (xo_ X G c) c__law_draw).mono (by omega)
theorem k__law_draw (X : (Kc K0).In base) (G : base.Ns mainGlobals mg) (c : SA K0) (j : Nat) (h : ∀ i, i < j → ∀ b, Ok (Sx w K0 mg base b) i) : CalOk (Sx w K0 mg base b) (3 * j + 3) "_law_draw" 2 (FN (PP cl) j 5) := by
  obtain ⟨fd, FD⟩ := fd__law_draw c
  exact ⟨_, fd, ["_law_bag_here", "_law_many"], glo X G c "_law_draw" (by decide +kernel), FD.kp, rfl, FD.bindsN fun _ _ _ _ _ _ us hl => match us, hl with | [_, _], _ => rfl, f__law_draw X G c FD j h⟩
theorem fd__law_of (c : SA K0) : ∃ fd, FunD (Kc K0) "_law_of" "_law_of" (defArgs (top 26)) (defBody (top 26)) (defScope (top 26)) [] [] (He.ga (Kc K0) "_law_of") fd := c.d.def_ 13 (d := dd "_law_of" 26 []) rfl
theorem f__law_of (X : (Kc K0).In base) (G : base.Ns mainGlobals mg) (c : SA K0) {fd : FuncData} (FD : FunD (Kc K0) "_law_of" "_law_of" (defArgs (top 26)) (defBody (top 26)) (defScope (top 26)) [] [] (He.ga (Kc K0) "_law_of") fd) : ∀ j, (∀ i, i < j → ∀ b, Ok (Sx w K0 mg base b) i) → FnOk Pg w (Kc K0) mg base (L2.CX Pg w) (3 * j + 3) (He.ga (Kc K0) "_law_of") fd ["_law_bag_here", "_law_things"] (spOf (Sx w K0 mg base b) 2 (FN (PP cl) j 6))
  | 0, _ => fn0_ok (S := Sx w K0 mg base b)
  | j + 1, h => (def_ok (S := Sx w K0 mg base b) (T := T) (k := 3 * j + 3) FD s__law_of rfl (tb_ X G c (h j (Nat.lt_succ_self j) b)) (by omega) (xo_ X G c) c__law_of).mono (by omega)
theorem k__law_of (X : (Kc K0).In base) (G : base.Ns mainGlobals mg) (c : SA K0) (j : Nat) (h : ∀ i, i < j → ∀ b, Ok (Sx w K0 mg base b) i) : CalOk (Sx w K0 mg base b) (3 * j + 3) "_law_of" 2 (FN (PP cl) j 6) := by
  obtain ⟨fd, FD⟩ := fd__law_of c
  exact ⟨_, fd, ["_law_bag_here", "_law_things"], glo X G c "_law_of" (by decide +kernel), FD.kp, rfl, FD.bindsN fun _ _ _ _ _ _ us hl => match us, hl with | [_, _], _ => rfl, f__law_of X G c FD j h⟩
theorem fd__law_some_stocks (c : SA K0) : ∃ fd, FunD (Kc K0) "_law_some_stocks" "_law_some_stocks" (defArgs (top 27)) (defBody (top 27)) (defScope (top 27)) [] [] (He.ga (Kc K0) "_law_some_stocks") fd := c.d.def_ 14 (d := dd "_law_some_stocks" 27 []) rfl
theorem f__law_some_stocks (X : (Kc K0).In base) (G : base.Ns mainGlobals mg) (c : SA K0) {fd : FuncData} (FD : FunD (Kc K0) "_law_some_stocks" "_law_some_stocks" (defArgs (top 27)) (defBody (top 27)) (defScope (top 27)) [] [] (He.ga (Kc K0) "_law_some_stocks") fd) : ∀ j, (∀ i, i < j → ∀ b, Ok (Sx w K0 mg base b) i) → FnOk Pg w (Kc K0) mg base (L2.CX Pg w) (3 * j + 3) (He.ga (Kc K0) "_law_some_stocks") fd ["_law_bag_here", "_law_most"] (spOf (Sx w K0 mg base b) 2 (FN (PP cl) j 39))
  | 0, _ => fn0_ok (S := Sx w K0 mg base b)
  | j + 1, h => (def_ok (S := Sx w K0 mg base b) (T := T) (k := 3 * j + 3) FD s__law_some_stocks rfl (tb_ X G c (h j (Nat.lt_succ_self j) b)) (by omega) (xo_ X G c) c__law_some_stocks).mono (by omega)
theorem k__law_some_stocks (X : (Kc K0).In base) (G : base.Ns mainGlobals mg) (c : SA K0) (j : Nat) (h : ∀ i, i < j → ∀ b, Ok (Sx w K0 mg base b) i) : CalOk (Sx w K0 mg base b) (3 * j + 3) "_law_some_stocks" 2 (FN (PP cl) j 39) := by
  obtain ⟨fd, FD⟩ := fd__law_some_stocks c
  exact ⟨_, fd, ["_law_bag_here", "_law_most"], glo X G c "_law_some_stocks" (by decide +kernel), FD.kp, rfl, FD.bindsN fun _ _ _ _ _ _ us hl => match us, hl with | [_, _], _ => rfl, f__law_some_stocks X G c FD j h⟩
theorem fd__law_some_side (c : SA K0) : ∃ fd, FunD (Kc K0) "_law_some_side" "_law_some_side" (defArgs (top 28)) (defBody (top 28)) (defScope (top 28)) [] [] (He.ga (Kc K0) "_law_some_side") fd := c.d.def_ 15 (d := dd "_law_some_side" 28 []) rfl
theorem f__law_some_side (X : (Kc K0).In base) (G : base.Ns mainGlobals mg) (c : SA K0) {fd : FuncData} (FD : FunD (Kc K0) "_law_some_side" "_law_some_side" (defArgs (top 28)) (defBody (top 28)) (defScope (top 28)) [] [] (He.ga (Kc K0) "_law_some_side") fd) : ∀ j, (∀ i, i < j → ∀ b, Ok (Sx w K0 mg base b) i) → FnOk Pg w (Kc K0) mg base (L2.CX Pg w) (3 * j + 3) (He.ga (Kc K0) "_law_some_side") fd ["_law_bag_here", "_law_size"] (spOf (Sx w K0 mg base b) 2 (FN (PP cl) j 40))
  | 0, _ => fn0_ok (S := Sx w K0 mg base b)
  | j + 1, h => (def_ok (S := Sx w K0 mg base b) (T := T) (k := 3 * j + 3) FD s__law_some_side rfl (tb_ X G c (h j (Nat.lt_succ_self j) b)) (by omega) (xo_ X G c) c__law_some_side).mono (by omega)
theorem k__law_some_side (X : (Kc K0).In base) (G : base.Ns mainGlobals mg) (c : SA K0) (j : Nat) (h : ∀ i, i < j → ∀ b, Ok (Sx w K0 mg base b) i) : CalOk (Sx w K0 mg base b) (3 * j + 3) "_law_some_side" 2 (FN (PP cl) j 40) := by
  obtain ⟨fd, FD⟩ := fd__law_some_side c
  exact ⟨_, fd, ["_law_bag_here", "_law_size"], glo X G c "_law_some_side" (by decide +kernel), FD.kp, rfl, FD.bindsN fun _ _ _ _ _ _ us hl => match us, hl with | [_, _], _ => rfl, f__law_some_side X G c FD j h⟩
theorem fd__law_some_steps (c : SA K0) : ∃ fd, FunD (Kc K0) "_law_some_steps" "_law_some_steps" (defArgs (top 29)) (defBody (top 29)) (defScope (top 29)) [] [] (He.ga (Kc K0) "_law_some_steps") fd := c.d.def_ 16 (d := dd "_law_some_steps" 29 []) rfl
theorem f__law_some_steps (X : (Kc K0).In base) (G : base.Ns mainGlobals mg) (c : SA K0) {fd : FuncData} (FD : FunD (Kc K0) "_law_some_steps" "_law_some_steps" (defArgs (top 29)) (defBody (top 29)) (defScope (top 29)) [] [] (He.ga (Kc K0) "_law_some_steps") fd) : ∀ j, (∀ i, i < j → ∀ b, Ok (Sx w K0 mg base b) i) → FnOk Pg w (Kc K0) mg base (L2.CX Pg w) (3 * j + 3) (He.ga (Kc K0) "_law_some_steps") fd ["_law_bag_here", "_law_size", "_law_most"] (spOf (Sx w K0 mg base b) 3 (FN (PP cl) j 41))
  | 0, _ => fn0_ok (S := Sx w K0 mg base b)
  | j + 1, h => (def_ok (S := Sx w K0 mg base b) (T := T) (k := 3 * j + 3) FD s__law_some_steps rfl (tb_ X G c (h j (Nat.lt_succ_self j) b)) (by omega) (xo_ X G c) c__law_some_steps).mono (by omega)
theorem k__law_some_steps (X : (Kc K0).In base) (G : base.Ns mainGlobals mg) (c : SA K0) (j : Nat) (h : ∀ i, i < j → ∀ b, Ok (Sx w K0 mg base b) i) : CalOk (Sx w K0 mg base b) (3 * j + 3) "_law_some_steps" 3 (FN (PP cl) j 41) := by
  obtain ⟨fd, FD⟩ := fd__law_some_steps c
  exact ⟨_, fd, ["_law_bag_here", "_law_size", "_law_most"], glo X G c "_law_some_steps" (by decide +kernel), FD.kp, rfl, FD.bindsN fun _ _ _ _ _ _ us hl => match us, hl with | [_, _, _], _ => rfl, f__law_some_steps X G c FD j h⟩
theorem fd__law_side_text (c : SA K0) : ∃ fd, FunD (Kc K0) "_law_side_text" "_law_side_text" (defArgs (top 30)) (defBody (top 30)) (defScope (top 30)) [] [] (He.ga (Kc K0) "_law_side_text") fd := c.d.def_ 17 (d := dd "_law_side_text" 30 []) rfl
theorem f__law_side_text (X : (Kc K0).In base) (G : base.Ns mainGlobals mg) (c : SA K0) {fd : FuncData} (FD : FunD (Kc K0) "_law_side_text" "_law_side_text" (defArgs (top 30)) (defBody (top 30)) (defScope (top 30)) [] [] (He.ga (Kc K0) "_law_side_text") fd) : ∀ j, (∀ i, i < j → ∀ b, Ok (Sx w K0 mg base b) i) → FnOk Pg w (Kc K0) mg base (L2.CX Pg w) (3 * j + 3) (He.ga (Kc K0) "_law_side_text") fd ["_law_stocks", "_law_side"] (spOf (Sx w K0 mg base b) 2 (FN (PP cl) j 42))
  | 0, _ => fn0_ok (S := Sx w K0 mg base b)
  | j + 1, h => (def_ok (S := Sx w K0 mg base b) (T := T) (k := 3 * j + 3) FD s__law_side_text rfl (tb_ X G c (h j (Nat.lt_succ_self j) b)) (by omega) (xo_ X G c) c__law_side_text).mono (by omega)
theorem k__law_side_text (X : (Kc K0).In base) (G : base.Ns mainGlobals mg) (c : SA K0) (j : Nat) (h : ∀ i, i < j → ∀ b, Ok (Sx w K0 mg base b) i) : CalOk (Sx w K0 mg base b) (3 * j + 3) "_law_side_text" 2 (FN (PP cl) j 42) := by
  obtain ⟨fd, FD⟩ := fd__law_side_text c
  exact ⟨_, fd, ["_law_stocks", "_law_side"], glo X G c "_law_side_text" (by decide +kernel), FD.kp, rfl, FD.bindsN fun _ _ _ _ _ _ us hl => match us, hl with | [_, _], _ => rfl, f__law_side_text X G c FD j h⟩
theorem fd__law_work_text (c : SA K0) : ∃ fd, FunD (Kc K0) "_law_work_text" "_law_work_text" (defArgs (top 31)) (defBody (top 31)) (defScope (top 31)) [] [] (He.ga (Kc K0) "_law_work_text") fd := c.d.def_ 18 (d := dd "_law_work_text" 31 []) rfl
theorem f__law_work_text (X : (Kc K0).In base) (G : base.Ns mainGlobals mg) (c : SA K0) {fd : FuncData} (FD : FunD (Kc K0) "_law_work_text" "_law_work_text" (defArgs (top 31)) (defBody (top 31)) (defScope (top 31)) [] [] (He.ga (Kc K0) "_law_work_text") fd) : ∀ j, (∀ i, i < j → ∀ b, Ok (Sx w K0 mg base b) i) → FnOk Pg w (Kc K0) mg base (L2.CX Pg w) (3 * j + 3) (He.ga (Kc K0) "_law_work_text") fd ["_law_stocks", "_law_steps"] (spOf (Sx w K0 mg base b) 2 (FN (PP cl) j 43))
  | 0, _ => fn0_ok (S := Sx w K0 mg base b)
  | j + 1, h => (def_ok (S := Sx w K0 mg base b) (T := T) (k := 3 * j + 3) FD s__law_work_text rfl (tb_ X G c (h j (Nat.lt_succ_self j) b)) (by omega) (xo_ X G c) c__law_work_text).mono (by omega)
theorem k__law_work_text (X : (Kc K0).In base) (G : base.Ns mainGlobals mg) (c : SA K0) (j : Nat) (h : ∀ i, i < j → ∀ b, Ok (Sx w K0 mg base b) i) : CalOk (Sx w K0 mg base b) (3 * j + 3) "_law_work_text" 2 (FN (PP cl) j 43) := by
  obtain ⟨fd, FD⟩ := fd__law_work_text c
  exact ⟨_, fd, ["_law_stocks", "_law_steps"], glo X G c "_law_work_text" (by decide +kernel), FD.kp, rfl, FD.bindsN fun _ _ _ _ _ _ us hl => match us, hl with | [_, _], _ => rfl, f__law_work_text X G c FD j h⟩
theorem fd__law_alike (c : SA K0) : ∃ fd, FunD (Kc K0) "_law_alike" "_law_alike" (defArgs (top 32)) (defBody (top 32)) (defScope (top 32)) [] [] (He.ga (Kc K0) "_law_alike") fd := c.d.def_ 19 (d := dd "_law_alike" 32 []) rfl
theorem f__law_alike (X : (Kc K0).In base) (G : base.Ns mainGlobals mg) (c : SA K0) {fd : FuncData} (FD : FunD (Kc K0) "_law_alike" "_law_alike" (defArgs (top 32)) (defBody (top 32)) (defScope (top 32)) [] [] (He.ga (Kc K0) "_law_alike") fd) : ∀ j, (∀ i, i < j → ∀ b, Ok (Sx w K0 mg base b) i) → FnOk Pg w (Kc K0) mg base (L2.CX Pg w) (3 * j + 3) (He.ga (Kc K0) "_law_alike") fd ["_law_found", "_law_due"] (spOf (Sx w K0 mg base b) 2 (FN (PP cl) j 8))
  | 0, _ => fn0_ok (S := Sx w K0 mg base b)
  | j + 1, h => (def_ok (S := Sx w K0 mg base b) (T := T) (k := 3 * j + 3) FD s__law_alike rfl (tb_ X G c (h j (Nat.lt_succ_self j) b)) (by omega) (xo_ X G c) c__law_alike).mono (by omega)
theorem k__law_alike (X : (Kc K0).In base) (G : base.Ns mainGlobals mg) (c : SA K0) (j : Nat) (h : ∀ i, i < j → ∀ b, Ok (Sx w K0 mg base b) i) : CalOk (Sx w K0 mg base b) (3 * j + 3) "_law_alike" 2 (FN (PP cl) j 8) := by
  obtain ⟨fd, FD⟩ := fd__law_alike c
  exact ⟨_, fd, ["_law_found", "_law_due"], glo X G c "_law_alike" (by decide +kernel), FD.kp, rfl, FD.bindsN fun _ _ _ _ _ _ us hl => match us, hl with | [_, _], _ => rfl, f__law_alike X G c FD j h⟩
theorem fd__law_is_work (c : SA K0) : ∃ fd, FunD (Kc K0) "_law_is_work" "_law_is_work" (defArgs (top 33)) (defBody (top 33)) (defScope (top 33)) [] [] (He.ga (Kc K0) "_law_is_work") fd := c.d.def_ 20 (d := dd "_law_is_work" 33 []) rfl
theorem f__law_is_work (X : (Kc K0).In base) (G : base.Ns mainGlobals mg) (c : SA K0) {fd : FuncData} (FD : FunD (Kc K0) "_law_is_work" "_law_is_work" (defArgs (top 33)) (defBody (top 33)) (defScope (top 33)) [] [] (He.ga (Kc K0) "_law_is_work") fd) : ∀ j, (∀ i, i < j → ∀ b, Ok (Sx w K0 mg base b) i) → FnOk Pg w (Kc K0) mg base (L2.CX Pg w) (3 * j + 3) (He.ga (Kc K0) "_law_is_work") fd ["_law_made", "_law_stocks", "_law_steps"] (spOf (Sx w K0 mg base b) 3 (FN (PP cl) j 44))
  | 0, _ => fn0_ok (S := Sx w K0 mg base b)
  | j + 1, h => (def_ok (S := Sx w K0 mg base b) (T := T) (k := 3 * j + 3) FD s__law_is_work rfl (tb_ X G c (h j (Nat.lt_succ_self j) b)) (by omega) (xo_ X G c) c__law_is_work).mono (by omega)
theorem k__law_is_work (X : (Kc K0).In base) (G : base.Ns mainGlobals mg) (c : SA K0) (j : Nat) (h : ∀ i, i < j → ∀ b, Ok (Sx w K0 mg base b) i) : CalOk (Sx w K0 mg base b) (3 * j + 3) "_law_is_work" 3 (FN (PP cl) j 44) := by
  obtain ⟨fd, FD⟩ := fd__law_is_work c
  exact ⟨_, fd, ["_law_made", "_law_stocks", "_law_steps"], glo X G c "_law_is_work" (by decide +kernel), FD.kp, rfl, FD.bindsN fun _ _ _ _ _ _ us hl => match us, hl with | [_, _, _], _ => rfl, f__law_is_work X G c FD j h⟩
theorem fd_Work_init (c : SA K0) : ∃ fd, FunD (Kc K0) "__init__" "Work.__init__" (defArgs (subSt (top 22) 1)) (defBody (subSt (top 22) 1)) (defScope (subSt (top 22) 1)) [.ref (dfAd (Kc K0) (He.ma (Kc K0) (He.ga (Kc K0) "Work") "__init__") 0)] [] (He.ma (Kc K0) (He.ga (Kc K0) "Work") "__init__") fd := c.d.def_ 22 (d := dm_Work_init) rfl
theorem f_Work_init (X : (Kc K0).In base) (G : base.Ns mainGlobals mg) (c : SA K0) {fd : FuncData} (FD : FunD (Kc K0) "__init__" "Work.__init__" (defArgs (subSt (top 22) 1)) (defBody (subSt (top 22) 1)) (defScope (subSt (top 22) 1)) [.ref (dfAd (Kc K0) (He.ma (Kc K0) (He.ga (Kc K0) "Work") "__init__") 0)] [] (He.ma (Kc K0) (He.ga (Kc K0) "Work") "__init__") fd) : ∀ j, (∀ i, i < j → ∀ b, Ok (Sx w K0 mg base b) i) → FnOk Pg w (Kc K0) mg base (L2.CX Pg w) (3 * j + 2) (He.ma (Kc K0) (He.ga (Kc K0) "Work") "__init__") fd ["self", "stocks", "steps"] (spIni (Sx w K0 mg base b) 8 3 (FN (PP cl) j 1000))
  | 0, _ => fnI0_ok (S := Sx w K0 mg base b)
  | j + 1, h => (ini_ok (S := Sx w K0 mg base b) (T := T) (k := 3 * j + 3) FD s_Work_init rfl (fun a => tb_ (b := a) X G c (h j (Nat.lt_succ_self j) a)) (by omega) (fun a => xo_ (b := a) X G c) c_Work_init).mono (by omega)
theorem bd_Work_init {fd : FuncData} (FD : FunD (Kc K0) "__init__" "Work.__init__" (defArgs (subSt (top 22) 1)) (defBody (subSt (top 22) 1)) (defScope (subSt (top 22) 1)) [.ref (dfAd (Kc K0) (He.ma (Kc K0) (He.ga (Kc K0) "Work") "__init__") 0)] [] (He.ma (Kc K0) (He.ga (Kc K0) "Work") "__init__") fd) : Binds (Kc K0) fd ["self", "stocks", "steps"] [] := by
  obtain ⟨ds, hv, hb⟩ := FD.binds1 (ps := ["self", "stocks", "steps"]) 3 1 (by simp) rfl fun T kV doc pm an cdv ct us its h1 h2 => match us, its, h1, h2 with | [_, _, _], [_], _, _ => ⟨_, rfl, rfl⟩
  cases hv
  exact hb
theorem p_Work_init (X : (Kc K0).In base) (G : base.Ns mainGlobals mg) (c : SA K0) (j : Nat) (h : ∀ i, i < j → ∀ b, Ok (Sx w K0 mg base b) i) : MkOk (Sx w K0 mg base b) (3 * j + 2) "Work" 8 2 (FN (PP cl) j 1000) := by
  obtain ⟨fd, FD⟩ := fd_Work_init c
  exact mk_of (S := Sx w K0 mg base b) (K := Kc K0) rfl rfl (glo X G c "Work" (by decide +kernel)) (cf c 3 (f := .mkr "Work") rfl) rfl (bd_Work_init FD) (f_Work_init X G c FD j h)
theorem fd_Work_read (c : SA K0) : ∃ fd, FunD (Kc K0) "read" "Work.read" (defArgs (subSt (top 22) 2)) (defBody (subSt (top 22) 2)) (defScope (subSt (top 22) 2)) [] [] (cmAd (Kc K0) "Work" "read") fd := c.wr_ 0 (d := dw_Work_read) rfl
theorem f_Work_read (X : (Kc K0).In base) (G : base.Ns mainGlobals mg) (c : SA K0) {fd : FuncData} (FD : FunD (Kc K0) "read" "Work.read" (defArgs (subSt (top 22) 2)) (defBody (subSt (top 22) 2)) (defScope (subSt (top 22) 2)) [] [] (cmAd (Kc K0) "Work" "read") fd) : ∀ j, (∀ i, i < j → ∀ b, Ok (Sx w K0 mg base b) i) → FnOk Pg w (Kc K0) mg base (L2.CX Pg w) (3 * j + 2) (cmAd (Kc K0) "Work" "read") fd ["cls", "text"] (spOf (Sx w K0 mg base b) 2 (FN (PP cl) j 1001))
  | 0, _ => fn0_ok (S := Sx w K0 mg base b)
  | j + 1, h => (def_ok (S := Sx w K0 mg base b) (T := T) (k := 3 * j + 3) FD s_Work_read rfl (tb_ X G c (h j (Nat.lt_succ_self j) b)) (by omega) (xo_ X G c) c_Work_read).mono (by omega)
theorem bd_Work_read {fd : FuncData} (FD : FunD (Kc K0) "read" "Work.read" (defArgs (subSt (top 22) 2)) (defBody (subSt (top 22) 2)) (defScope (subSt (top 22) 2)) [] [] (cmAd (Kc K0) "Work" "read") fd) : Binds (Kc K0) fd ["cls", "text"] [] := FD.bindsN (ps := ["cls", "text"]) fun _ _ _ _ _ _ us hl => match us, hl with | [_, _], _ => rfl
theorem p_Work_read (X : (Kc K0).In base) (G : base.Ns mainGlobals mg) (c : SA K0) (j : Nat) (h : ∀ i, i < j → ∀ b, Ok (Sx w K0 mg base b) i) : CmOk (Sx w K0 mg base b) (3 * j + 2) "Work" "read" 8 2 (FN (PP cl) j 1001) := by
  obtain ⟨fd, FD⟩ := fd_Work_read c
  exact cm_of (S := Sx w K0 mg base b) (K := Kc K0) rfl rfl (glo X G c "Work" (by decide +kernel)) (ek c 4 rfl) (bd_Work_read FD) (f_Work_read X G c FD j h)
theorem fd_Work_stocks (c : SA K0) : ∃ fd, FunD (Kc K0) "stocks" "Work.stocks" (defArgs (subSt (top 22) 3)) (defBody (subSt (top 22) 3)) (defScope (subSt (top 22) 3)) [] [] (prAd (Kc K0) "Work" "stocks") fd := c.wr_ 1 (d := dw_Work_stocks) rfl
theorem f_Work_stocks (X : (Kc K0).In base) (G : base.Ns mainGlobals mg) (c : SA K0) {fd : FuncData} (FD : FunD (Kc K0) "stocks" "Work.stocks" (defArgs (subSt (top 22) 3)) (defBody (subSt (top 22) 3)) (defScope (subSt (top 22) 3)) [] [] (prAd (Kc K0) "Work" "stocks") fd) : ∀ j, (∀ i, i < j → ∀ b, Ok (Sx w K0 mg base b) i) → FnOk Pg w (Kc K0) mg base (L2.CX Pg w) (3 * j + 2) (prAd (Kc K0) "Work" "stocks") fd ["self"] (spOf (Sx w K0 mg base b) 1 (FN (PP cl) j 1002))
  | 0, _ => fn0_ok (S := Sx w K0 mg base b)
  | j + 1, h => (def_ok (S := Sx w K0 mg base b) (T := T) (k := 3 * j + 3) FD s_Work_stocks rfl (tb_ X G c (h j (Nat.lt_succ_self j) b)) (by omega) (xo_ X G c) c_Work_stocks).mono (by omega)
theorem bd_Work_stocks {fd : FuncData} (FD : FunD (Kc K0) "stocks" "Work.stocks" (defArgs (subSt (top 22) 3)) (defBody (subSt (top 22) 3)) (defScope (subSt (top 22) 3)) [] [] (prAd (Kc K0) "Work" "stocks") fd) : Binds (Kc K0) fd ["self"] [] := FD.bindsN (ps := ["self"]) fun _ _ _ _ _ _ us hl => match us, hl with | [_], _ => rfl
theorem p_Work_stocks (X : (Kc K0).In base) (G : base.Ns mainGlobals mg) (c : SA K0) (j : Nat) (h : ∀ i, i < j → ∀ b, Ok (Sx w K0 mg base b) i) : PrpOk (Sx w K0 mg base b) (3 * j + 2) 8 107 (FN (PP cl) j 1002) := by
  obtain ⟨fd, FD⟩ := fd_Work_stocks c
  exact prp_of (S := Sx w K0 mg base b) (K := Kc K0) rfl rfl rfl (cf c 0 (f := .cls "Work") rfl) (ek c 5 rfl) rfl (bd_Work_stocks FD) (f_Work_stocks X G c FD j h)
theorem fd_Work_steps (c : SA K0) : ∃ fd, FunD (Kc K0) "steps" "Work.steps" (defArgs (subSt (top 22) 4)) (defBody (subSt (top 22) 4)) (defScope (subSt (top 22) 4)) [] [] (He.ma (Kc K0) (He.ga (Kc K0) "Work") "steps") fd := c.d.def_ 23 (d := dm_Work_steps) rfl
theorem f_Work_steps (X : (Kc K0).In base) (G : base.Ns mainGlobals mg) (c : SA K0) {fd : FuncData} (FD : FunD (Kc K0) "steps" "Work.steps" (defArgs (subSt (top 22) 4)) (defBody (subSt (top 22) 4)) (defScope (subSt (top 22) 4)) [] [] (He.ma (Kc K0) (He.ga (Kc K0) "Work") "steps") fd) : ∀ j, (∀ i, i < j → ∀ b, Ok (Sx w K0 mg base b) i) → FnOk Pg w (Kc K0) mg base (L2.CX Pg w) (3 * j + 2) (He.ma (Kc K0) (He.ga (Kc K0) "Work") "steps") fd ["self"] (spOf (Sx w K0 mg base b) 1 (FN (PP cl) j 1003))
  | 0, _ => fn0_ok (S := Sx w K0 mg base b)
  | j + 1, h => (def_ok (S := Sx w K0 mg base b) (T := T) (k := 3 * j + 3) FD s_Work_steps rfl (tb_ X G c (h j (Nat.lt_succ_self j) b)) (by omega) (xo_ X G c) c_Work_steps).mono (by omega)
theorem bd_Work_steps {fd : FuncData} (FD : FunD (Kc K0) "steps" "Work.steps" (defArgs (subSt (top 22) 4)) (defBody (subSt (top 22) 4)) (defScope (subSt (top 22) 4)) [] [] (He.ma (Kc K0) (He.ga (Kc K0) "Work") "steps") fd) : Binds (Kc K0) fd ["self"] [] := FD.bindsN (ps := ["self"]) fun _ _ _ _ _ _ us hl => match us, hl with | [_], _ => rfl
theorem p_Work_steps (X : (Kc K0).In base) (G : base.Ns mainGlobals mg) (c : SA K0) (j : Nat) (h : ∀ i, i < j → ∀ b, Ok (Sx w K0 mg base b) i) : MthOk (Sx w K0 mg base b) (3 * j + 2) 8 108 1 (FN (PP cl) j 1003) := by
  obtain ⟨fd, FD⟩ := fd_Work_steps c
  exact mth_of (S := Sx w K0 mg base b) (K := Kc K0) rfl rfl rfl (cf c 0 (f := .cls "Work") rfl) (cf c 4 (f := .meth "Work" "steps") rfl) rfl (bd_Work_steps FD) (f_Work_steps X G c FD j h)
theorem fd_Work_eq (c : SA K0) : ∃ fd, FunD (Kc K0) "__eq__" "Work.__eq__" (defArgs (subSt (top 22) 9)) (defBody (subSt (top 22) 9)) (defScope (subSt (top 22) 9)) [] [] (He.ma (Kc K0) (He.ga (Kc K0) "Work") "__eq__") fd := c.d.def_ 24 (d := dm_Work_eq) rfl
theorem f_Work_eq (X : (Kc K0).In base) (G : base.Ns mainGlobals mg) (c : SA K0) {fd : FuncData} (FD : FunD (Kc K0) "__eq__" "Work.__eq__" (defArgs (subSt (top 22) 9)) (defBody (subSt (top 22) 9)) (defScope (subSt (top 22) 9)) [] [] (He.ma (Kc K0) (He.ga (Kc K0) "Work") "__eq__") fd) : ∀ j, (∀ i, i < j → ∀ b, Ok (Sx w K0 mg base b) i) → FnOk Pg w (Kc K0) mg base (L2.CX Pg w) (3 * j + 2) (He.ma (Kc K0) (He.ga (Kc K0) "Work") "__eq__") fd ["self", "other"] (spOf (Sx w K0 mg base b) 2 (FN (PP cl) j 1006))
  | 0, _ => fn0_ok (S := Sx w K0 mg base b)
  | j + 1, h => (def_ok (S := Sx w K0 mg base b) (T := T) (k := 3 * j + 3) FD s_Work_eq rfl (tb_ X G c (h j (Nat.lt_succ_self j) b)) (by omega) (xo_ X G c) c_Work_eq).mono (by omega)
theorem bd_Work_eq {fd : FuncData} (FD : FunD (Kc K0) "__eq__" "Work.__eq__" (defArgs (subSt (top 22) 9)) (defBody (subSt (top 22) 9)) (defScope (subSt (top 22) 9)) [] [] (He.ma (Kc K0) (He.ga (Kc K0) "Work") "__eq__") fd) : Binds (Kc K0) fd ["self", "other"] [] := FD.bindsN (ps := ["self", "other"]) fun _ _ _ _ _ _ us hl => match us, hl with | [_, _], _ => rfl
theorem p_Work_eq (X : (Kc K0).In base) (G : base.Ns mainGlobals mg) (c : SA K0) (j : Nat) (h : ∀ i, i < j → ∀ b, Ok (Sx w K0 mg base b) i) : MthOk (Sx w K0 mg base b) (3 * j + 2) 8 102 2 (FN (PP cl) j 1006) := by
  obtain ⟨fd, FD⟩ := fd_Work_eq c
  exact mth_of (S := Sx w K0 mg base b) (K := Kc K0) rfl rfl rfl (cf c 0 (f := .cls "Work") rfl) (cf c 5 (f := .meth "Work" "__eq__") rfl) rfl (bd_Work_eq FD) (f_Work_eq X G c FD j h)
theorem fd_Work_len (c : SA K0) : ∃ fd, FunD (Kc K0) "__len__" "Work.__len__" (defArgs (subSt (top 22) 10)) (defBody (subSt (top 22) 10)) (defScope (subSt (top 22) 10)) [] [] (He.ma (Kc K0) (He.ga (Kc K0) "Work") "__len__") fd := c.d.def_ 25 (d := dm_Work_len) rfl
theorem f_Work_len (X : (Kc K0).In base) (G : base.Ns mainGlobals mg) (c : SA K0) {fd : FuncData} (FD : FunD (Kc K0) "__len__" "Work.__len__" (defArgs (subSt (top 22) 10)) (defBody (subSt (top 22) 10)) (defScope (subSt (top 22) 10)) [] [] (He.ma (Kc K0) (He.ga (Kc K0) "Work") "__len__") fd) : ∀ j, (∀ i, i < j → ∀ b, Ok (Sx w K0 mg base b) i) → FnOk Pg w (Kc K0) mg base (L2.CX Pg w) (3 * j + 2) (He.ma (Kc K0) (He.ga (Kc K0) "Work") "__len__") fd ["self"] (spOf (Sx w K0 mg base b) 1 (FN (PP cl) j 1007))
  | 0, _ => fn0_ok (S := Sx w K0 mg base b)
  | j + 1, h => (def_ok (S := Sx w K0 mg base b) (T := T) (k := 3 * j + 3) FD s_Work_len rfl (tb_ X G c (h j (Nat.lt_succ_self j) b)) (by omega) (xo_ X G c) c_Work_len).mono (by omega)
theorem bd_Work_len {fd : FuncData} (FD : FunD (Kc K0) "__len__" "Work.__len__" (defArgs (subSt (top 22) 10)) (defBody (subSt (top 22) 10)) (defScope (subSt (top 22) 10)) [] [] (He.ma (Kc K0) (He.ga (Kc K0) "Work") "__len__") fd) : Binds (Kc K0) fd ["self"] [] := FD.bindsN (ps := ["self"]) fun _ _ _ _ _ _ us hl => match us, hl with | [_], _ => rfl
theorem p_Work_len (X : (Kc K0).In base) (G : base.Ns mainGlobals mg) (c : SA K0) (j : Nat) (h : ∀ i, i < j → ∀ b, Ok (Sx w K0 mg base b) i) : MthOk (Sx w K0 mg base b) (3 * j + 2) 8 100 1 (FN (PP cl) j 1007) := by
  obtain ⟨fd, FD⟩ := fd_Work_len c
  exact mth_of (S := Sx w K0 mg base b) (K := Kc K0) rfl rfl rfl (cf c 0 (f := .cls "Work") rfl) (cf c 6 (f := .meth "Work" "__len__") rfl) rfl (bd_Work_len FD) (f_Work_len X G c FD j h)
theorem fd_Work_text (c : SA K0) : ∃ fd, FunD (Kc K0) "text" "Work.text" (defArgs (subSt (top 22) 11)) (defBody (subSt (top 22) 11)) (defScope (subSt (top 22) 11)) [] [] (He.ma (Kc K0) (He.ga (Kc K0) "Work") "text") fd := c.d.def_ 26 (d := dm_Work_text) rfl
theorem f_Work_text (X : (Kc K0).In base) (G : base.Ns mainGlobals mg) (c : SA K0) {fd : FuncData} (FD : FunD (Kc K0) "text" "Work.text" (defArgs (subSt (top 22) 11)) (defBody (subSt (top 22) 11)) (defScope (subSt (top 22) 11)) [] [] (He.ma (Kc K0) (He.ga (Kc K0) "Work") "text") fd) : ∀ j, (∀ i, i < j → ∀ b, Ok (Sx w K0 mg base b) i) → FnOk Pg w (Kc K0) mg base (L2.CX Pg w) (3 * j + 2) (He.ma (Kc K0) (He.ga (Kc K0) "Work") "text") fd ["self"] (spOf (Sx w K0 mg base b) 1 (FN (PP cl) j 1008))
  | 0, _ => fn0_ok (S := Sx w K0 mg base b)
  | j + 1, h => (def_ok (S := Sx w K0 mg base b) (T := T) (k := 3 * j + 3) FD s_Work_text rfl (tb_ X G c (h j (Nat.lt_succ_self j) b)) (by omega) (xo_ X G c) c_Work_text).mono (by omega)
theorem bd_Work_text {fd : FuncData} (FD : FunD (Kc K0) "text" "Work.text" (defArgs (subSt (top 22) 11)) (defBody (subSt (top 22) 11)) (defScope (subSt (top 22) 11)) [] [] (He.ma (Kc K0) (He.ga (Kc K0) "Work") "text") fd) : Binds (Kc K0) fd ["self"] [] := FD.bindsN (ps := ["self"]) fun _ _ _ _ _ _ us hl => match us, hl with | [_], _ => rfl
theorem p_Work_text (X : (Kc K0).In base) (G : base.Ns mainGlobals mg) (c : SA K0) (j : Nat) (h : ∀ i, i < j → ∀ b, Ok (Sx w K0 mg base b) i) : MthOk (Sx w K0 mg base b) (3 * j + 2) 8 113 1 (FN (PP cl) j 1008) := by
  obtain ⟨fd, FD⟩ := fd_Work_text c
  exact mth_of (S := Sx w K0 mg base b) (K := Kc K0) rfl rfl rfl (cf c 0 (f := .cls "Work") rfl) (cf c 7 (f := .meth "Work" "text") rfl) rfl (bd_Work_text FD) (f_Work_text X G c FD j h)
theorem fd_Work_repr (c : SA K0) : ∃ fd, FunD (Kc K0) "__repr__" "Work.__repr__" (defArgs (subSt (top 22) 12)) (defBody (subSt (top 22) 12)) (defScope (subSt (top 22) 12)) [] [] (He.ma (Kc K0) (He.ga (Kc K0) "Work") "__repr__") fd := c.d.def_ 27 (d := dm_Work_repr) rfl
theorem f_Work_repr (X : (Kc K0).In base) (G : base.Ns mainGlobals mg) (c : SA K0) {fd : FuncData} (FD : FunD (Kc K0) "__repr__" "Work.__repr__" (defArgs (subSt (top 22) 12)) (defBody (subSt (top 22) 12)) (defScope (subSt (top 22) 12)) [] [] (He.ma (Kc K0) (He.ga (Kc K0) "Work") "__repr__") fd) : ∀ j, (∀ i, i < j → ∀ b, Ok (Sx w K0 mg base b) i) → FnOk Pg w (Kc K0) mg base (L2.CX Pg w) (3 * j + 2) (He.ma (Kc K0) (He.ga (Kc K0) "Work") "__repr__") fd ["self"] (spOf (Sx w K0 mg base b) 1 (FN (PP cl) j 1009))
  | 0, _ => fn0_ok (S := Sx w K0 mg base b)
  | j + 1, h => (def_ok (S := Sx w K0 mg base b) (T := T) (k := 3 * j + 3) FD s_Work_repr rfl (tb_ X G c (h j (Nat.lt_succ_self j) b)) (by omega) (xo_ X G c) c_Work_repr).mono (by omega)
theorem bd_Work_repr {fd : FuncData} (FD : FunD (Kc K0) "__repr__" "Work.__repr__" (defArgs (subSt (top 22) 12)) (defBody (subSt (top 22) 12)) (defScope (subSt (top 22) 12)) [] [] (He.ma (Kc K0) (He.ga (Kc K0) "Work") "__repr__") fd) : Binds (Kc K0) fd ["self"] [] := FD.bindsN (ps := ["self"]) fun _ _ _ _ _ _ us hl => match us, hl with | [_], _ => rfl
theorem p_Work_repr (X : (Kc K0).In base) (G : base.Ns mainGlobals mg) (c : SA K0) (j : Nat) (h : ∀ i, i < j → ∀ b, Ok (Sx w K0 mg base b) i) : MthOk (Sx w K0 mg base b) (3 * j + 2) 8 101 1 (FN (PP cl) j 1009) := by
  obtain ⟨fd, FD⟩ := fd_Work_repr c
  exact mth_of (S := Sx w K0 mg base b) (K := Kc K0) rfl rfl rfl (cf c 0 (f := .cls "Work") rfl) (cf c 8 (f := .meth "Work" "__repr__") rfl) rfl (bd_Work_repr FD) (f_Work_repr X G c FD j h)
theorem b_507_Work_read (X : (Kc K0).In base) (G : base.Ns mainGlobals mg) (c : SA K0) (j : Nat) (h : ∀ i, i < j → ∀ b, Ok (Sx w K0 mg base b) i) : CmKOk (Sx w K0 mg base b) (3 * j + 2) "Work" "read" 8 1 ["text"] (bndG 507) (FN (PP cl) j 1001) := by
  obtain ⟨fd, FD⟩ := fd_Work_read c
  have kb := kb_plain (ps := ["cls", "text"]) FD 1 ["text"] (fun us ws => pick [.p 0, .k 0] us [] ws) (fun r rz => pick_rel [.p 0, .k 0] r .nil rz) fun kV doc pm an cdv ct us ws h1 h2 => match us, ws, h1, h2 with | [_], [_], _, _ => rfl
  refine ⟨_, _, _, fd, ["cls", "text"], _, _, (glo X G c "Work" (by decide +kernel)), (cmB_ok (ek c 4 rfl)).1, (cmB_ok (ek c 4 rfl)).2, kb, fun ow io H ds zs vs us as hv hz e => ?_, f_Work_read X G c FD j h⟩
  match ds, zs, e with
    | [e0], [z0], e =>
      cases e
      obtain ⟨x0, _, rfl, r0, hv⟩ := hv.uncons
      cases hv.unnil
      obtain ⟨y0, _, rfl, q0, hz⟩ := hz.uncons
      cases hz.unnil
      exact ⟨rfl, rfl, rfl, (.cons r0 (.cons q0 .nil))⟩
def arG (f : Nat) : Nat := (([(100, 1), (101, 1), (102, 2), (108, 1), (113, 1)] : List (Nat × Nat)).lookup f).getD 0
theorem nmi_103 : NmI (Sx w K0 mg base b) 103 := fun g h => nmOf_inj (l := nmL) (s := "own_stocks") (by decide +kernel) (by decide +kernel) h
theorem nmi_104 : NmI (Sx w K0 mg base b) 104 := fun g h => nmOf_inj (l := nmL) (s := "own_steps") (by decide +kernel) (by decide +kernel) h
theorem nmi_107 : NmI (Sx w K0 mg base b) 107 := fun g h => nmOf_inj (l := nmL) (s := "stocks") (by decide +kernel) (by decide +kernel) h
theorem nmi_108 : NmI (Sx w K0 mg base b) 108 := fun g h => nmOf_inj (l := nmL) (s := "steps") (by decide +kernel) (by decide +kernel) h
theorem nmi_113 : NmI (Sx w K0 mg base b) 113 := fun g h => nmOf_inj (l := nmL) (s := "text") (by decide +kernel) (by decide +kernel) h
theorem mt_all (X : (Kc K0).In base) (G : base.Ns mainGlobals mg) (c : SA K0) (j : Nat) (h : ∀ i, i < j → ∀ b, Ok (Sx w K0 mg base b) i) : ∀ C f g, lk2 mtL C f = some g → MthOk (Sx w K0 mg base b) (3 * j + 2) C f (arG f) (FN (PP cl) j g) :=
  lk2_cons (P := fun C f g => MthOk (Sx w K0 mg base b) (3 * j + 2) C f (arG f) (FN (PP cl) j g)) (p_Work_steps X G c j h) (lk2_cons (P := fun C f g => MthOk (Sx w K0 mg base b) (3 * j + 2) C f (arG f) (FN (PP cl) j g)) (p_Work_eq X G c j h) (lk2_cons (P := fun C f g => MthOk (Sx w K0 mg base b) (3 * j + 2) C f (arG f) (FN (PP cl) j g)) (p_Work_len X G c j h) (lk2_cons (P := fun C f g => MthOk (Sx w K0 mg base b) (3 * j + 2) C f (arG f) (FN (PP cl) j g)) (p_Work_text X G c j h) (lk2_cons (P := fun C f g => MthOk (Sx w K0 mg base b) (3 * j + 2) C f (arG f) (FN (PP cl) j g)) (p_Work_repr X G c j h) (fun _ _ _ h => (lk2_nil h).elim)))))
theorem pr_all (X : (Kc K0).In base) (G : base.Ns mainGlobals mg) (c : SA K0) (j : Nat) (h : ∀ i, i < j → ∀ b, Ok (Sx w K0 mg base b) i) : ∀ C f o, lk2 prL C f = some o → (match o with | none => FldOk (Sx w K0 mg base b) C f | some g => PrpOk (Sx w K0 mg base b) (3 * j + 2) C f (FN (PP cl) j g)) :=
  lk2_cons (P := fun C f o => match o with | none => FldOk (Sx w K0 mg base b) C f | some g => PrpOk (Sx w K0 mg base b) (3 * j + 2) C f (FN (PP cl) j g)) (p_Work_stocks X G c j h) (lk2_cons (P := fun C f o => match o with | none => FldOk (Sx w K0 mg base b) C f | some g => PrpOk (Sx w K0 mg base b) (3 * j + 2) C f (FN (PP cl) j g)) (fld_of (S := Sx w K0 mg base b) (K := Kc K0) (x := "Work") (w := "own_stocks") rfl rfl rfl (cf c 0 (f := .cls "Work") rfl) (cf c 1 (f := .noat "Work" "own_stocks") rfl)) (lk2_cons (P := fun C f o => match o with | none => FldOk (Sx w K0 mg base b) C f | some g => PrpOk (Sx w K0 mg base b) (3 * j + 2) C f (FN (PP cl) j g)) (fld_of (S := Sx w K0 mg base b) (K := Kc K0) (x := "Work") (w := "own_steps") rfl rfl rfl (cf c 0 (f := .cls "Work") rfl) (cf c 2 (f := .noat "Work" "own_steps") rfl)) (fun _ _ _ h => (lk2_nil h).elim)))
theorem eq_all (c : SA K0) : ∀ C f g, lk2 mtL C f = some g → f = 102 → PySem.W.findIn (Kc K0) (.ref (He.ga (Kc K0) (cnG C))) "__ne__" = some (some (.builtin "object.__ne__")) ∧ PySem.W.mroIn (Kc K0) (He.ga (Kc K0) (cnG C)) (.type "object") = some true :=
  lk2_cons (P := fun C f g => f = 102 → PySem.W.findIn (Kc K0) (.ref (He.ga (Kc K0) (cnG C))) "__ne__" = some (some (.builtin "object.__ne__")) ∧ PySem.W.mroIn (Kc K0) (He.ga (Kc K0) (cnG C)) (.type "object") = some true) (fun e => absurd e (by decide)) (lk2_cons (P := fun C f g => f = 102 → PySem.W.findIn (Kc K0) (.ref (He.ga (Kc K0) (cnG C))) "__ne__" = some (some (.builtin "object.__ne__")) ∧ PySem.W.mroIn (Kc K0) (He.ga (Kc K0) (cnG C)) (.type "object") = some true) (fun _ => eqiB_ok (x := "Work") (ek c 6 rfl)) (lk2_cons (P := fun C f g => f = 102 → PySem.W.findIn (Kc K0) (.ref (He.ga (Kc K0) (cnG C))) "__ne__" = some (some (.builtin "object.__ne__")) ∧ PySem.W.mroIn (Kc K0) (He.ga (Kc K0) (cnG C)) (.type "object") = some true) (fun e => absurd e (by decide)) (lk2_cons (P := fun C f g => f = 102 → PySem.W.findIn (Kc K0) (.ref (He.ga (Kc K0) (cnG C))) "__ne__" = some (some (.builtin "object.__ne__")) ∧ PySem.W.mroIn (Kc K0) (He.ga (Kc K0) (cnG C)) (.type "object") = some true) (fun e => absurd e (by decide)) (lk2_cons (P := fun C f g => f = 102 → PySem.W.findIn (Kc K0) (.ref (He.ga (Kc K0) (cnG C))) "__ne__" = some (some (.builtin "object.__ne__")) ∧ PySem.W.mroIn (Kc K0) (He.ga (Kc K0) (cnG C)) (.type "object") = some true) (fun e => absurd e (by decide)) (fun _ _ _ h => (lk2_nil h).elim)))))
theorem isc_all (c : SA K0) : ∀ C D t, lk2 iscL C D = some t → Cls (Kc K0) (He.ga (Kc K0) (cnG C)) ∧ PySem.W.findIn (Kc K0) (.ref (He.ga (Kc K0) (cnG C))) "__class__" = some (some (.builtin "object.__class__")) ∧ PySem.W.specialIn (Kc K0) (.builtin "object.__class__") "__get__" = some (some (.builtin "getset_descriptor.__get__")) ∧ PySem.W.takesIn (Kc K0) (.builtin "object.__class__") = some true ∧ PySem.W.mroIn (Kc K0) (He.ga (Kc K0) (cnG C)) (.type "object") = some true ∧ PySem.W.kitOne (Kc K0) (.ref (He.ga (Kc K0) (cnG C))) (.ref (He.ga (Kc K0) (cnG D))) = some t :=
  lk2_cons (P := fun C D t => Cls (Kc K0) (He.ga (Kc K0) (cnG C)) ∧ PySem.W.findIn (Kc K0) (.ref (He.ga (Kc K0) (cnG C))) "__class__" = some (some (.builtin "object.__class__")) ∧ PySem.W.specialIn (Kc K0) (.builtin "object.__class__") "__get__" = some (some (.builtin "getset_descriptor.__get__")) ∧ PySem.W.takesIn (Kc K0) (.builtin "object.__class__") = some true ∧ PySem.W.mroIn (Kc K0) (He.ga (Kc K0) (cnG C)) (.type "object") = some true ∧ PySem.W.kitOne (Kc K0) (.ref (He.ga (Kc K0) (cnG C))) (.ref (He.ga (Kc K0) (cnG D))) = some t) (iscB_ok (x := "Work") (y := "Work") (ek c 2 rfl)) (fun _ _ _ h => (lk2_nil h).elim)
theorem cls_ (X : (Kc K0).In base) (G : base.Ns mainGlobals mg) (c : SA K0) (j : Nat) (h : ∀ i, i < j → ∀ b, Ok (Sx w K0 mg base b) i) : ClOk T (GG cl j) (Sx w K0 mg base b) (3 * j + 3) where
  lv := by omega
  nm := csIx_cons ⟨rfl, nmi_103⟩ (csIx_cons ⟨rfl, nmi_104⟩ (csIx_cons ⟨rfl, nmi_107⟩ (fun _ _ h => (by cases h))))
  fl := fun f i _ C e => pr_all X G c j h C i none e
  pr := fun f i _ C g e => ⟨3 * j + 2, by omega, pr_all X G c j h C i (some g) e⟩
  mt := fnIx_cons ⟨rfl, nmi_108, fun C g e => (mt_all X G c j h C 108 g e).mono (by omega)⟩ (fnIx_cons ⟨rfl, nmi_113, fun C g e => (mt_all X G c j h C 113 g e).mono (by omega)⟩ (fun _ _ _ h => (fnIx_nil h).elim))
  mm := mmIx_cons ⟨3 * j + 2, by omega, p_Work_init X G c j h⟩ (fun _ _ _ _ h => (by cases h))
  mmK := fun _ _ _ _ _ _ h => (by cases h)
  cc := ccIx_cons (ccB_ok (S := Sx w K0 mg base b) X G (ek c 0 rfl) (glo X G c "Work" (by decide +kernel))) (fun _ _ _ h => (by cases h))
  sm := smIx_cons (P := fun x y n f d => match d with | some C => CmOk (Sx w K0 mg base b) (3 * j + 3) x y C (n + 1) (FN (PP cl) j f) | none => SmOk (Sx w K0 mg base b) (3 * j + 3) x y n (FN (PP cl) j f)) (let ⟨mc, p, g, h1, h2, h3, F⟩ := p_Work_read X G c j h; ⟨mc, p, g, h1, h2, h3, F.mono (by omega)⟩) (fun _ _ _ _ _ h => (by cases h))
  mtK := fun _ _ _ _ _ h => (by cases h)
  smK := smKx_cons (P := fun x y n l f e d => match d with | some C => CmKOk (Sx w K0 mg base b) (3 * j + 3) x y C (n + 1) l (bndG e) (FN (PP cl) j f) | none => SmKOk (Sx w K0 mg base b) (3 * j + 3) x y n l (bndG e) (FN (PP cl) j f)) (let ⟨a1, a2, a3, a4, a5, a6, a7, h1, h2, h3, h4, h5, F⟩ := b_507_Work_read X G c j h; ⟨a1, a2, a3, a4, a5, a6, a7, h1, h2, h3, h4, h5, F.mono (by omega)⟩) (fun _ _ _ _ _ _ _ h => (by cases h))
  cl := csIx_cons ⟨(glo X G c "Work" (by decide +kernel)), ⟨iscTyB_ok (y := "Work") (ek c 1 rfl), fun C t e => isc_all c C 8 t e⟩⟩ (fun _ _ h => (by cases h))
  ln := fun _ => ⟨rfl, fun C g e => ⟨3 * j + 2, by omega, mt_all X G c j h C 100 g e⟩⟩
  rp := fun _ => ⟨rfl, fun C g e => ⟨3 * j + 2, by omega, mt_all X G c j h C 101 g e⟩⟩
  eq := fun _ => ⟨rfl, fun C g e => ⟨3 * j + 2, by omega, mt_all X G c j h C 102 g e, eq_all c C 102 g e rfl⟩⟩
theorem ok_ (X : (Kc K0).In base) (G : base.Ns mainGlobals mg) (c : SA K0) : ∀ j, ∀ i, i < j → ∀ b, Ok (Sx w K0 mg base b) i
  | 0, i, h, b => absurd h (Nat.not_lt_zero i)
  | j + 1, i, hi, b => by
    have ih : ∀ i, i < j → ∀ b, Ok (Sx w K0 mg base b) i := ok_ X G c j
    by_cases e : i < j
    · exact ih i e b
    have e : i = j := by omega
    subst e
    refine ⟨?_, ?_, ?_, ?_⟩
    · exact fnIx_cons (k__wall X G c i ih) (fnIx_cons (k_is_number X G c i ih) (fnIx_cons (k_is_within X G c i ih) (fnIx_cons (k_number_in X G c i ih) (fnIx_cons (k_are_stocks X G c i ih) (fnIx_cons (k_need_stocks X G c i ih) (fnIx_cons (k_is_side X G c i ih) (fnIx_cons (k_is_step X G c i ih) (fnIx_cons (k_side_text X G c i ih) (fnIx_cons (k_side_in X G c i ih) (fnIx_cons (k_step_in X G c i ih) (fnIx_cons (k__law_bag X G c i ih) (fnIx_cons (k__law_draw X G c i ih) (fnIx_cons (k__law_of X G c i ih) (fnIx_cons (k__law_some_stocks X G c i ih) (fnIx_cons (k__law_some_side X G c i ih) (fnIx_cons (k__law_some_steps X G c i ih) (fnIx_cons (k__law_side_text X G c i ih) (fnIx_cons (k__law_work_text X G c i ih) (fnIx_cons (k__law_alike X G c i ih) (fnIx_cons (k__law_is_work X G c i ih) (fun _ _ _ h => (fnIx_nil h).elim)))))))))))))))))))))
    · exact fun _ _ _ _ _ h => by cases h
    · exact fun _ _ h => (frIx_nil h).elim
    · exact cls_ X G c i ih
noncomputable abbrev F_law : Mp.Fn := FN (PP cl) 61 50
theorem fn_law (X : (Kc K0).In base) (G : base.Ns mainGlobals mg) (c : SA K0) {fd : FuncData} (FD : FunD (Kc K0) "law" "law" (defArgs (top 34)) (defBody (top 34)) (defScope (top 34)) [] [] (He.ga (Kc K0) "law") fd) :
    FnOk Pg w (Kc K0) mg base (L2.CX Pg w) 186 (He.ga (Kc K0) "law") fd ["_law_script"] (spOf (Sx w K0 mg base b) 1 F_law) := by
  exact (def_ok (S := Sx w K0 mg base b) (T := T) (k := 183) FD s_law rfl (tb_ X G c (ok_ X G c 61 60 (by decide) b)) (by decide) (xo_ X G c) c_law).mono (by decide)
end
/-- what the law's def promises -/
def spLaw (K0 : Mp.Frag) : Sp := fun vs H Q _ => ∃ (a : Addr) (ns : List Int), vs = [.ref a] ∧ ns.length ≤ 63 ∧ SqL (Kc K0) H a (ns.map V.int) ∧ ∀ H', Q (.bl true) H'
def Law : Prop := ∀ ns : List Int, ns.length ≤ 63 → ∃ m', F_law [.fz (ns.map Mp.D.int)] [] = .ok (.bl true) m'
theorem rvs_ints {S : Sta} {ow : Addr → Prop} {io : List Addr} {H : Hp} : ∀ ns : List Int, RVs S ow io H (ns.map Mp.D.int) (ns.map V.int)
  | [] => .nil
  | n :: ns => .cons .mk_int (rvs_ints ns)
theorem law_imp (hL : Law) {w : World} {K0 : Mp.Frag} {mg : Str → Option Value} {base : Heap} {vs : List V} {H : Hp} {Q : VK} {E : XK} (h : spLaw K0 vs H Q E) : spOf (Sx w K0 mg base 0) 1 F_law vs H Q E := by
  obtain ⟨a, ns, rfl, hl, hS, q⟩ := h
  obtain ⟨m', e⟩ := hL ns hl
  refine ⟨fun _ => False, [], [.fz (ns.map Mp.D.int)], [], ⟨fun p hp => ?_, rfl, by simp, fun n o z => by simp at z⟩, fun _ z => z.elim, .cons ?_ .nil, rfl, ?_⟩
  · cases hp
  · unfold RV
    exact ⟨a, _, rfl, hS.imp (fun z => ⟨z, by simp, fun z => z.elim⟩) id, rvs_ints ns⟩
  · rw [e]
    intro io' H' v _ _ hv
    cases hv.of_bl
    exact q H'
abbrev RW : PySem.W.OpenLaw := PySem.Challenge.rw_kindlebody_k06_whole_texts_of_works
theorem at_law (hL : Law) (w : World) (mg : Str → Option Value) (f : Addr) (h : Heap) (Y : hk.says w h) (G : h.Ns mainGlobals mg) (hf : mg ("law" : Str) = some (.ref f)) : ∃ K : Mp.Frag, K.In h ∧ LamX.LawAtS RW w K (L2.CX Pg w) 186 63 "_law_script" mg f h := by
  obtain ⟨K0, X0, c⟩ := Y
  have X : (Kc K0).In h := cut_in X0
  obtain ⟨fd, FD⟩ := c.d.def_ 21 (d := dd "law" 34 []) rfl
  have FD : FunD (Kc K0) "law" "law" (defArgs (top 34)) (defBody (top 34)) (defScope (top 34)) [] [] (He.ga (Kc K0) "law") fd := FD
  have e := hf.symm.trans (glo X G c "law" (by decide +kernel))
  cases e
  refine ⟨Kc K0, X, fd, [], spLaw K0, fun p hp => (by cases hp), fun p hp => (by cases hp), fun p hp => (by cases hp), fun s u => ?_, fun H a ns h1 _ h2 h3 => ?_, fun base Kb Gb T => ?_⟩
  · exact FunD.bindsA (ps := ["_law_script"]) FD (fun _ _ _ _ _ _ us hl => match us, hl with | [_], _ => rfl) s [u] rfl
  · exact ⟨a, ns, rfl, h1, h3, fun _ => rfl⟩
  · exact (fn_law (w := w) Kb Gb c FD).imp fun vs H Q E h => law_imp hL h
end K06
open PySem PySem.W PySem.Calls PyProof.Rows
theorem K06.holds_of (hL : K06.Law) : PySem.Challenge.rw_kindlebody_k06_whole_texts_of_works.Holds := by
  w_on; o_law
  refine HandSHeadRun.head_any (r := OpenLaw.row PySem.Challenge.rw_kindlebody_k06_whole_texts_of_works) (q := view (OpenLaw.row PySem.Challenge.rw_kindlebody_k06_whole_texts_of_works).prog [34]) (H := K06.hk) (ob := K06.ob) (M := 6000) (loose := K06.loose) (d := HandSHeadRun.topDef (OpenLaw.row PySem.Challenge.rw_kindlebody_k06_whole_texts_of_works).prog 34) (kwd := []) K06.ob_eq
    (by kernel_rfl) (fun s => by kernel_rfl) K06.run (by kernel_rfl) (by kernel_rfl) (by kernel_rfl) (by rfl) (by first | assumption | decide +kernel) (by decide +kernel) ⟨rfl, rfl, rfl, rfl, rfl, by decide +kernel⟩ ?hw ?hc
  case hw => w_witness2
  case hc =>
    refine Mp.walk_ofTE (l := PySem.Challenge.rw_kindlebody_k06_whole_texts_of_works) (n := 63) (k := 186) (x := "_law_script") (CX := fun w => L2.CX K06.Pg w) rfl (by decide) (by kernel_rfl) ⟨rfl, by decide, by decide⟩ ?F (fun _ _ _ _ _ ⟨_, _, _, _, _, _, _, _, _, _, _, _, q⟩ => q.elim)
    intro w mg f h Y G hmg0
    have hmg : mg ("law" : PySem.Str) = some (.ref f) := by
      have e : (HandSHeadRun.topDef (OpenLaw.row PySem.Challenge.rw_kindlebody_k06_whole_texts_of_works).prog 34).name = ("law" : PySem.Str) := by kernel_rfl
      rw [← e]
      exact hmg0
    exact K06.at_law hL w mg f h Y G hmg
end
section
set_option Elab.async false
set_option linter.all false
set_option maxRecDepth 100000
set_option maxHeartbeats 1000000
/-! LBase: numbers, the laws' draws, reduced fractions of the laws. -/
namespace Kb
open PySem PySem.Spec PyProof.Rows L2 Mp
/-! ### sizes -/
theorem small_log {n : Nat} (h : n < 2 ^ 200) : n.log2 < 200 := by
  by_cases z : n = 0
  · rw [z]; decide
  · exact (Nat.log2_lt z).mpr h
theorem small_div {j : Int} (h : 0 < j) (h2 : j < 2 ^ 200) : divOk j = true := by
  have := small_log (n := j.natAbs) (by omega)
  unfold divOk
  rw [Bool.and_eq_true, decide_eq_true_eq, decide_eq_true_eq]
  omega
theorem small_mul {i j : Int} (h : i.natAbs < 2 ^ 200) (h2 : j.natAbs < 2 ^ 200) : mulOk i j = true := by
  have := small_log h
  have := small_log h2
  unfold mulOk
  exact decide_eq_true (by omega)
theorem mul_int {i j : Int} (h : i.natAbs < 2 ^ 200) (h2 : j.natAbs < 2 ^ 200) : binD .mul (.int i) (.int j) = some (.int (i * j)) := bin_mul_int i j (small_mul h h2)
theorem fdiv_int {i j : Int} (h : 0 < j) (h2 : j < 2 ^ 200) : binD .fdiv (.int i) (.int j) = some (.int (i / j)) := bin_fdiv_int i j (small_div h h2)
/-! ### gcd -/
/-- Euclid's loop -/
def gcdL (a b : Int) : Int := if h : 0 < b then gcdL b (a % b) else a
termination_by b.toNat
decreasing_by
  have := Int.emod_lt_of_pos a h
  have := Int.emod_nonneg a (show b ≠ 0 by omega)
  omega
theorem gcdL_gcd (n : Nat) : ∀ a b : Int, 0 ≤ a → 0 ≤ b → b.toNat ≤ n → gcdL a b = Int.gcd a b := by
  induction n with
  | zero =>
    intro a b ha hb h
    have : b = 0 := by omega
    subst this
    rw [gcdL, dif_neg (by omega), Int.gcd_zero_right]
    omega
  | succ n ih =>
    intro a b ha hb h
    rw [gcdL]
    by_cases z : 0 < b
    · have h1 := Int.emod_lt_of_pos a z
      have h2 := Int.emod_nonneg a (show b ≠ 0 by omega)
      rw [dif_pos z, ih b (a % b) hb h2 (by omega)]
      have e : Int.gcd b (a % b) = Int.gcd a b := by
        rw [← Int.gcd_add_mul_left_right b (a % b) (a / b), Int.emod_add_mul_ediv, Int.gcd_comm]
      rw [e]
    · have : b = 0 := by omega
      subst this
      rw [dif_neg z, Int.gcd_zero_right]
      omega
abbrev absI (t : Int) : Int := if t < 0 then -t else t
theorem absI_nn (t : Int) : 0 ≤ absI t := by unfold absI; split <;> omega
theorem absI_abs (t : Int) : absI t = (t.natAbs : Int) := by unfold absI; split <;> omega
theorem gcd_abs (t b : Int) : gcdL (absI t) (absI b) = Int.gcd t b := by
  rw [gcdL_gcd _ _ _ (absI_nn t) (absI_nn b) (Nat.le_refl _), absI_abs, absI_abs]
  simp [Int.gcd]
theorem gcd_pos_ (t b : Int) (h : 0 < b) : gcdL (absI t) b = Int.gcd t b := by
  rw [← gcd_abs]
  congr 1
  unfold absI
  rw [if_neg (by omega)]
def sg (b : Int) : Int := if b < 0 then -1 else 1
def gg (t b : Int) : Int := (Int.gcd t b : Nat)
theorem gg_pos (t b : Int) (hb : b ≠ 0) : 0 < gg t b := by
  have := Int.gcd_pos_of_ne_zero_right t hb
  unfold gg
  omega
theorem gg_le (t b : Int) (hb : b ≠ 0) : gg t b ≤ b.natAbs := by
  have := Int.gcd_le_natAbs_right t hb
  unfold gg
  omega
theorem sg_mul (b : Int) : ∀ t, sg b * t = if b < 0 then -t else t := fun t => by
  unfold sg
  split <;> omega
/-- numerator and denominator of the reduced fraction -/
def rn (t b : Int) : Int := sg b * t / gg t b
def rd (t b : Int) : Int := sg b * b / gg t b
/-- the reduced fraction of two numbers -/
def due (t b : Int) : Mp.D := .tup [.int (rn t b), .int (rd t b)]
/-- in lowest terms -/
structure Low (n d : Int) : Prop where
  pos : 0 < d
  cop : Int.gcd n d = 1
theorem red_fr (t b : Int) (hb : b ≠ 0) : Low (rn t b) (rd t b) := by
  have g0 := gg_pos t b hb
  have d1 : gg t b ∣ t := Int.gcd_dvd_left t b
  have d2 : gg t b ∣ b := Int.gcd_dvd_right t b
  have p : 0 < sg b * b / gg t b := by
    have d3 : gg t b ∣ sg b * b := Int.dvd_mul_of_dvd_right d2
    have q : 0 < sg b * b := by rw [sg_mul]; split <;> omega
    exact Int.ediv_pos_of_pos_of_dvd q (by omega) d3
  refine ⟨p, ?_⟩
  unfold rn rd
  rw [Int.gcd_ediv (Int.dvd_mul_of_dvd_right d1) (Int.dvd_mul_of_dvd_right d2)]
  have : Int.gcd (sg b * t) (sg b * b) = Int.gcd t b := by
    rw [Int.gcd_mul_left]
    unfold sg
    split <;> simp
  rw [this]
  show Int.gcd t b / (gg t b).natAbs = 1
  unfold gg
  rw [Int.natAbs_natCast]
  exact Nat.div_self (Int.gcd_pos_of_ne_zero_right t hb)
theorem red_eq (t b : Int) (hb : b ≠ 0) : rn t b * b = t * rd t b := by
  have g0 := gg_pos t b hb
  have d1 : gg t b ∣ t := Int.gcd_dvd_left t b
  have d2 : gg t b ∣ b := Int.gcd_dvd_right t b
  unfold rn rd
  generalize gg t b = g at *
  generalize sg b = s
  obtain ⟨x, rfl⟩ := d1
  obtain ⟨y, rfl⟩ := d2
  rw [Int.mul_left_comm s g x, Int.mul_left_comm s g y, Int.mul_ediv_cancel_left _ (by omega), Int.mul_ediv_cancel_left _ (by omega)]
  simp only [Int.mul_assoc, Int.mul_comm, Int.mul_left_comm]
theorem ediv_abs_le (a g : Int) (h : 0 < g) (hd : g ∣ a) : (a / g).natAbs ≤ a.natAbs := by
  obtain ⟨x, rfl⟩ := hd
  rw [Int.mul_ediv_cancel_left _ (by omega), Int.natAbs_mul]
  have : 1 ≤ g.natAbs := by omega
  exact Nat.le_mul_of_pos_left _ this
theorem sg_abs (b t : Int) : (sg b * t).natAbs = t.natAbs := by rw [sg_mul]; split <;> omega
theorem rn_le (t b : Int) (hb : b ≠ 0) : (rn t b).natAbs ≤ t.natAbs := by
  have := ediv_abs_le (sg b * t) (gg t b) (gg_pos t b hb) (Int.dvd_mul_of_dvd_right (Int.gcd_dvd_left t b))
  rw [sg_abs] at this
  exact this
theorem rd_le (t b : Int) (hb : b ≠ 0) : (rd t b).natAbs ≤ b.natAbs := by
  have := ediv_abs_le (sg b * b) (gg t b) (gg_pos t b hb) (Int.dvd_mul_of_dvd_right (Int.gcd_dvd_right t b))
  rw [sg_abs] at this
  exact this
theorem fr_dvd {n d a : Int} (h : Low n d) (e : d ∣ n * a) : d ∣ a := by
  have c : Nat.Coprime d.natAbs n.natAbs := by
    have := h.cop
    rw [Int.gcd_comm] at this
    exact this
  have e' : d.natAbs ∣ n.natAbs * a.natAbs := by
    rw [← Int.natAbs_mul]
    exact Int.natAbs_dvd_natAbs.mpr e
  exact Int.natAbs_dvd_natAbs.mp (c.dvd_of_dvd_mul_left e')
theorem Low.uniq {n d n' d' : Int} (h : Low n d) (h' : Low n' d') (e : n * d' = n' * d) : n = n' ∧ d = d' := by
  have h1 : d ∣ d' := fr_dvd h ⟨n', by rw [e, Int.mul_comm]⟩
  have h2 : d' ∣ d := fr_dvd h' ⟨n, by rw [← e, Int.mul_comm]⟩
  have p := h.pos
  have p' := h'.pos
  have e1 : d = d' := Int.le_antisymm (Int.le_of_dvd p' h1) (Int.le_of_dvd p h2)
  subst e1
  exact ⟨Int.eq_of_mul_eq_mul_right (by omega) e, rfl⟩
theorem due_eq {t b n d : Int} (hb : b ≠ 0) (h : Low n d) (e : t * d = n * b) : due t b = .tup [.int n, .int d] := by
  have f := red_fr t b hb
  have q := red_eq t b hb
  have : rn t b * d = n * rd t b := by
    apply Int.eq_of_mul_eq_mul_right hb
    calc rn t b * d * b = rn t b * b * d := by rw [Int.mul_assoc, Int.mul_comm d b, ← Int.mul_assoc]
      _ = t * rd t b * d := by rw [q]
      _ = t * d * rd t b := by rw [Int.mul_assoc, Int.mul_comm (rd t b) d, ← Int.mul_assoc]
      _ = n * b * rd t b := by rw [e]
      _ = n * rd t b * b := by rw [Int.mul_assoc, Int.mul_comm b, ← Int.mul_assoc]
  obtain ⟨e1, e2⟩ := f.uniq h this
  unfold due
  rw [e1, e2]
theorem due_self {n d : Int} (h : Low n d) : due n d = .tup [.int n, .int d] := due_eq (by have := h.pos; omega) h rfl
/-- equal quotients -/
theorem due_cross {t b t' b' : Int} (hb : b ≠ 0) (hb' : b' ≠ 0) (e : t * b' = t' * b) : due t b = due t' b' := by
  refine due_eq hb (red_fr t' b' hb') ?_
  have q := red_eq t' b' hb'
  apply Int.eq_of_mul_eq_mul_right hb'
  calc t * rd t' b' * b' = t * b' * rd t' b' := by rw [Int.mul_assoc, Int.mul_comm (rd t' b') b', ← Int.mul_assoc]
    _ = t' * b * rd t' b' := by rw [e]
    _ = t' * rd t' b' * b := by rw [Int.mul_assoc, Int.mul_comm b, ← Int.mul_assoc]
    _ = rn t' b' * b' * b := by rw [q]
    _ = rn t' b' * b * b' := by rw [Int.mul_assoc, Int.mul_comm b' b, ← Int.mul_assoc]
end Kb
end
section
set_option Elab.async false
set_option linter.all false
set_option maxRecDepth 100000
set_option maxHeartbeats 1000000
/-! LDraw: the laws' bag of draws. -/
namespace Kb
open PySem PySem.Spec PyProof.Rows L2 Mp
/-- the bag of draws, ahead of all other shared objects -/
def Bag (ns : List Int) (rest : MH) (m : MH) : Prop := ∃ i big mark : Int, m = .lst [.lst (ns.map Mp.D.int), .int i, .int big, .int mark] :: rest ∧ 0 ≤ i ∧ 0 ≤ big ∧ 0 ≤ mark ∧ mark < 2147483563
section
variable (cl : List Nat) (kk : Nat) (rest : MH)
theorem mark_mul {a k : Int} (h0 : 0 ≤ a) (h1 : a < 2147483563) (hk : k.natAbs < 2 ^ 40) : mulOk a k = true := small_mul (by omega) (by omega)
theorem draw_end (ns : List Int) (i mark many : Int) (s2 s3 s4 : Option Sl) (hm : 0 ≤ mark) (hm2 : mark < 2147483563) (h : 0 < many) :
    exs (GG cl kk) mkxG [.setX (.loc 0) (.k (.int 3)) (.bin .mod (.blt .int_ [(.bin .add (.bin .mul (.idx (.loc 0) (.k (.int 3))) (.k (.int 48889))) (.k (.int 1013)))]) (.k (.int 2147483563))), .ret (.bin .mod (.blt .int_ [(.bin .fdiv (.bin .mod (.blt .int_ [(.bin .mul (.idx (.loc 0) (.k (.int 3))) (.idx (.loc 0) (.k (.int 3))))]) (.k (.int 999999937))) (.k (.int 31)))]) (.loc 1))]
      [some (.val (.ref 0)), some (.val (.int many)), s2, s3, s4] (.lst [.lst (ns.map Mp.D.int), .int i, .int 0, .int mark] :: rest) =
    .rt (.int ((((mark * 48889 + 1013) % 2147483563) * ((mark * 48889 + 1013) % 2147483563)) % 999999937 / 31 % many)) (.lst [.lst (ns.map Mp.D.int), .int i, .int 0, .int ((mark * 48889 + 1013) % 2147483563)] :: rest) := by
  have k1 : mulOk mark 48889 = true := mark_mul hm hm2 (by decide)
  have b0 := Int.emod_nonneg (mark * 48889 + 1013) (show (2147483563 : Int) ≠ 0 by decide)
  have b1 := Int.emod_lt_of_pos (mark * 48889 + 1013) (show (0 : Int) < 2147483563 by decide)
  have k2 : mulOk ((mark * 48889 + 1013) % 2147483563) ((mark * 48889 + 1013) % 2147483563) = true := mark_mul b0 b1 (by omega)
  have k3 : divOk 31 = true := by decide
  have a1 : Mp.ex (GG cl kk) mkxG (.setX (.loc 0) (.k (.int 3)) (.bin .mod (.blt .int_ [(.bin .add (.bin .mul (.idx (.loc 0) (.k (.int 3))) (.k (.int 48889))) (.k (.int 1013)))]) (.k (.int 2147483563)))) [some (.val (.ref 0)), some (.val (.int many)), s2, s3, s4] (.lst [.lst (ns.map Mp.D.int), .int i, .int 0, .int mark] :: rest) =
      .nx [some (.val (.ref 0)), some (.val (.int many)), s2, s3, s4] (.lst [.lst (ns.map Mp.D.int), .int i, .int 0, .int ((mark * 48889 + 1013) % 2147483563)] :: rest) := by
    simp [idxD, seqD, atI, ixN, bin_mul_int, bin_mod_int, setXD, k1]
  rw [exs_cons, a1, SR.then_nx]
  generalize (mark * 48889 + 1013) % 2147483563 = r at *
  simp [idxD, seqD, atI, ixN, bin_mul_int, bin_mod_int, bin_fdiv_int, k2, k3, h]
abbrev dT1 : Mp.St := .ife (.cmp .gt (.idx (.loc 0) (.k (.int 2))) (.k (.int 0))) [.asg (.nm 3) (.bin .mod (.blt .int_ [(.idx (.loc 0) (.k (.int 2)))]) (.loc 1)), .setX (.loc 0) (.k (.int 2)) (.bin .fdiv (.idx (.loc 0) (.k (.int 2))) (.loc 1)), .ret (.loc 3)] []
abbrev dT2 : List Mp.St := [.setX (.loc 0) (.k (.int 3)) (.bin .mod (.blt .int_ [(.bin .add (.bin .mul (.idx (.loc 0) (.k (.int 3))) (.k (.int 48889))) (.k (.int 1013)))]) (.k (.int 2147483563))), .ret (.bin .mod (.blt .int_ [(.bin .fdiv (.bin .mod (.blt .int_ [(.bin .mul (.idx (.loc 0) (.k (.int 3))) (.idx (.loc 0) (.k (.int 3))))]) (.k (.int 999999937))) (.k (.int 31)))]) (.loc 1))]
theorem draw_tail (ns : List Int) (i big mark many : Int) (s2 s3 s4 : Option Sl) (hi : 0 ≤ i) (hb : 0 ≤ big) (hm : 0 ≤ mark) (hm2 : mark < 2147483563) (h : 0 < many) (hd : divOk many = true) :
    ∃ r m', exs (GG cl kk) mkxG (dT1 :: dT2) [some (.val (.ref 0)), some (.val (.int many)), s2, s3, s4] (.lst [.lst (ns.map Mp.D.int), .int i, .int big, .int mark] :: rest) = .rt (.int r) m' ∧ 0 ≤ r ∧ r < many ∧ Bag ns rest m' := by
  rw [exs_cons]
  by_cases z : 0 < big
  · refine ⟨big % many, .lst [.lst (ns.map Mp.D.int), .int i, .int (big / many), .int mark] :: rest, ?_, Int.emod_nonneg _ (by omega), Int.emod_lt_of_pos _ h, ⟨i, big / many, mark, rfl, hi, Int.ediv_nonneg hb (by omega), hm, hm2⟩⟩
    simp [tst, idxD, seqD, atI, ixN, bin_mod_int, bin_fdiv_int, setXD, z, h, hd]
  · have z0 : big = 0 := by omega
    subst z0
    have e : Mp.ex (GG cl kk) mkxG dT1 [some (.val (.ref 0)), some (.val (.int many)), s2, s3, s4] (.lst [.lst (ns.map Mp.D.int), .int i, .int 0, .int mark] :: rest) = .nx [some (.val (.ref 0)), some (.val (.int many)), s2, s3, s4] (.lst [.lst (ns.map Mp.D.int), .int i, .int 0, .int mark] :: rest) := by
      simp [tst, idxD, seqD, atI, ixN]
    rw [e, SR.then_nx]
    have b0 := Int.emod_nonneg (mark * 48889 + 1013) (show (2147483563 : Int) ≠ 0 by decide)
    have b1 := Int.emod_lt_of_pos (mark * 48889 + 1013) (show (0 : Int) < 2147483563 by decide)
    exact ⟨_, _, draw_end cl kk rest ns i mark many s2 s3 s4 hm hm2 h, Int.emod_nonneg _ (by omega), Int.emod_lt_of_pos _ h, ⟨i, 0, _, rfl, hi, by omega, b0, b1⟩⟩
abbrev dB1 : Mp.St := .asg (.nm 2) (.idx (.idx (.loc 0) (.k (.int 0))) (.idx (.loc 0) (.k (.int 1))))
abbrev dB2 : Mp.St := .setX (.loc 0) (.k (.int 1)) (.bin .add (.idx (.loc 0) (.k (.int 1))) (.k (.int 1)))
abbrev dB3 : Mp.St := .ife (.cmp .ge (.loc 2) (.bin .pow (.k (.int 10)) (.k (.int 18)))) [.setX (.loc 0) (.k (.int 2)) (.loc 2)] [.asg (.nm 4) (.bin .add (.bin .mul (.idx (.loc 0) (.k (.int 3))) (.k (.int 39373))) (.bin .mod (.blt .int_ [(.loc 2)]) (.k (.int 2000000011)))), .setX (.loc 0) (.k (.int 3)) (.bin .mod (.blt .int_ [(.bin .add (.loc 4) (.idx (.loc 0) (.k (.int 1))))]) (.k (.int 2147483563)))]
abbrev dT0 : Mp.St := .ife (.andv (.cmp .eq (.idx (.loc 0) (.k (.int 2))) (.k (.int 0))) (.cmp .lt (.idx (.loc 0) (.k (.int 1))) (.blt .len [(.idx (.loc 0) (.k (.int 0)))]))) [dB1, dB2, dB3] []
theorem at_row (ns : List Int) (i : Int) (h0 : 0 ≤ i) (h1 : i < ns.length) : ∃ c : Int, atI (ns.map Mp.D.int) i = some (.int c) := by
  have hj : i.toNat < ns.length := by omega
  refine ⟨ns[i.toNat], ?_⟩
  unfold atI ixN
  rw [List.length_map, if_pos h0, if_pos h1]
  simp [hj]
theorem draw_head (ns : List Int) (i big mark many : Int) (hi : 0 ≤ i) (hb : 0 ≤ big) (hm : 0 ≤ mark) (hm2 : mark < 2147483563) :
    ∃ s2 s4 i' big' mark', Mp.ex (GG cl kk) mkxG dT0 [some (.val (.ref 0)), some (.val (.int many)), none, none, none] (.lst [.lst (ns.map Mp.D.int), .int i, .int big, .int mark] :: rest) = .nx [some (.val (.ref 0)), some (.val (.int many)), s2, none, s4] (.lst [.lst (ns.map Mp.D.int), .int i', .int big', .int mark'] :: rest) ∧ 0 ≤ i' ∧ 0 ≤ big' ∧ 0 ≤ mark' ∧ mark' < 2147483563 := by
  have kp : binD .pow (.int 10) (.int 18) = some (.int 1000000000000000000) := by kernel_rfl
  by_cases c1 : big = 0 ∧ i < ns.length
  · obtain ⟨rfl, c2⟩ := c1
    obtain ⟨c, hc⟩ := at_row ns i hi c2
    have t : tst (ev (GG cl kk) (.andv (.cmp .eq (.idx (.loc 0) (.k (.int 2))) (.k (.int 0))) (.cmp .lt (.idx (.loc 0) (.k (.int 1))) (.blt .len [(.idx (.loc 0) (.k (.int 0)))])))) [some (.val (.ref 0)), some (.val (.int many)), none, none, none] (.lst [.lst (ns.map Mp.D.int), .int i, .int 0, .int mark] :: rest) = .ok true (.lst [.lst (ns.map Mp.D.int), .int i, .int 0, .int mark] :: rest) := by
      simp [tst, idxD, seqD, atI, ixN, c2]
    have e1 : Mp.ex (GG cl kk) mkxG dB1 [some (.val (.ref 0)), some (.val (.int many)), none, none, none] (.lst [.lst (ns.map Mp.D.int), .int i, .int 0, .int mark] :: rest) = .nx [some (.val (.ref 0)), some (.val (.int many)), some (.val (.int c)), none, none] (.lst [.lst (ns.map Mp.D.int), .int i, .int 0, .int mark] :: rest) := by
      have k0 : ∀ m : MH, idxD (.lst (ns.map Mp.D.int)) (.int i) m = some (.int c) := fun m => hc
      have k1 : idxD (.ref 0) (.int 0) (.lst [.lst (ns.map Mp.D.int), .int i, .int 0, .int mark] :: rest) = some (.lst (ns.map Mp.D.int)) := rfl
      have k2 : idxD (.ref 0) (.int 1) (.lst [.lst (ns.map Mp.D.int), .int i, .int 0, .int mark] :: rest) = some (.int i) := rfl
      simp [k0, k1, k2]
    have e2 : Mp.ex (GG cl kk) mkxG dB2 [some (.val (.ref 0)), some (.val (.int many)), some (.val (.int c)), none, none] (.lst [.lst (ns.map Mp.D.int), .int i, .int 0, .int mark] :: rest) = .nx [some (.val (.ref 0)), some (.val (.int many)), some (.val (.int c)), none, none] (.lst [.lst (ns.map Mp.D.int), .int (i + 1), .int 0, .int mark] :: rest) := by
      simp [idxD, seqD, atI, ixN, setXD]
    by_cases c3 : (1000000000000000000 : Int) ≤ c
    · refine ⟨some (.val (.int c)), none, i + 1, c, mark, ?_, by omega, by omega, hm, hm2⟩
      rw [ex_ife, t, SR.of_ok]
      dsimp only
      rw [exs_cons, e1, SR.then_nx, exs_cons, e2, SR.then_nx]
      simp [tst, kp, c3, setXD, ixN]
    · have b0 := Int.emod_nonneg (mark * 39373 + c % 2000000011 + (i + 1)) (show (2147483563 : Int) ≠ 0 by decide)
      have b1 := Int.emod_lt_of_pos (mark * 39373 + c % 2000000011 + (i + 1)) (show (0 : Int) < 2147483563 by decide)
      refine ⟨some (.val (.int c)), some (.val (.int (mark * 39373 + c % 2000000011))), i + 1, 0, (mark * 39373 + c % 2000000011 + (i + 1)) % 2147483563, ?_, by omega, by omega, b0, b1⟩
      rw [ex_ife, t, SR.of_ok]
      dsimp only
      rw [exs_cons, e1, SR.then_nx, exs_cons, e2, SR.then_nx]
      have k1 : mulOk mark 39373 = true := mark_mul hm hm2 (by decide)
      simp [tst, kp, c3, setXD, ixN, idxD, seqD, atI, bin_mul_int, k1, bin_mod_int]
  · refine ⟨none, none, i, big, mark, ?_, hi, hb, hm, hm2⟩
    by_cases z : big = 0
    · have c2 : ¬ i < ns.length := fun h => c1 ⟨z, h⟩
      subst z
      simp [tst, idxD, seqD, atI, ixN, c2]
    · simp [tst, idxD, seqD, atI, ixN, z]
theorem draw_ok {ns : List Int} {many : Int} {m : MH} (hB : Bag ns rest m) (h : 0 < many) (hd : many < 2 ^ 200) : ∃ r m', FN (PP cl) (kk + 1) n__law_draw [.ref 0, .int many] m = .ok (.int r) m' ∧ 0 ≤ r ∧ r < many ∧ Bag ns rest m' := by
  obtain ⟨i, big, mark, rfl, hi, hb, hm, hm2⟩ := hB
  obtain ⟨s2, s4, i', big', mark', e, h1, h2, h3, h4⟩ := draw_head cl kk rest ns i big mark many hi hb hm hm2
  obtain ⟨r, m', e2, r0, r1, hB'⟩ := draw_tail cl kk rest ns i' big' mark' many s2 none s4 h1 h2 h3 h4 h (small_div h hd)
  refine ⟨r, m', ?_, r0, r1, hB'⟩
  rw [F__law_draw]
  refine runF_rt rfl ?_
  show exs (GG cl kk) mkxG (dT0 :: dT1 :: dT2) [some (.val (.ref 0)), some (.val (.int many)), none, none, none] _ = _
  rw [exs_cons, e, SR.then_nx]
  exact e2
/-- a thing drawn -/
theorem of_ok {ns : List Int} {xs : List Mp.D} {m : MH} (hB : Bag ns rest m) (h : 0 < xs.length) (hx : xs.length ≤ 1000) : ∃ x m', x ∈ xs ∧ FN (PP cl) (kk + 2) n__law_of [.ref 0, .lst xs] m = .ok x m' ∧ Bag ns rest m' := by
  obtain ⟨r, m', e, r0, r1, hB'⟩ := draw_ok cl kk rest (many := xs.length) hB (by omega) (by omega)
  have hj : r.toNat < xs.length := by omega
  refine ⟨xs[r.toNat], m', List.getElem_mem hj, ?_, hB'⟩
  rw [F__law_of]
  refine runF_rt rfl ?_
  have k : idxD (.lst xs) (.int r) m' = some xs[r.toNat] := by
    show atI xs r = _
    unfold atI ixN
    rw [if_pos r0, if_pos r1]
    simp [hj]
  simp [m__law_of, e, k]
abbrev bB : List Mp.St := [.asg (.nm 2) (.bin .mod (.blt .int_ [(.bin .add (.bin .add (.bin .mul (.loc 2) (.k (.int 40507))) (.bin .mod (.blt .int_ [(.loc 3)]) (.k (.int 2147483399)))) (.k (.int 13)))]) (.k (.int 2147483563)))]
theorem bag_loop (s0 s1 : Option Sl) : ∀ (ns : List Int) (mark : Int) (s3 : Option Sl), 0 ≤ mark → mark < 2147483563 → ∃ mark' s3', forS (.nm 3) (exs (GG cl kk) mkxG bB) (ns.map Mp.D.int) [s0, s1, some (.val (.int mark)), s3] [] = .nx [s0, s1, some (.val (.int mark')), s3'] [] ∧ 0 ≤ mark' ∧ mark' < 2147483563
  | [], mark, s3, h0, h1 => ⟨mark, s3, rfl, h0, h1⟩
  | n :: ns, mark, s3, h0, h1 => by
    have k1 : mulOk mark 40507 = true := mark_mul h0 h1 (by decide)
    have b0 := Int.emod_nonneg (mark * 40507 + n % 2147483399 + 13) (show (2147483563 : Int) ≠ 0 by decide)
    have b1 := Int.emod_lt_of_pos (mark * 40507 + n % 2147483399 + 13) (show (0 : Int) < 2147483563 by decide)
    obtain ⟨mark', s3', e, q⟩ := bag_loop s0 s1 ns ((mark * 40507 + n % 2147483399 + 13) % 2147483563) (some (.val (.int n))) b0 b1
    refine ⟨mark', s3', ?_, q⟩
    have e1 : exs (GG cl kk) mkxG bB [s0, s1, some (.val (.int mark)), some (.val (.int n))] [] = .nx [s0, s1, some (.val (.int ((mark * 40507 + n % 2147483399 + 13) % 2147483563))), some (.val (.int n))] [] := by
      simp [bin_mul_int, bin_mod_int, k1]
    rw [List.map_cons]
    unfold forS
    have t : tgD (.nm 3) (.int n) [s0, s1, some (.val (.int mark)), s3] = some [s0, s1, some (.val (.int mark)), some (.val (.int n))] := by rw [tgD_nm]; rfl
    rw [t]
    dsimp only
    rw [e1]
    exact e
theorem bag_ok (ns : List Int) (hl : ns.length ≤ 63) : ∃ m', FN (PP cl) (kk + 1) n__law_bag [.fz (ns.map Mp.D.int)] [] = .ok (.ref 0) m' ∧ Bag ns [] m' := by
  obtain ⟨mark', s3', e, h0, h1⟩ := bag_loop cl kk (some (.val (.fz (ns.map Mp.D.int)))) (some (.val (.lst (ns.map Mp.D.int)))) ns (3848 + 29 * (ns.length : Int)) none (by omega) (by omega)
  refine ⟨[.lst [.lst (ns.map Mp.D.int), .int 0, .int 0, .int mark']], ?_, ⟨0, 0, mark', rfl, by omega, by omega, h0, h1⟩⟩
  rw [F__law_bag]
  refine runF_rt rfl ?_
  have c : Mp.cutD (ns.map Mp.D.int) none (some 63) = ns.map Mp.D.int := by
    unfold Mp.cutD
    rw [List.length_map]
    show ((ns.map Mp.D.int).drop 0).take (HT.sIx ns.length ns.length (some 63) - 0) = _
    have : HT.sIx ns.length ns.length (some 63) = ns.length := by
      unfold HT.sIx
      dsimp only
      rw [if_neg (by decide)]
      show min 63 ns.length = _
      omega
    rw [this, Nat.sub_zero, List.drop_zero]
    exact List.take_of_length_le (by rw [List.length_map]; exact Nat.le_refl _)
  have m1 : mulOk 29 (ns.length : Int) = true := small_mul (by decide) (by omega)
  have a1 : Mp.ex (GG cl kk) mkxG (.asg (.nm 1) (.blt .list [(.sl (.loc 0) (.k .non) (.prt (.k (.int 63))))])) [some (.val (.fz (ns.map Mp.D.int))), none, none, none] [] = .nx [some (.val (.fz (ns.map Mp.D.int))), some (.val (.lst (ns.map Mp.D.int))), none, none] [] := by
    have s1 : slD (.fz (ns.map Mp.D.int)) none (some 63) = some (.lst (ns.map Mp.D.int)) := congrArg (fun z => some (Mp.D.lst z)) c
    simp [optI, s1]
  have a2 : Mp.ex (GG cl kk) mkxG (.asg (.nm 2) (.bin .add (.k (.int 3848)) (.bin .mul (.k (.int 29)) (.blt .len [(.loc 1)])))) [some (.val (.fz (ns.map Mp.D.int))), some (.val (.lst (ns.map Mp.D.int))), none, none] [] = .nx [some (.val (.fz (ns.map Mp.D.int))), some (.val (.lst (ns.map Mp.D.int))), some (.val (.int (3848 + 29 * (ns.length : Int)))), none] [] := by
    simp [bin_mul_int, m1]
  show exs (GG cl kk) mkxG m__law_bag [some (.val (.fz (ns.map Mp.D.int))), none, none, none] [] = _
  rw [m__law_bag, exs_cons, a1, SR.then_nx, exs_cons, a2, SR.then_nx, exs_cons, ex_for0]
  have i1 : itemsD (.lst (ns.map Mp.D.int)) = some (ns.map Mp.D.int) := rfl
  simp only [ev_loc_succ, ev_loc_zero, SR.of_ok, i1]
  rw [e]
  simp [le_line]
end
end Kb
end
section
set_option Elab.async false
set_option linter.all false
set_option maxRecDepth 100000
set_option maxHeartbeats 1000000
/-! LTx: texts as lists of signs; loops and comprehensions that change nothing else; numbers in texts. -/
namespace Mp
open PySem PySem.Spec PyProof.Rows L2
/-- a comprehension whose parts only compute -/
theorem compGo_map {A : Type} {vs : List Nat} {tg : Tg} {el : Fr → MH → R D} {fr : Fr} {m : MH} (g h : A → D) : ∀ (xs : List A) (acc : List D), (∀ x ∈ xs, ∃ fr2, tgD tg (g x) (wipeF fr vs) = some fr2 ∧ el fr2 m = .ok (h x) m) → acc.length + xs.length ≤ sizeLine →
    compGo vs tg [] el fr (xs.map g) acc m = .ok (acc ++ xs.map h) m
  | [], acc, _, _ => by simp [compGo]
  | x :: xs, acc, hx, hl => by
    obtain ⟨fr2, e1, e2⟩ := hx x (List.mem_cons_self ..)
    have ih := compGo_map g h xs (acc ++ [h x]) (fun y hy => hx y (List.mem_cons_of_mem _ hy)) (by simp at hl ⊢; omega)
    have hl1 : acc.length < sizeLine := by simp at hl; omega
    rw [List.map_cons]
    unfold compGo
    rw [e1]
    simp only [condGo, R.ok_bind, e2, isOk, hl1, if_true, ih]
    simp
/-- .. with one test -/
theorem compGo_filter {A : Type} {vs : List Nat} {tg : Tg} {el c : Fr → MH → R D} {fr : Fr} {m : MH} (g h : A → D) (p : A → Bool) : ∀ (xs : List A) (acc : List D), (∀ x ∈ xs, ∃ fr2, tgD tg (g x) (wipeF fr vs) = some fr2 ∧ (∃ d, c fr2 m = .ok d m ∧ truD d = some (p x)) ∧ (p x = true → el fr2 m = .ok (h x) m)) → acc.length + xs.length ≤ sizeLine →
    compGo vs tg [c] el fr (xs.map g) acc m = .ok (acc ++ (xs.filter p).map h) m
  | [], acc, _, _ => by simp [compGo]
  | x :: xs, acc, hx, hl => by
    obtain ⟨fr2, e1, ⟨d, e2, e3⟩, e4⟩ := hx x (List.mem_cons_self ..)
    have hl1 : acc.length < sizeLine := by simp at hl; omega
    rw [List.map_cons]
    unfold compGo
    rw [e1]
    cases hp : p x with
    | true =>
      have ih := compGo_filter g h p xs (acc ++ [h x]) (fun y hy => hx y (List.mem_cons_of_mem _ hy)) (by simp at hl ⊢; omega)
      rw [hp] at e3
      simp only [condGo, R.ok_bind, e2, e3, isOk, e4 hp, hl1, if_true, ih]
      simp [hp]
    | false =>
      have ih := compGo_filter g h p xs acc (fun y hy => hx y (List.mem_cons_of_mem _ hy)) (by simp at hl ⊢; omega)
      rw [hp] at e3
      simp only [condGo, R.ok_bind, e2, e3, isOk, ih]
      simp [hp]
/-- a loop that folds a value -/
theorem forS_fold {A B : Type} {t : Tg} {b : F → MH → SR} {m : MH} (g : A → D) (Fm : B → Option Sl → Fr) (step : B → A → B) : ∀ (xs : List A) (s : B) (o : Option Sl), (∀ s o, ∀ x ∈ xs, ∃ fr1 o', tgD t (g x) (Fm s o) = some fr1 ∧ b fr1 m = .nx (Fm (step s x) o') m) →
    ∃ o', forS t b (xs.map g) (Fm s o) m = .nx (Fm (xs.foldl step s) o') m
  | [], s, o, _ => ⟨o, rfl⟩
  | x :: xs, s, o, h => by
    obtain ⟨fr1, o1, e1, e2⟩ := h s o x (List.mem_cons_self ..)
    obtain ⟨o2, e3⟩ := forS_fold g Fm step xs (step s x) o1 fun s o y hy => h s o y (List.mem_cons_of_mem _ hy)
    refine ⟨o2, ?_⟩
    rw [List.map_cons]
    unfold forS
    rw [e1]
    dsimp only
    rw [e2]
    exact e3
end Mp
namespace Kb
open PySem PySem.Spec PyProof.Rows L2 Mp SX NumText
theorem items_S (l : List Nat) : itemsD (.str (S l)) = some (l.map fun c => .str (S [c])) := rfl
theorem len_S {l : List Nat} (h : l.length ≤ 1000) (m : MH) : bltD .len [.str (S l)] m = some (.int l.length) := by
  rw [len_str _ _ (by rw [S_len]; exact le_line h), S_len]
theorem mem_S (a : List Nat) (c : Nat) : memD (.str (S [c])) (.str (S a)) = some (decide (c ∈ a)) := congrArg some (SX.in_one a c)
theorem eq_S (a b : List Nat) : cmpD .eq (.str (S a)) (.str (S b)) = some (.bl (decide (a = b))) := by
  rw [cmp_eq_str]
  congr 2
  exact decide_eq_decide.mpr ⟨S_inj, congrArg S⟩
theorem ne_S (a b : List Nat) : cmpD .ne (.str (S a)) (.str (S b)) = some (.bl (!decide (a = b))) := by
  rw [cmp_ne_str]
  congr 3
  exact decide_eq_decide.mpr ⟨S_inj, congrArg S⟩
theorem slS_to {l : List Nat} (h : l.length ≤ 1000) (j : Nat) : slD (.str (S l)) none (some (j : Int)) = some (.str (S (l.take j))) := by
  have e : slD (.str (S l)) none (some (j : Int)) = if (S l).length ≤ sizeLine then some (.str (cutS (S l) none (some (j : Int)))) else none := rfl
  rw [e, if_pos (by rw [S_len]; exact le_line h)]
  congr 2
  apply TL.ext_tl
  show (((S l).cps.toList.drop _).take _) = l.take j
  rw [HT.sIx_nat, HT.sIx_none, List.drop_zero, Nat.sub_zero, S_len, ← List.take_take]
  exact congrArg _ (List.take_length)
theorem slS_from {l : List Nat} (h : l.length ≤ 1000) (i : Nat) : slD (.str (S l)) (some (i : Int)) none = some (.str (S (l.drop i))) := by
  have e : slD (.str (S l)) (some (i : Int)) none = if (S l).length ≤ sizeLine then some (.str (cutS (S l) (some (i : Int)) none)) else none := rfl
  rw [e, if_pos (by rw [S_len]; exact le_line h)]
  congr 2
  apply TL.ext_tl
  show ((l.drop _).take _) = l.drop i
  rw [HT.sIx_nat, HT.sIx_none, S_len]
  by_cases z : i ≤ l.length
  · rw [Nat.min_eq_left z]
    exact List.take_of_length_le (by rw [List.length_drop]; exact Nat.le_refl _)
  · rw [Nat.min_eq_right (by omega), Nat.sub_self, List.take_zero, List.drop_eq_nil_of_le (by omega)]
theorem idx0_S {c : Nat} {l : List Nat} (h : (c :: l).length ≤ 1000) (m : MH) : idxD (.str (S (c :: l))) (.int 0) m = some (.str (S [c])) := by
  show (if (S (c :: l)).length ≤ sizeLine then ((atI (S (c :: l)).cps.toList 0).map fun c => Mp.D.str ⟨#[c]⟩) else none) = _
  rw [if_pos (by rw [S_len]; exact le_line h)]
  show ((atI (c :: l) 0).map fun c => Mp.D.str ⟨#[c]⟩) = _
  unfold atI ixN
  rw [if_pos (by omega), if_pos (by simp)]
  rfl
/-! ### numbers as texts -/
def intL (i : Int) : List Nat := if i < 0 then 45 :: TL.numL i.natAbs else TL.numL i.natAbs
theorem str_int (i : Int) : (Str.ofString (toString i) : Str) = S (intL i) := by
  unfold intL
  cases i with
  | ofNat n =>
    rw [if_neg (by simp)]
    exact num_S n
  | negSucc n =>
    rw [if_pos (by omega)]
    apply TL.ext_tl
    rw [TL.tl_ofString]
    show ("-" ++ Nat.repr (n + 1)).toList.map Char.toNat = 45 :: TL.numL (n + 1)
    rw [String.toList_append, List.map_append, Nat.toList_repr]
    rfl
/-- a text of signs 0 to 9 -/
def digB (l : List Nat) : Bool := l.all fun c => decide (48 ≤ c) && decide (c ≤ 57)
theorem digB_all {l : List Nat} (h : digB l = true) : AllDigits l := fun c hc => by
  have := List.all_eq_true.mp h c hc
  simpa using this
theorem digB_num (n : Nat) : digB (TL.numL n) = true := List.all_eq_true.mpr fun c hc => by
  have := TL.numL_digits n c hc
  simpa using this
/-- the number of a text without needless zeros -/
def numO (l : List Nat) : Option Int := if l = [] ∨ digB l = false ∨ (1 < l.length ∧ l.head? = some 48) then none else some (digitsVal l)
def intO (l : List Nat) : Option Int := if l.head? = some 45 then (match numO l.tail with
    | some v => if v = 0 then none else some (-v)
    | none => none) else numO l
def optN : Option Int → Mp.D
  | some i => .int i
  | none => .non
theorem val_lt : ∀ (l : List Nat), digB l = true → digitsVal l < 10 ^ l.length := by
  intro l
  have h : ∀ (l : List Nat) (a : Nat), digB l = true → l.foldl (fun acc c => acc * 10 + (c - 48)) a < (a + 1) * 10 ^ l.length := by
    intro l
    induction l with
    | nil => intro a _; simp
    | cons c l ih =>
      intro a hd
      unfold digB at hd
      rw [List.all_cons, Bool.and_eq_true] at hd
      have hc : 48 ≤ c ∧ c ≤ 57 := by simpa using hd.1
      have := ih (a * 10 + (c - 48)) hd.2
      rw [List.foldl_cons, List.length_cons, Nat.pow_succ]
      refine Nat.lt_of_lt_of_le this ?_
      have : a * 10 + (c - 48) + 1 ≤ (a + 1) * 10 := by omega
      calc _ ≤ (a + 1) * 10 * 10 ^ l.length := Nat.mul_le_mul_right _ this
        _ = _ := by rw [Nat.mul_assoc, Nat.mul_comm 10]
  intro hd
  have := h l 0 hd
  simpa [digitsVal] using this
def digS : List Nat := [48, 49, 50, 51, 52, 53, 54, 55, 56, 57]
theorem digits_S : cstG 2 = .str (S digS) := by kernel_rfl
theorem dig_mem (c : Nat) : decide (c ∈ digS) = (decide (48 ≤ c) && decide (c ≤ 57)) := by
  unfold digS
  simp only [List.mem_cons, List.not_mem_nil, or_false]
  rw [Bool.eq_iff_iff, Bool.and_eq_true, decide_eq_true_eq, decide_eq_true_eq, decide_eq_true_eq]
  omega
theorem dig_ix {c : Nat} (h : 48 ≤ c ∧ c ≤ 57) (m : MH) : m1D .index (S digS) (.str (S [c])) m = some (.int ((c - 48 : Nat) : Int)) := by
  have : c = 48 ∨ c = 49 ∨ c = 50 ∨ c = 51 ∨ c = 52 ∨ c = 53 ∨ c = 54 ∨ c = 55 ∨ c = 56 ∨ c = 57 := by omega
  rcases this with rfl | rfl | rfl | rfl | rfl | rfl | rfl | rfl | rfl | rfl <;> kernel_rfl
theorem e_S : (Str.ofString "" : Str) = S [] := by kernel_rfl
theorem m_S : (Str.ofString "-" : Str) = S [45] := by kernel_rfl
theorem s_S : (Str.ofString "/" : Str) = S [47] := by kernel_rfl
theorem z_S : (Str.ofString "0" : Str) = S [48] := by kernel_rfl
section
variable (cl : List Nat) (kk : Nat)
abbrev nT : E := .orv (.cmp .eq (.loc 0) (.k (.str ""))) (.orv (.notv (.blt .all [(.comp [2] (.nm 2) (.loc 0) [] (.cmp .mem (.loc 2) (.cst 2)))])) (.andv (.cmp .gt (.blt .len [(.loc 0)]) (.k (.int 1))) (.cmp .eq (.idx (.loc 0) (.k (.int 0))) (.k (.str "0")))))
abbrev nL : Mp.St := .asg (.nm 1) (.bin .add (.bin .mul (.k (.int 10)) (.loc 1)) (.m1 .index (.cst 2) (.loc 2)))
theorem num_test {l : List Nat} (hl : l.length ≤ 900) (m : MH) : tst (ev (GG cl kk) nT) [some (.val (.str (S l))), none, none] m = .ok (decide (l = [] ∨ digB l = false ∨ (1 < l.length ∧ l.head? = some 48))) m := by
  have e1 := eq_S l []
  by_cases h0 : l = []
  · subst h0
    simp [tst, e_S, e1]
  · have cg : compGo [2] (.nm 2) [] (ev (GG cl kk) (.cmp .mem (.loc 2) (.cst 2))) [some (.val (.str (S l))), none, none] (l.map fun c => .str (S [c])) [] m = .ok ([] ++ l.map fun c => .bl (decide (48 ≤ c) && decide (c ≤ 57))) m := by
      refine compGo_map (fun c => .str (S [c])) (fun c => .bl (decide (48 ≤ c) && decide (c ≤ 57))) l [] (fun c _ => ⟨[some (.val (.str (S l))), none, some (.val (.str (S [c])))], by simp [wipeF], ?_⟩) (by simp; exact le_line (by omega))
      have e : cmpD .mem (.str (S [c])) (.str (S digS)) = some (.bl (decide (c ∈ digS))) := by
        have e : cmpD .mem (.str (S [c])) (.str (S digS)) = (memD (.str (S [c])) (.str (S digS))).map .bl := rfl
        rw [e, mem_S]
        rfl
      simp only [ev_cmp, ev_cst, gtW_cst, gg_cst, digits_S, ev_loc_succ, ev_loc_zero, R.ok_bind, e, optR_some, dig_mem]
    have al : bltD .all [.lst (l.map fun c => Mp.D.bl (decide (48 ≤ c) && decide (c ≤ 57)))] m = some (.bl (digB l)) := by
      have := all_map m (l.map fun c => (decide (48 ≤ c) && decide (c ≤ 57)))
      rw [List.map_map, List.all_map] at this
      exact this
    have ln := len_S (l := l) (by omega) m
    cases hd : digB l with
    | false =>
      rw [hd] at al
      simp [tst, e_S, e1, h0, items_S, cg, al]
    | true =>
      rw [hd] at al
      obtain ⟨c, r, hcr⟩ : ∃ c r, l = c :: r := by
        cases l with
        | nil => exact absurd rfl h0
        | cons c r => exact ⟨c, r, rfl⟩
      have ix : idxD (.str (S l)) (.int 0) m = some (.str (S [c])) := by
        rw [hcr]
        exact idx0_S (by rw [← hcr]; omega) m
      have e2 := eq_S [c] [48]
      have hh : (l.head? = some 48) = (c = 48) := by rw [hcr]; simp
      by_cases h1 : 1 < l.length
      · have h1i : (1 : Int) < l.length := by omega
        simp [tst, e_S, e1, h0, items_S, cg, al, ln, h1, h1i, ix, z_S, e2, hh]
      · have h1i : ¬ (1 : Int) < l.length := by omega
        simp [tst, e_S, e1, h0, items_S, cg, al, ln, h1, h1i]
theorem ten_mul {x : Nat} {n : Nat} (h : x < 10 ^ n) (hn : n ≤ 899) : mulOk 10 (x : Int) = true := by
  unfold mulOk
  rw [decide_eq_true_eq, Int.natAbs_natCast]
  have h1 : x < 2 ^ 3600 := by
    refine Nat.lt_of_lt_of_le h (Nat.le_trans (Nat.pow_le_pow_right (by decide) hn) ?_)
    calc (10 : Nat) ^ 899 ≤ 16 ^ 899 := Nat.pow_le_pow_left (by decide) _
      _ = (2 ^ 4) ^ 899 := by rfl
      _ = 2 ^ (4 * 899) := (Nat.pow_mul 2 4 899).symm
      _ ≤ 2 ^ 3600 := Nat.pow_le_pow_right (by decide) (by decide)
  have h2 : x.log2 < 3601 := by
    by_cases z : x = 0
    · subst z; decide
    · exact Nat.lt_of_lt_of_le ((Nat.log2_lt z).mpr h1) (by decide)
  have h3 : (10 : Int).natAbs.log2 = 3 := by decide
  omega
theorem num_loop {s0 : Option Sl} (m : MH) : ∀ (r : List Nat) (a n : Nat) (o : Option Sl), digB r = true → a < 10 ^ n → n + r.length ≤ 900 →
    ∃ o', forS (.nm 2) (exs (GG cl kk) mkxG [nL]) (r.map fun c => .str (S [c])) [s0, some (.val (.int (a : Int))), o] m = .nx [s0, some (.val (.int ((r.foldl (fun acc c => acc * 10 + (c - 48)) a : Nat) : Int))), o'] m
  | [], a, n, o, _, _, _ => ⟨o, rfl⟩
  | c :: r, a, n, o, hd, ha, hn => by
    unfold digB at hd
    rw [List.all_cons, Bool.and_eq_true] at hd
    have hc : 48 ≤ c ∧ c ≤ 57 := by simpa using hd.1
    rw [List.length_cons] at hn
    have h2 : a * 10 + (c - 48) < 10 ^ (n + 1) := by rw [Nat.pow_succ]; omega
    obtain ⟨o', e⟩ := num_loop (s0 := s0) m r (a * 10 + (c - 48)) (n + 1) (some (.val (.str (S [c])))) hd.2 h2 (by omega)
    refine ⟨o', ?_⟩
    rw [List.map_cons]
    unfold forS
    have t : tgD (.nm 2) (.str (S [c])) [s0, some (.val (.int (a : Int))), o] = some [s0, some (.val (.int (a : Int))), some (.val (.str (S [c])))] := by rw [tgD_nm]; rfl
    rw [t]
    dsimp only
    have k := bin_mul_int 10 (a : Int) (ten_mul ha (by omega))
    have e0 : exs (GG cl kk) mkxG [nL] [s0, some (.val (.int (a : Int))), some (.val (.str (S [c])))] m = .nx [s0, some (.val (.int ((a * 10 + (c - 48) : Nat) : Int))), some (.val (.str (S [c])))] m := by
      simp only [exs_cons, ex_asg, ev_bin, ev_m1, ev_cst, gtW_cst, gg_cst, digits_S, ev_k, ev_loc_succ, ev_loc_zero, R.ok_bind, k, optR_some, dig_ix hc, bin_add_int, SR.of_ok, tgD_nm, List.set_cons_succ, List.set_cons_zero, SR.then_nx, exs_nil]
      rw [show ((a * 10 + (c - 48) : Nat) : Int) = 10 * (a : Int) + ((c - 48 : Nat) : Int) by omega]
    rw [e0]
    exact e
theorem number_in_ok {l : List Nat} (hl : l.length ≤ 900) (m : MH) : FN (PP cl) (kk + 1) n_number_in [.str (S l)] m = .ok (optN (numO l)) m := by
  rw [F_number_in]
  refine runF_rt rfl ?_
  have t := num_test cl kk hl m
  have ml : m_number_in = [.ife nT [.ret (.k .non)] [], .asg (.nm 1) (.k (.int 0)), .for_ (.nm 2) (.loc 0) [nL], .ret (.loc 1)] := rfl
  show exs (GG cl kk) mkxG m_number_in [some (.val (.str (S l))), none, none] m = _
  rw [ml, exs_cons, ex_ife, t, SR.of_ok]
  unfold numO
  by_cases h : l = [] ∨ digB l = false ∨ (1 < l.length ∧ l.head? = some 48)
  · rw [decide_eq_true h, if_pos h]
    rfl
  · rw [decide_eq_false h, if_neg h]
    have hd : digB l = true := by
      cases hd : digB l with
      | true => rfl
      | false => exact absurd (.inr (.inl hd)) h
    obtain ⟨o', e⟩ := num_loop cl kk (s0 := some (.val (.str (S l)))) m l 0 0 none hd (by decide) (by omega)
    simp only [exs_nil, SR.then_nx, exs_cons, ex_asg, ev_k, SR.of_ok, tgD_nm, List.set_cons_succ, List.set_cons_zero, ex_for0, ev_loc_zero, items_S]
    rw [show (0 : Int) = ((0 : Nat) : Int) from rfl, e]
    rfl
end
theorem par_len {c : Nat} {l a b : List Nat} (h : TL.par [c] [] l = some (a, b)) : l = a ++ c :: b := by
  have key : ∀ (l acc a b : List Nat), TL.par [c] acc l = some (a, b) → acc ++ l = a ++ c :: b := by
    intro l
    induction l with
    | nil => intro acc a b h; cases h
    | cons d r ih =>
      intro acc a b h
      unfold TL.par at h
      split at h
      · rename_i hp
        cases h
        have : d = c := by
          unfold TL.pre at hp
          simpa using hp
        rw [this]
        rfl
      · have := ih _ _ _ h
        rw [← this]
        simp
  have := key l [] a b h
  simpa using this
theorem part_S {l : List Nat} (h : l.length ≤ 1000) (c : Nat) (m : MH) : m1D .partition (S l) (.str (S [c])) m = some (match TL.par [c] [] l with
    | some (a, b) => .tup [.str (S a), .str (S [c]), .str (S b)]
    | none => .tup [.str (S l), .str (S []), .str (S [])]) := by
  show (if ((S [c]).length == 0) = false ∧ (S l).length ≤ sizeLine then some (Mp.D.tup [.str (Txt.partition (S l) (S [c])).1, .str (Txt.partition (S l) (S [c])).2.1, .str (Txt.partition (S l) (S [c])).2.2]) else none) = _
  rw [if_pos ⟨rfl, by rw [S_len]; exact le_line h⟩]
  cases e : TL.par [c] [] l with
  | none => rw [partition_none (by simp) e]
  | some p =>
    obtain ⟨a, b⟩ := p
    rw [partition_some (by simp) e]
theorem small_log2 {n : Nat} (h : n < 2 ^ 200) : n.log2 < 1920 := Nat.lt_of_lt_of_le (small_log h) (by decide)
theorem fmt_int {i : Int} (h : i.natAbs < 2 ^ 200) : fmtD (.int i) = some (.str (S (intL i))) := by
  show (if i.natAbs.log2 < 1920 then some (Mp.D.str (toString i)) else none) = _
  rw [if_pos (small_log2 h), ← str_int]
theorem str_int_ok {i : Int} (h : i.natAbs < 2 ^ 200) (m : MH) : bltD .str [.int i] m = some (.str (S (intL i))) := by
  show (if i.natAbs.log2 < 1920 then some (Mp.D.str (toString i)) else none) = _
  rw [if_pos (small_log2 h), ← str_int]
theorem cat_S {a b : List Nat} (h : a.length + b.length ≤ 1000) : binD .add (.str (S a)) (.str (S b)) = some (.str (S (a ++ b))) := by
  rw [bin_add_str _ _ (by rw [S_len, S_len]; exact le_line h), S_cat]
theorem app_S (a b : List Nat) : (S a ++ S b : Str) = S (a ++ b) := S_cat a b
theorem numL_head : ∀ n : Nat, 0 < n → (TL.numL n).head? ≠ some 48 := by
  intro n
  induction n using Nat.strongRecOn with
  | _ n ih =>
    intro hn
    by_cases h : n < 10
    · rw [TL.numL_lt h]
      simp
      omega
    · rw [TL.numL_step (by omega)]
      have := ih (n / 10) (by omega) (by omega)
      cases e : TL.numL (n / 10) with
      | nil => exact absurd e (TL.numL_ne _)
      | cons c r =>
        rw [e] at this
        exact this
theorem num_back (n : Nat) : numO (TL.numL n) = some (n : Int) := by
  have hz : ¬ (1 < (TL.numL n).length ∧ (TL.numL n).head? = some 48) := by
    rintro ⟨h1, h2⟩
    by_cases hn : n = 0
    · subst hn
      rw [TL.numL_lt (by decide)] at h1
      simp at h1
    · exact numL_head n (by omega) h2
  unfold numO
  rw [if_neg]
  · rw [TL.numL_val]
  · rintro (h | h | h)
    · exact TL.numL_ne n h
    · rw [digB_num] at h; cases h
    · exact hz h
theorem num_signs {l : List Nat} {v : Int} (h : numO l = some v) : ∀ c ∈ l, 48 ≤ c ∧ c ≤ 57 := by
  unfold numO at h
  split at h
  · cases h
  · rename_i z
    exact digB_all (by
      cases q : digB l with
      | true => rfl
      | false => exact absurd (.inr (.inl q)) z)
end Kb
end
section
set_option Elab.async false
set_option linter.all false
set_option maxRecDepth 100000
set_option maxHeartbeats 1000000
/-! LStk: strings of stocks. -/
namespace Kb
open PySem PySem.Spec PyProof.Rows L2 Mp SX NumText
def letS : List Nat := [97, 98, 99, 100, 101, 102, 103, 104, 105, 106, 107, 108, 109, 110, 111, 112, 113, 114, 115, 116, 117, 118, 119, 120, 121, 122]
theorem let_S : cstG 3 = .str (S letS) := by kernel_rfl
/-- the keys of {sign: 0 for sign in l} -/
def ddGo : List Nat → List Nat → List Nat
  | acc, [] => acc
  | acc, c :: r => ddGo (if c ∈ acc then acc else acc ++ [c]) r
def insN (x : Nat) : List Nat → List Nat
  | [] => [x]
  | y :: ys => if y < x then y :: insN x ys else x :: y :: ys
def srtN (l : List Nat) : List Nat := l.foldr insN []
def stkB (l : List Nat) : Bool := decide (1 ≤ l.length ∧ l.length ≤ 4) && (l.all (fun c => decide (c ∈ letS)) && decide (l = srtN (ddGo [] l)))
theorem lt_one (a b : Nat) : PySem.Spec.ltCps (S [a]).cps.toList (S [b]).cps.toList = decide (a < b) := by
  show PySem.Spec.ltCps [a] [b] = _
  simp [PySem.Spec.ltCps]
theorem insS_one (x : Nat) : ∀ l : List Nat, insS (S [x]) (l.map fun c => S [c]) = (insN x l).map fun c => S [c]
  | [] => rfl
  | y :: ys => by
    rw [List.map_cons]
    unfold insS insN
    rw [lt_one]
    by_cases h : y < x
    · rw [if_pos (by simpa using h), if_pos h, insS_one x ys]; rfl
    · rw [if_neg (by simpa using h), if_neg h]; rfl
theorem srtS_one : ∀ l : List Nat, srtS (l.map fun c => S [c]) = (srtN l).map fun c => S [c]
  | [] => rfl
  | y :: ys => by
    unfold srtS srtN
    rw [List.map_cons, List.foldr_cons, List.foldr_cons]
    have := srtS_one ys
    unfold srtS srtN at this
    rw [this, insS_one]
theorem keyS_one : ∀ l : List Nat, keyS (l.map fun c => (Sum.inr (S [c]) : Key)) = some (l.map fun c => S [c])
  | [] => rfl
  | c :: l => by
    rw [List.map_cons, keyS, keyS_one l]; rfl
abbrev kz (c : Nat) : Key × Mp.D := (.inr (S [c]), .int 0)
theorem S1_inj {a b : Nat} (h : S [a] = S [b]) : a = b := by
  have := S_inj h
  simpa using this
theorem putG_one (acc : List Nat) (c : Nat) : putG (acc.map kz) (.inr (S [c])) (.int 0) = (if c ∈ acc then acc else acc ++ [c]).map kz := by
  unfold putG
  have e : ((acc.map kz).any fun kv => decide (kv.1 = (.inr (S [c]) : Key))) = decide (c ∈ acc) := by
    rw [List.any_map, Bool.eq_iff_iff, List.any_eq_true, decide_eq_true_eq]
    constructor
    · rintro ⟨x, hx, h⟩
      have h : (Sum.inr (S [x]) : Key) = .inr (S [c]) := of_decide_eq_true h
      have := S1_inj (Sum.inr.inj h)
      rwa [← this]
    · intro h
      exact ⟨c, h, by simp⟩
  rw [e]
  by_cases h : c ∈ acc
  · rw [if_pos (decide_eq_true h), if_pos h, List.map_map]
    apply List.map_congr_left
    intro x _
    show (if (kz x).1 = (.inr (S [c]) : Key) then ((kz x).1, Mp.D.int 0) else kz x) = kz x
    split <;> rfl
  · rw [if_neg (by simpa using h), if_neg h, List.map_append]
    rfl
section
variable (cl : List Nat) (kk : Nat)
theorem dc_one (s0 s1 : Option Sl) (m : MH) : ∀ (l acc : List Nat), acc.length + l.length ≤ 1000 →
    dcGo [1] (.nm 1) (ev (GG cl kk) (.loc 1)) (ev (GG cl kk) (.k (.int 0))) [s0, s1] (l.map fun c => .str (S [c])) (acc.map kz) m = .ok ((ddGo acc l).map kz) m
  | [], acc, _ => rfl
  | c :: l, acc, h => by
    rw [List.length_cons] at h
    have hl : (acc.map kz).length < sizeLine := by rw [List.length_map]; have := le_line (n := 1000) (by decide); omega
    rw [List.map_cons]
    unfold dcGo
    have ih := dc_one s0 s1 m l (if c ∈ acc then acc else acc ++ [c]) (by split; · omega
                                                                          · rw [List.length_append, List.length_singleton]; omega)
    have hp := putG_one acc c
    simp only [tgD_nm, wipeF, List.set_cons_succ, List.set_cons_zero, ev_loc_succ, ev_loc_zero, isOk, R.ok_bind, ev_k, keyD, if_pos hl, hp]
    exact ih
theorem all_in (s0 : Option Sl) (l : List Nat) (m : MH) (hl : l.length ≤ 1000) : compGo [1] (.nm 1) [] (ev (GG cl kk) (.cmp .mem (.loc 1) (.cst 3))) [s0, none] (l.map fun c => .str (S [c])) [] m = .ok (l.map fun c => .bl (decide (c ∈ letS))) m := by
  have := compGo_map (vs := [1]) (tg := .nm 1) (el := ev (GG cl kk) (.cmp .mem (.loc 1) (.cst 3))) (fr := [s0, none]) (m := m) (fun c => .str (S [c])) (fun c => .bl (decide (c ∈ letS))) l [] (fun c _ => ⟨[s0, some (.val (.str (S [c])))], by simp [wipeF], ?_⟩) (by simp; exact le_line hl)
  · exact this
  · have e : cmpD .mem (.str (S [c])) (.str (S letS)) = some (.bl (decide (c ∈ letS))) := by
      have e : cmpD .mem (.str (S [c])) (.str (S letS)) = (memD (.str (S [c])) (.str (S letS))).map .bl := rfl
      rw [e, mem_S]
      rfl
    simp only [ev_cmp, ev_cst, gtW_cst, gg_cst, let_S, ev_loc_succ, ev_loc_zero, R.ok_bind, e, optR_some]
end
end Kb
end
section
set_option Elab.async false
set_option linter.all false
set_option maxRecDepth 100000
set_option maxHeartbeats 1000000
/-! LStk2: are_stocks, need_stocks. -/
namespace Kb
open PySem PySem.Spec PyProof.Rows L2 Mp SX NumText
/-- signs that texts may have -/
def Sg (l : List Nat) : Prop := ∀ c ∈ l, c < 0x110000
theorem Sg.ok {l : List Nat} (h : Sg l) : PyData.strOk (S l) = true := by
  unfold PyData.strOk S
  simp
  exact h
def one (c : Nat) : Mp.D := .str (S [c])
theorem qn_ones {l : List Nat} (h : Sg l) : Qn 1 (.lst (l.map one)) := by
  unfold Qn
  intro x hx
  obtain ⟨c, hc, rfl⟩ := List.mem_map.mp hx
  exact Sg.ok fun d hd => by rw [List.mem_singleton.mp hd]; exact h c hc
theorem ones_inj {l l' : List Nat} : l.map one = l'.map one ↔ l = l' := by
  constructor
  · intro h
    have := congrArg (List.map fun d => match d with | Mp.D.str x => x.cps.toList | _ => []) h
    rw [List.map_map, List.map_map] at this
    have e : ((fun d => match d with | Mp.D.str x => x.cps.toList | _ => []) ∘ one) = fun c => [c] := rfl
    rw [e] at this
    have h2 := congrArg List.flatten this
    have f : ∀ l : List Nat, (l.map fun c => [c]).flatten = l := fun l => by
      induction l with
      | nil => rfl
      | cons a l ih => rw [List.map_cons, List.flatten_cons, ih]; rfl
    rwa [f, f] at h2
  · rintro rfl; rfl
theorem eq_ones {l l' : List Nat} (h : Sg l) (h' : Sg l') : cmpD .eq (.lst (l.map one)) (.lst (l'.map one)) = some (.bl (decide (l = l'))) := by
  rw [cmp_eq_Q (k := 1) (by decide) (qn_ones h) (qn_ones h')]
  congr 2
  rw [decide_eq_decide, Mp.D.lst.injEq, ones_inj]
theorem insN_mem {x c : Nat} : ∀ {l : List Nat}, c ∈ insN x l → c = x ∨ c ∈ l
  | [], h => .inl (List.mem_singleton.mp h)
  | y :: ys, h => by
    unfold insN at h
    split at h
    · rcases List.mem_cons.mp h with h | h
      · exact .inr (by rw [h]; exact List.mem_cons_self ..)
      · exact (insN_mem h).imp id fun z => List.mem_cons_of_mem _ z
    · rcases List.mem_cons.mp h with h | h
      · exact .inl h
      · exact .inr h
theorem srtN_mem {c : Nat} : ∀ {l : List Nat}, c ∈ srtN l → c ∈ l
  | [], h => h
  | y :: ys, h => by
    unfold srtN at h
    rw [List.foldr_cons] at h
    rcases insN_mem h with h | h
    · rw [h]; exact List.mem_cons_self ..
    · exact List.mem_cons_of_mem _ (srtN_mem h)
theorem ddGo_mem {c : Nat} : ∀ {l acc : List Nat}, c ∈ ddGo acc l → c ∈ acc ∨ c ∈ l
  | [], acc, h => .inl h
  | d :: l, acc, h => by
    unfold ddGo at h
    rcases ddGo_mem h with h | h
    · split at h
      · exact .inl h
      · rcases List.mem_append.mp h with h | h
        · exact .inl h
        · exact .inr (by rw [List.mem_singleton.mp h]; exact List.mem_cons_self ..)
    · exact .inr (List.mem_cons_of_mem _ h)
theorem ddGo_len : ∀ {l acc : List Nat}, (ddGo acc l).length ≤ acc.length + l.length
  | [], acc => by simp [ddGo]
  | d :: l, acc => by
    unfold ddGo
    refine Nat.le_trans ddGo_len ?_
    split
    · simp
    · simp; omega
section
variable (cl : List Nat) (kk : Nat)
theorem dct_keys (l : List Nat) : (l.map kz).map (·.1) = l.map fun c => (Sum.inr (S [c]) : Key) := by rw [List.map_map]; rfl
theorem sort_ones (l : List Nat) (vs : List Mp.D) (m : MH) (h : l.length < 64) : bltD .sorted [.dct (l.map fun c => (Sum.inr (S [c]) : Key)) vs] m = some (.lst ((srtN l).map one)) := by
  have e : ∀ ks : List Key, ks.length < 64 → ∀ ys, keyS ks = some ys → bltD .sorted [.dct ks vs] m = some (.lst ((srtS ys).map .str)) := fun ks hk ys hy => by
    show (if ks.length < 64 then (match keyS ks with
      | some ys => some (Mp.D.lst ((srtS ys).map .str))
      | none => match keyI ks with
        | some ns => some (Mp.D.lst ((srtI ns).map .int))
        | none => none) else none) = _
    rw [if_pos hk, hy]
  rw [e _ (by rw [List.length_map]; exact h) _ (keyS_one l), srtS_one, List.map_map]
  rfl
theorem list_ones (l : List Nat) (m : MH) (h : l.length ≤ 1000) : bltD .list [.str (S l)] m = some (.lst (l.map one)) := by
  show (if (S l).length ≤ sizeLine then some (Mp.D.lst ((S l).cps.toList.map fun c => .str ⟨#[c]⟩)) else none) = _
  rw [if_pos (by rw [S_len]; exact le_line h)]
  rfl
theorem are_stocks_ok {l : List Nat} (hl : l.length ≤ 1000) (hs : Sg l) (m : MH) : FN (PP cl) (kk + 1) n_are_stocks [.str (S l)] m = .ok (.bl (stkB l)) m := by
  rw [F_are_stocks]
  refine runF_rt rfl ?_
  show exs (GG cl kk) mkxG m_are_stocks [some (.val (.str (S l))), none] m = _
  have c4 : cstG 4 = .int 4 := rfl
  by_cases h : 1 ≤ l.length ∧ l.length ≤ 4
  · have h1 : (1 : Int) ≤ l.length := by omega
    have h2 : ((l.length : Nat) : Int) ≤ 4 := by omega
    have hd : (ddGo [] l).length < 64 := by have := ddGo_len (l := l) (acc := []); simp at this; omega
    have hg : Sg (srtN (ddGo [] l)) := fun c hc => (ddGo_mem (srtN_mem hc)).elim (fun z => nomatch z) (hs c)
    have dc := dc_one cl kk (some (.val (.str (S l)))) none m l [] (by simp; omega)
    rw [List.map_nil] at dc
    have so : ∀ vs, bltD .sorted [.dct (List.map ((fun x => x.1) ∘ kz) (ddGo [] l)) vs] m = some (.lst ((srtN (ddGo [] l)).map one)) := fun vs => sort_ones (ddGo [] l) vs m hd
    have al := all_map m (l.map fun c => decide (c ∈ letS))
    rw [List.map_map, List.all_map] at al
    have al : bltD .all [.lst (l.map fun c => Mp.D.bl (decide (c ∈ letS)))] m = some (.bl (l.all fun c => decide (c ∈ letS))) := al
    have li := list_ones l m hl
    have eo := eq_ones hs hg
    have ai := all_in cl kk (some (.val (.str (S l)))) l m hl
    have ln := len_S hl m
    cases q : (l.all fun c => decide (c ∈ letS)) with
    | false =>
      rw [q] at al
      simp [m_are_stocks, tst, ln, c4, h1, h2, items_S, ai, al, stkB, h, q]
    | true =>
      rw [q] at al
      simp [m_are_stocks, tst, ln, c4, h1, h2, items_S, ai, al, stkB, h, q, li, dc, dct_keys, so, eo]
  · have ln := len_S hl m
    by_cases h1 : (1 : Int) ≤ l.length
    · have h2 : ¬ ((l.length : Nat) : Int) ≤ 4 := by omega
      simp [m_are_stocks, tst, ln, c4, h1, h2, stkB, h]
    · simp [m_are_stocks, tst, ln, c4, h1, stkB, h]
end
end Kb
end
section
set_option Elab.async false
set_option linter.all false
set_option maxRecDepth 100000
set_option maxHeartbeats 1000000
/-! LWk: works: steps, texts of sides. -/
namespace Kb
open PySem PySem.Spec PyProof.Rows L2 Mp SX NumText
abbrev nD (n : Nat) : Mp.D := .int (n : Int)
abbrev sdD (a : List Nat) : Mp.D := .tup (a.map nD)
abbrev Stp : Type := List Nat × List Nat
abbrev stD (p : Stp) : Mp.D := .tup [sdD p.1, sdD p.2]
def Side (k : Nat) (a : List Nat) : Prop := a.length = k ∧ ∀ n ∈ a, n ≤ 9
def Step (k : Nat) (p : Stp) : Prop := Side k p.1 ∧ Side k p.2
section
variable (cl : List Nat) (kk : Nat)
theorem is_number_int (i : Int) (m : MH) : FN (PP cl) (kk + 1) 0 [.int i] m = .ok (.bl true) m := by
  rw [F_is_number]
  simp [runF, m_is_number, tst]
theorem is_within_int (i a b : Int) (m : MH) : FN (PP cl) (kk + 2) 31 [.int i, .int a, .int b] m = .ok (.bl (decide (a ≤ i ∧ i ≤ b))) m := by
  rw [F_is_within]
  have e := is_number_int cl kk i m
  by_cases h : a ≤ i
  · by_cases h2 : i ≤ b <;> simp [runF, m_is_within, e, h, h2]
  · simp [runF, m_is_within, e, h]
theorem c5 : cstG 5 = .int 9 := rfl
theorem c200 : cstG 200 = .int 4 := rfl
theorem is_side_ok {k : Nat} {a : List Nat} (h : Side k a) (hk : k ≤ 500) (m : MH) : FN (PP cl) (kk + 3) 34 [sdD a, nD k] m = .ok (.bl true) m := by
  rw [F_is_side]
  refine runF_rt rfl ?_
  show exs (GG cl (kk + 2)) mkxG m_is_side [some (.val (sdD a)), some (.val (nD k)), none] m = _
  have cg := compGo_map (vs := [2]) (tg := .nm 2) (el := ev (GG cl (kk + 2)) (.call 31 [(.loc 2), .k (.int 0), (.cst 5)])) (fr := [some (.val (sdD a)), some (.val (nD k)), none]) (m := m) nD (fun _ => .bl true) a [] (fun n hn => ⟨[some (.val (sdD a)), some (.val (nD k)), some (.val (nD n))], by simp [wipeF], by
    have e := is_within_int cl kk (n : Int) 0 9 m
    have h9 : (n : Int) ≤ 9 := by have := h.2 n hn; omega
    simp [c5, e, h9]⟩) (by simp; exact le_line (by have := h.1; omega))
  have al := all_map m (a.map fun _ => true)
  rw [List.map_map] at al
  have al : bltD .all [.lst (a.map fun _ => Mp.D.bl true)] m = some (.bl true) := by
    have e : ((a.map fun _ => true).all id) = true := by simp
    rw [e] at al
    exact al
  have e1 : ((a.length : Nat) : Int) = k := by rw [h.1]
  rw [List.nil_append] at cg
  simp [m_is_side, cg, al, e1]
theorem is_step_ok {k : Nat} {p : Stp} (h : Step k p) (hk : k ≤ 500) (m : MH) : FN (PP cl) (kk + 4) 35 [stD p, nD k] m = .ok (.bl true) m := by
  rw [F_is_step]
  refine runF_rt rfl ?_
  show exs (GG cl (kk + 3)) mkxG m_is_step [some (.val (stD p)), some (.val (nD k)), none] m = _
  have cg := compGo_map (vs := [2]) (tg := .nm 2) (el := ev (GG cl (kk + 3)) (.call 34 [(.loc 2), (.loc 1)])) (fr := [some (.val (stD p)), some (.val (nD k)), none]) (m := m) sdD (fun _ => .bl true) [p.1, p.2] [] (fun a ha => ⟨[some (.val (stD p)), some (.val (nD k)), some (.val (sdD a))], by simp [wipeF], by
    have hs : Side k a := by
      simp only [List.mem_cons, List.not_mem_nil, or_false] at ha
      rcases ha with rfl | rfl
      · exact h.1
      · exact h.2
    have e := is_side_ok cl kk hs hk m
    simp [e]⟩) (by simp; exact le_line (by decide))
  simp only [List.map_cons, List.map_nil, List.nil_append] at cg
  have al : bltD .all [.lst [.bl true, .bl true]] m = some (.bl true) := all_map m [true, true]
  simp [m_is_step, cg, al]
end
/-! ### the text of a side -/
def partT (c n : Nat) : List Nat := (if 1 < n then TL.numL n else []) ++ [c]
def partsT (st a : List Nat) : List (List Nat) := ((st.zip a).filter fun p => decide (0 < p.2)).map fun p => partT p.1 p.2
def sideT (st a : List Nat) : List Nat := if partsT st a = [] then [48] else TL.joinL [43] (partsT st a)
theorem numL_one {n : Nat} (h : n ≤ 9) : (TL.numL n).length = 1 := by rw [TL.numL_lt (by omega)]; rfl
theorem partT_len {c n : Nat} (h : n ≤ 9) : (partT c n).length ≤ 2 := by
  unfold partT
  split
  · rw [List.length_append, numL_one h]; simp
  · simp
theorem joinL_len (s : Nat) : ∀ ps : List (List Nat), (∀ p ∈ ps, p.length ≤ 2) → (TL.joinL [s] ps).length ≤ 3 * ps.length
  | [], _ => by simp [TL.joinL]
  | [p], h => by
    have := h p (List.mem_singleton.mpr rfl)
    simp [TL.joinL]; omega
  | p :: q :: r, h => by
    have h1 := h p (List.mem_cons_self ..)
    have h2 := joinL_len s (q :: r) fun x hx => h x (List.mem_cons_of_mem _ hx)
    have e : TL.joinL [s] (p :: q :: r) = p ++ ([s] ++ TL.joinL [s] (q :: r)) := by simp [TL.joinL]
    rw [e]
    simp only [List.length_append, List.length_cons, List.length_nil] at h2 ⊢
    omega
theorem partsT_len (st a : List Nat) : (partsT st a).length ≤ st.length := by
  unfold partsT
  rw [List.length_map]
  refine Nat.le_trans (List.length_filter_le _ _) ?_
  rw [List.length_zip]
  omega
theorem sideT_len {k : Nat} {st a : List Nat} (h : Side k a) (hs : st.length ≤ 4) : (sideT st a).length ≤ 12 := by
  unfold sideT
  split
  · simp
  · refine Nat.le_trans (joinL_len 43 _ fun p hp => ?_) (by have := partsT_len st a; omega)
    unfold partsT at hp
    obtain ⟨q, hq, rfl⟩ := List.mem_map.mp hp
    have := (List.mem_filter.mp hq).1
    exact partT_len (h.2 q.2 (List.of_mem_zip this).2)
theorem pl_S : (Str.ofString "+" : Str) = S [43] := by kernel_rfl
theorem gt_S : (Str.ofString ">" : Str) = S [62] := by kernel_rfl
theorem co_S : (Str.ofString ":" : Str) = S [58] := by kernel_rfl
theorem cm_S : (Str.ofString "," : Str) = S [44] := by kernel_rfl
end Kb
end
section
set_option Elab.async false
set_option linter.all false
set_option maxRecDepth 100000
set_option maxHeartbeats 1000000
/-! LWk2: the texts of sides, steps, works, by the program and by the law. -/
namespace Kb
open PySem PySem.Spec PyProof.Rows L2 Mp SX NumText
abbrev tx (l : List Nat) : Mp.D := .str (S l)
theorem strsD_S : ∀ ps : List (List Nat), strsD (ps.map tx) = some (ps.map S)
  | [] => rfl
  | p :: ps => by
    rw [List.map_cons]
    show (strsD (ps.map tx)).map _ = _
    rw [strsD_S ps]
    rfl
theorem join_S (s : Nat) (ps : List (List Nat)) (h : (ps.map List.length).sum + ps.length ≤ 16777216) (m : MH) : m1D .join (S [s]) (.lst (ps.map tx)) m = some (tx (TL.joinL [s] ps)) := by
  show joinD (S [s]) (ps.map tx) = _
  unfold joinD
  rw [strsD_S]
  dsimp only
  have e : ((ps.map S).map fun x => x.length) = ps.map List.length := by rw [List.map_map]; exact List.map_congr_left fun p _ => S_len p
  rw [e, List.length_map, if_pos (by rw [S_len]; simpa using h)]
  congr 2
  apply TL.ext_tl
  rw [TL.join_eq, TL.tl_join, List.map_map]
  have e2 : (TL.tl ∘ S) = id := rfl
  rw [e2, List.map_id]
/-- signs below 128 -/
def As (l : List Nat) : Prop := ∀ c ∈ l, c < 128
theorem zit_S {l : List Nat} (h : As l) : zitD (tx l) = some (l.map fun c => tx [c]) := by
  show (if (S l).cps.all (· < 128) = true then some ((S l).cps.toList.map fun c => Mp.D.str ⟨#[c]⟩) else none) = _
  have hA : (S l).cps.all (· < 128) = true := by
    rw [Array.all_eq_true_iff_forall_mem]
    intro x hx
    have : x ∈ l := by simpa [S] using hx
    simpa using h x this
  rw [if_pos hA]
theorem zip_side {st a : List Nat} {x : Mp.D} (h : As st) (hx : zitD x = some (a.map nD)) : zipD (tx st) x = some ((st.zip a).map fun p => .tup [tx [p.1], nD p.2]) := by
  unfold zipD
  rw [zit_S h, hx]
  dsimp only
  rw [List.zip_map, List.map_map]
  rfl
theorem small_str {n : Nat} (h : n ≤ 9) (m : MH) : bltD .str [nD n] m = some (tx (TL.numL n)) := by
  have e := str_int_ok (i := (n : Int)) (by rw [Int.natAbs_natCast]; exact Nat.lt_of_le_of_lt h (by decide)) m
  have e2 : intL (n : Int) = TL.numL n := by
    unfold intL
    rw [if_neg (by omega), Int.natAbs_natCast]
  rw [e2] at e
  exact e
section
variable (cl : List Nat) (kk : Nat)
theorem parts_comp {st a : List Nat} {x : Mp.D} {k : Nat} (ha : Side k a) (hk : k ≤ 500) (m : MH) : compGo [3, 4] (.tup [.nm 3, .nm 4]) [ev (GG cl kk) (.cmp .gt (.loc 4) (.k (.int 0)))] (ev (GG cl kk) (.bin .add (.ite (.cmp .gt (.loc 4) (.k (.int 1))) (.blt .str [(.loc 4)]) (.k (.str ""))) (.loc 3))) [some (.val (tx st)), some (.val x), none, none, none] ((st.zip a).map fun p => .tup [tx [p.1], nD p.2]) [] m = .ok ((partsT st a).map tx) m := by
  have cg := compGo_filter (vs := [3, 4]) (tg := .tup [.nm 3, .nm 4]) (c := ev (GG cl kk) (.cmp .gt (.loc 4) (.k (.int 0)))) (el := ev (GG cl kk) (.bin .add (.ite (.cmp .gt (.loc 4) (.k (.int 1))) (.blt .str [(.loc 4)]) (.k (.str ""))) (.loc 3))) (fr := [some (.val (tx st)), some (.val x), none, none, none]) (m := m)
    (fun p : Nat × Nat => .tup [tx [p.1], nD p.2]) (fun p => tx (partT p.1 p.2)) (fun p => decide (0 < p.2)) (st.zip a) [] (fun p hp => ⟨[some (.val (tx st)), some (.val x), none, some (.val (tx [p.1])), some (.val (nD p.2))], by simp [wipeF], ⟨.bl (decide ((0 : Int) < p.2)), by simp, by simp⟩, fun _ => ?_⟩) (by rw [List.length_nil, Nat.zero_add, List.length_zip]; exact Nat.le_trans (Nat.min_le_right _ _) (le_line (by have := ha.1; omega)))
  · rw [List.nil_append] at cg
    rw [cg]
    unfold partsT
    rw [List.map_map]
    rfl
  · have hn := ha.2 p.2 (List.of_mem_zip hp).2
    by_cases h1 : 1 < p.2
    · have h1i : (1 : Int) < (p.2 : Int) := by omega
      have e := small_str hn m
      have c := cat_S (a := TL.numL p.2) (b := [p.1]) (by rw [numL_one hn]; simp)
      simp [h1i, e, c, partT, h1]
    · have h1i : ¬ (1 : Int) < (p.2 : Int) := by omega
      have c := cat_S (a := []) (b := [p.1]) (by simp)
      simp [h1i, e_S, c, partT, h1]
theorem parts_compL {st a : List Nat} {x : Mp.D} {k : Nat} (ha : Side k a) (hk : k ≤ 500) (m : MH) : compGo [3, 4] (.tup [.nm 3, .nm 4]) [ev (GG cl kk) (.cmp .gt (.loc 4) (.k (.int 0)))] (ev (GG cl kk) (.bin .add (.ite (.cmp .eq (.loc 4) (.k (.int 1))) (.k (.str "")) (.blt .str [(.loc 4)])) (.loc 3))) [some (.val (tx st)), some (.val x), none, none, none] ((st.zip a).map fun p => .tup [tx [p.1], nD p.2]) [] m = .ok ((partsT st a).map tx) m := by
  have cg := compGo_filter (vs := [3, 4]) (tg := .tup [.nm 3, .nm 4]) (c := ev (GG cl kk) (.cmp .gt (.loc 4) (.k (.int 0)))) (el := ev (GG cl kk) (.bin .add (.ite (.cmp .eq (.loc 4) (.k (.int 1))) (.k (.str "")) (.blt .str [(.loc 4)])) (.loc 3))) (fr := [some (.val (tx st)), some (.val x), none, none, none]) (m := m)
    (fun p : Nat × Nat => .tup [tx [p.1], nD p.2]) (fun p => tx (partT p.1 p.2)) (fun p => decide (0 < p.2)) (st.zip a) [] (fun p hp => ⟨[some (.val (tx st)), some (.val x), none, some (.val (tx [p.1])), some (.val (nD p.2))], by simp [wipeF], ⟨.bl (decide ((0 : Int) < p.2)), by simp, by simp⟩, fun h0 => ?_⟩) (by rw [List.length_nil, Nat.zero_add, List.length_zip]; exact Nat.le_trans (Nat.min_le_right _ _) (le_line (by have := ha.1; omega)))
  · rw [List.nil_append] at cg
    rw [cg]
    unfold partsT
    rw [List.map_map]
    rfl
  · have h0 : 0 < p.2 := of_decide_eq_true h0
    have hn := ha.2 p.2 (List.of_mem_zip hp).2
    by_cases h1 : 1 < p.2
    · have h1i : ¬ (p.2 : Int) = 1 := by omega
      have e := small_str hn m
      have c := cat_S (a := TL.numL p.2) (b := [p.1]) (by rw [numL_one hn]; simp)
      simp [h1i, e, c, partT, h1]
    · have h1i : (p.2 : Int) = 1 := by omega
      have c := cat_S (a := []) (b := [p.1]) (by simp)
      simp [h1i, e_S, c, partT, h1]
theorem As.sg {l : List Nat} (h : As l) : Sg l := fun c hc => by have := h c hc; omega
theorem numL_as (n : Nat) : As (TL.numL n) := fun c hc => by have := TL.numL_digits n c hc; omega
theorem partsT_as {st a : List Nat} (h : As st) : ∀ p ∈ partsT st a, As p := fun p hp => by
  unfold partsT at hp
  obtain ⟨q, hq, rfl⟩ := List.mem_map.mp hp
  have hm := List.of_mem_zip (List.mem_filter.mp hq).1
  intro c hc
  unfold partT at hc
  rcases List.mem_append.mp hc with hc | hc
  · split at hc
    · exact numL_as _ c hc
    · cases hc
  · rw [List.mem_singleton.mp hc]; exact h _ hm.1
theorem ne_nil {ps : List (List Nat)} (hp : ∀ p ∈ ps, As p) : cmpD .ne (.lst (ps.map tx)) (.lst []) = some (.bl (!decide (ps = []))) := by
  rw [cmp_ne_Q (k := 1) (by decide) (by unfold Qn; intro z hz; obtain ⟨q, hq, rfl⟩ := List.mem_map.mp hz; exact (hp q hq).sg.ok) (by unfold Qn; intro z hz; cases hz)]
  congr 3
  rw [decide_eq_decide, Mp.D.lst.injEq, List.map_eq_nil_iff]
theorem sum_le2 : ∀ ps : List (List Nat), (∀ p ∈ ps, p.length ≤ 2) → (ps.map List.length).sum ≤ 2 * ps.length
  | [], _ => by simp
  | p :: ps, h => by
    have := h p (List.mem_cons_self ..)
    have := sum_le2 ps fun q hq => h q (List.mem_cons_of_mem _ hq)
    simp only [List.map_cons, List.sum_cons, List.length_cons]
    omega
theorem partsT_le2 {st a : List Nat} {k : Nat} (ha : Side k a) : ∀ p ∈ partsT st a, p.length ≤ 2 := fun p hp => by
  unfold partsT at hp
  obtain ⟨q, hq, rfl⟩ := List.mem_map.mp hp
  exact partT_len (ha.2 q.2 (List.of_mem_zip (List.mem_filter.mp hq).1).2)
theorem side_text_ok {st a : List Nat} {x : Mp.D} {k : Nat} (h : As st) (hl : st.length ≤ 500) (ha : Side k a) (hk : k ≤ 500) (hx : zitD x = some (a.map nD)) (m : MH) : FN (PP cl) (kk + 1) 36 [tx st, x] m = .ok (tx (sideT st a)) m := by
  rw [F_side_text]
  refine runF_rt rfl ?_
  show exs (GG cl kk) mkxG m_side_text [some (.val (tx st)), some (.val x), none, none, none] m = _
  have z := zip_side h hx
  have cg := parts_comp cl kk (st := st) (x := x) ha hk m
  have nn := ne_nil (partsT_as (st := st) (a := a) h)
  have js := join_S 43 (partsT st a) (by have := sum_le2 _ (partsT_le2 (st := st) ha); have := partsT_len st a; omega) m
  by_cases he : partsT st a = []
  · rw [he, List.map_nil] at nn cg
    simp [m_side_text, z, cg, nn, sideT, he, z_S]
  · simp [m_side_text, z, cg, nn, sideT, he, pl_S, js]
theorem law_side_text_ok {st a : List Nat} {x : Mp.D} {k : Nat} (h : As st) (hl : st.length ≤ 500) (ha : Side k a) (hk : k ≤ 500) (hx : zitD x = some (a.map nD)) (m : MH) : FN (PP cl) (kk + 1) 42 [tx st, x] m = .ok (tx (sideT st a)) m := by
  rw [F__law_side_text]
  refine runF_rt rfl ?_
  show exs (GG cl kk) mkxG m__law_side_text [some (.val (tx st)), some (.val x), none, none, none] m = _
  have z := zip_side h hx
  have cg := parts_compL cl kk (st := st) (x := x) ha hk m
  have nn := ne_nil (partsT_as (st := st) (a := a) h)
  have js := join_S 43 (partsT st a) (by have := sum_le2 _ (partsT_le2 (st := st) ha); have := partsT_len st a; omega) m
  by_cases he : partsT st a = []
  · rw [he, List.map_nil] at nn cg
    simp [m__law_side_text, z, cg, nn, sideT, he, z_S]
  · simp [m__law_side_text, z, cg, nn, sideT, he, pl_S, js]
end
end Kb
end
section
set_option Elab.async false
set_option linter.all false
set_option maxRecDepth 100000
set_option maxHeartbeats 1000000
/-! LWk3: works told. -/
namespace Kb
open PySem PySem.Spec PyProof.Rows L2 Mp SX NumText
abbrev wkD (st : List Nat) (sp : List Stp) : Mp.D := .ins 8 [103, 104] [tx st, .lst (sp.map stD)]
def stepT (st : List Nat) (p : Stp) : List Nat := sideT st p.1 ++ [62] ++ sideT st p.2
def workT (st : List Nat) (sp : List Stp) : List Nat := st ++ [58] ++ TL.joinL [44] (sp.map (stepT st))
/-- works as the laws draw them -/
structure Wk (st : List Nat) (sp : List Stp) : Prop where
  stk : stkB st = true
  stp : ∀ p ∈ sp, Step st.length p
  len : sp.length ≤ 4
theorem let_as {c : Nat} (h : c ∈ letS) : 97 ≤ c ∧ c ≤ 122 := by
  unfold letS at h
  simp only [List.mem_cons, List.not_mem_nil, or_false] at h
  omega
theorem stk_len {st : List Nat} (h : stkB st = true) : 1 ≤ st.length ∧ st.length ≤ 4 := by
  unfold stkB at h
  simp only [Bool.and_eq_true, decide_eq_true_eq] at h
  exact h.1
theorem stk_let {st : List Nat} (h : stkB st = true) : ∀ c ∈ st, c ∈ letS := by
  unfold stkB at h
  simp only [Bool.and_eq_true, decide_eq_true_eq, List.all_eq_true] at h
  exact h.2.1
theorem stk_as {st : List Nat} (h : stkB st = true) : As st := fun c hc => by have := let_as (stk_let h c hc); omega
theorem zit_sd (a : List Nat) : zitD (sdD a) = some (a.map nD) := rfl
theorem stepT_len {st : List Nat} {p : Stp} (hs : st.length ≤ 4) (h : Step st.length p) : (stepT st p).length ≤ 25 := by
  unfold stepT
  have h1 := sideT_len h.1 hs
  have h2 := sideT_len h.2 hs
  simp only [List.length_append, List.length_cons, List.length_nil]
  omega
theorem sum_le {k : Nat} : ∀ ps : List (List Nat), (∀ p ∈ ps, p.length ≤ k) → (ps.map List.length).sum ≤ k * ps.length
  | [], _ => by simp
  | p :: ps, h => by
    have h1 := h p (List.mem_cons_self ..)
    have h2 := sum_le ps fun q hq => h q (List.mem_cons_of_mem _ hq)
    simp only [List.map_cons, List.sum_cons, List.length_cons, Nat.mul_add, Nat.mul_one]
    omega
theorem joinL_sum (s : Nat) : ∀ ps : List (List Nat), (TL.joinL [s] ps).length ≤ (ps.map List.length).sum + ps.length
  | [] => by simp [TL.joinL]
  | [p] => by simp [TL.joinL]
  | p :: q :: r => by
    have h2 := joinL_sum s (q :: r)
    have e : TL.joinL [s] (p :: q :: r) = p ++ ([s] ++ TL.joinL [s] (q :: r)) := by simp [TL.joinL]
    rw [e]
    simp only [List.length_append, List.length_cons, List.length_nil, List.map_cons, List.sum_cons] at h2 ⊢
    omega
theorem steps_sum {st : List Nat} {sp : List Stp} (hw : Wk st sp) : ((sp.map (stepT st)).map List.length).sum ≤ 100 := by
  have h := sum_le (k := 25) (sp.map (stepT st)) fun p hp => by
    obtain ⟨q, hq, rfl⟩ := List.mem_map.mp hp
    exact stepT_len (stk_len hw.stk).2 (hw.stp q hq)
  rw [List.length_map] at h
  have := hw.len
  omega
theorem steps_len {st : List Nat} {sp : List Stp} (hw : Wk st sp) : (TL.joinL [44] (sp.map (stepT st))).length ≤ 104 := by
  have h := joinL_sum 44 (sp.map (stepT st))
  have := steps_sum hw
  have := hw.len
  rw [List.length_map] at h
  omega
@[simp] theorem insD_ins (C : Nat) (ns : List Nat) (ds : List Mp.D) (m : MH) : insD (.ins C ns ds) m = some (C, ns, ds) := rfl
section
variable (cl : List Nat) (kk : Nat)
abbrev tB : Mp.St := .app 1 (.bin .add (.bin .add (.call 36 [(.fld (.loc 0) 103), (.loc 2)]) (.k (.str ">"))) (.call 36 [(.fld (.loc 0) 103), (.loc 3)]))
theorem one_step {st : List Nat} {p : Stp} {w : Mp.D} (hs : stkB st = true) (h : Step st.length p) (hw : ∃ sp, w = wkD st sp) (acc : List Mp.D) (ha : acc.length < 1000) (m : MH) : exs (GG cl (kk + 1)) mkxG [tB] [some (.val w), some (.olst acc), some (.val (sdD p.1)), some (.val (sdD p.2))] m = .nx [some (.val w), some (.olst (acc ++ [tx (stepT st p)])), some (.val (sdD p.1)), some (.val (sdD p.2))] m := by
  obtain ⟨sp, rfl⟩ := hw
  have hl := stk_len hs
  have e1 := side_text_ok cl kk (stk_as hs) (by omega) h.1 (by omega) (zit_sd p.1) m
  have e2 := side_text_ok cl kk (stk_as hs) (by omega) h.2 (by omega) (zit_sd p.2) m
  have l1 := sideT_len h.1 hl.2
  have l2 := sideT_len h.2 hl.2
  have c1 := cat_S (a := sideT st p.1) (b := [62]) (by simp; omega)
  have c2 := cat_S (a := sideT st p.1 ++ [62]) (b := sideT st p.2) (by simp; omega)
  have hz : acc.length < sizeLine := Nat.lt_of_lt_of_le ha (le_line (by decide))
  simp [appF, e1, e2, gt_S, c1, c2, hz, stepT]
theorem text_loop {st : List Nat} {w : Mp.D} (hs : stkB st = true) (hw : ∃ sp, w = wkD st sp) (m : MH) : ∀ (sp : List Stp) (acc : List Mp.D) (s2 s3 : Option Sl), (∀ p ∈ sp, Step st.length p) → acc.length + sp.length ≤ 500 →
    ∃ s2' s3', forS (.tup [.nm 2, .nm 3]) (exs (GG cl (kk + 1)) mkxG [tB]) (sp.map stD) [some (.val w), some (.olst acc), s2, s3] m = .nx [some (.val w), some (.olst (acc ++ sp.map fun p => tx (stepT st p))), s2', s3'] m
  | [], acc, s2, s3, _, _ => ⟨s2, s3, by simp [forS]⟩
  | p :: sp, acc, s2, s3, h, hl => by
    rw [List.length_cons] at hl
    obtain ⟨s2', s3', e⟩ := text_loop hs hw m sp (acc ++ [tx (stepT st p)]) (some (.val (sdD p.1))) (some (.val (sdD p.2))) (fun q hq => h q (List.mem_cons_of_mem _ hq)) (by simp; omega)
    refine ⟨s2', s3', ?_⟩
    rw [List.map_cons]
    unfold forS
    have t : tgD (.tup [.nm 2, .nm 3]) (stD p) [some (.val w), some (.olst acc), s2, s3] = some [some (.val w), some (.olst acc), some (.val (sdD p.1)), some (.val (sdD p.2))] := by simp
    rw [t]
    dsimp only
    rw [one_step cl kk hs (h p (List.mem_cons_self ..)) hw acc (by omega) m]
    dsimp only
    rw [e]
    simp
theorem text_ok {st : List Nat} {sp : List Stp} (hw : Wk st sp) (m : MH) : FN (PP cl) (kk + 2) 1008 [wkD st sp] m = .ok (tx (workT st sp)) m := by
  rw [F_Work_text]
  refine runF_rt rfl ?_
  show exs (GG cl (kk + 1)) mkxG m_Work_text [some (.val (wkD st sp)), none, none, none] m = _
  obtain ⟨s2, s3, e⟩ := text_loop cl kk hw.stk ⟨sp, rfl⟩ m sp [] none none hw.stp (by have := hw.len; simp; omega)
  have js := join_S 44 (sp.map (stepT st)) (by have := steps_sum hw; have := hw.len; rw [List.length_map]; omega) m
  have hl := stk_len hw.stk
  have c1 := cat_S (a := st) (b := [58]) (by simp; omega)
  have c2 := cat_S (a := st ++ [58]) (b := TL.joinL [44] (sp.map (stepT st))) (by have := steps_len hw; simp; omega)
  rw [List.map_map] at js
  rw [List.nil_append] at e
  have ml : m_Work_text = [.asgO 1 (.lst []), .for_ (.tup [.nm 2, .nm 3]) (.fld (.loc 0) 104) [tB], .ret (.bin .add (.bin .add (.fld (.loc 0) 103) (.k (.str ":"))) (.m1 .join (.k (.str ",")) (.own 1)))] := rfl
  rw [ml]
  have e' : forS (.tup [.nm 2, .nm 3]) (exs (GG cl (kk + 1)) mkxG [tB]) (sp.map stD) [some (.val (wkD st sp)), some (.olst []), none, none] m = .nx [some (.val (wkD st sp)), some (.olst (sp.map (tx ∘ stepT st))), s2, s3] m := e
  simp at c2
  simp [asgOF, List.lookup_cons, e', cm_S, co_S, js, c1, c2, workT]
end
end Kb
end
section
set_option Elab.async false
set_option linter.all false
set_option maxRecDepth 100000
set_option maxHeartbeats 2000000
/-! LWk4: works made, told, compared. -/
namespace Kb
open PySem PySem.Spec PyProof.Rows L2 Mp SX NumText
section
variable (cl : List Nat) (kk : Nat)
theorem alike_refl : ∀ (k kk : Nat) (d : Mp.D) (m : MH), Alk k d → FN (PP cl) (kk + k) n__law_alike [d, d] m = .ok (.bl true) m
  | 0, kk, d, m, h => h.elim
  | k + 1, kk, d, m, h => by
    have e : FN (PP cl) (kk + (k + 1)) n__law_alike = runF (GG cl (kk + k)) mkxG 2 4 m__law_alike := F__law_alike cl (kk + k)
    rw [e]
    exact alike_step (GG cl (kk + k)) mkxG n__law_alike k (fun d m h => alike_refl k kk d m h) d m h
theorem need_ok {st : List Nat} (hs : stkB st = true) (m : MH) : FN (PP cl) (kk + 2) 33 [tx st] m = .ok .non m := by
  have e := are_stocks_ok cl kk (l := st) (by have := stk_len hs; omega) (stk_as hs).sg m
  rw [hs] at e
  have e : FN (PP cl) (kk + 1) 32 [tx st] m = .ok (.bl true) m := e
  rw [F_need_stocks]
  simp [runF, m_need_stocks, tst, e]
abbrev iB : Mp.St := .ife (.orv (.cmp .ge (.loc 3) (.cst 200)) (.notv (.call 35 [(.loc 4), (.blt .len [(.loc 1)])]))) [.rais 6 [(.loc 3)]] []
theorem init_loop {st : List Nat} (hs : stkB st = true) (s0 s2 : Option Sl) (m : MH) : ∀ (sp : List Stp) (i : Nat) (s3 s4 : Option Sl), (∀ p ∈ sp, Step st.length p) → i + sp.length ≤ 4 →
    ∃ s3' s4', forS (.tup [.nm 3, .nm 4]) (exs (GG cl (kk + 4)) mkxG [iB]) (((List.range' i sp.length).zip (sp.map stD)).map fun p => .tup [.int (p.1 : Nat), p.2]) [s0, some (.val (tx st)), s2, s3, s4] m = .nx [s0, some (.val (tx st)), s2, s3', s4'] m
  | [], i, s3, s4, _, _ => ⟨s3, s4, by simp [forS]⟩
  | p :: sp, i, s3, s4, h, hl => by
    rw [List.length_cons] at hl
    obtain ⟨s3', s4', e⟩ := init_loop hs s0 s2 m sp (i + 1) (some (.val (nD i))) (some (.val (stD p))) (fun q hq => h q (List.mem_cons_of_mem _ hq)) (by omega)
    refine ⟨s3', s4', ?_⟩
    rw [List.length_cons, List.range'_succ, List.map_cons, List.zip_cons_cons, List.map_cons]
    unfold forS
    have t : tgD (.tup [.nm 3, .nm 4]) (.tup [.int (i : Nat), stD p]) [s0, some (.val (tx st)), s2, s3, s4] = some [s0, some (.val (tx st)), s2, some (.val (nD i)), some (.val (stD p))] := by simp
    rw [t]
    dsimp only
    have hk := stk_len hs
    have e1 := is_step_ok cl kk (h p (List.mem_cons_self ..)) (by omega) m
    have e2 := len_S (l := st) (by omega) m
    have hi : ¬ (4 : Int) ≤ (i : Int) := by omega
    have e0 : exs (GG cl (kk + 4)) mkxG [iB] [s0, some (.val (tx st)), s2, some (.val (nD i)), some (.val (stD p))] m = .nx [s0, some (.val (tx st)), s2, some (.val (nD i)), some (.val (stD p))] m := by
      simp [tst, c200, hi, e2, e1]
    rw [e0]
    exact e
theorem enm_sp {x : Mp.D} {sp : List Stp} (hx : zitD x = some (sp.map stD)) : enmD x = some (((List.range' 0 sp.length).zip (sp.map stD)).map fun p => .tup [.int (p.1 : Nat), p.2]) := by
  unfold enmD
  rw [hx, Option.map_some, List.length_map, List.range_eq_range']
theorem init_ok {st : List Nat} {sp : List Stp} (hw : Wk st sp) {x : Mp.D} (hx : zitD x = some (sp.map stD)) (hl : ∀ m, bltD .list [x] m = some (.lst (sp.map stD))) (m : MH) : FN (PP cl) (kk + 5) 1000 [tx st, x] m = .ok (wkD st sp) m := by
  rw [F_Work_init]
  have e0 := need_ok cl (kk + 2) hw.stk m
  have en := enm_sp hx
  obtain ⟨s3, s4, e⟩ := init_loop cl kk hw.stk (some (.oins 8 [] [])) (some (.val x)) m sp 0 none none hw.stp (by have := hw.len; omega)
  have ml : m_Work_init = [.exp (.call 33 [(.loc 1)]), .for_ (.tup [.nm 3, .nm 4]) (.enm (.loc 2)) [iB], .fldO 103 (.loc 1), .fldO 104 (.blt .list [(.loc 2)])] := rfl
  rw [ml]
  simp [runI, e0, en, e, fldOF, hl]
theorem stocks_ok {st : List Nat} {sp : List Stp} (m : MH) : FN (PP cl) (kk + 1) 1002 [wkD st sp] m = .ok (tx st) m := by
  rw [F_Work_stocks]
  simp [runF, m_Work_stocks]
theorem steps_ok {st : List Nat} {sp : List Stp} (m : MH) : FN (PP cl) (kk + 1) 1003 [wkD st sp] m = .ok (.lst (sp.map stD)) m := by
  rw [F_Work_steps]
  simp [runF, m_Work_steps, List.lookup_cons]
theorem len_ok {st : List Nat} {sp : List Stp} (m : MH) : FN (PP cl) (kk + 1) 1007 [wkD st sp] m = .ok (nD sp.length) m := by
  rw [F_Work_len]
  simp [runF, m_Work_len, List.lookup_cons]
theorem step_inj {a b : Stp} : stD a = stD b ↔ a = b := by
  have hi : ∀ {x y : List Nat}, x.map nD = y.map nD → x = y := fun {x y} h => by
    have := congrArg (List.map fun d => match d with | Mp.D.int i => i.toNat | _ => 0) h
    rw [List.map_map, List.map_map] at this
    have e : ((fun d => match d with | Mp.D.int i => i.toNat | _ => 0) ∘ nD) = id := by
      funext n
      show (n : Int).toNat = n
      omega
    rwa [e, List.map_id, List.map_id] at this
  constructor
  · intro h
    injection h with h
    injection h with h1 h2
    injection h2 with h2 _
    injection h1 with h1
    injection h2 with h2
    exact Prod.ext (hi h1) (hi h2)
  · rintro rfl; rfl
theorem steps_inj {a b : List Stp} : a.map stD = b.map stD ↔ a = b := by
  constructor
  · intro h
    induction a generalizing b with
    | nil => cases b with
      | nil => rfl
      | cons y b => cases h
    | cons x a ih => cases b with
      | nil => cases h
      | cons y b =>
        rw [List.map_cons, List.map_cons, List.cons.injEq] at h
        rw [step_inj.mp h.1, ih h.2]
  · rintro rfl; rfl
theorem qn_step (p : Stp) : Qn 2 (stD p) := by
  unfold Qn
  intro x hx
  simp only [List.mem_cons, List.not_mem_nil, or_false] at hx
  rcases hx with rfl | rfl <;> (unfold Qn; intro y hy; obtain ⟨n, _, rfl⟩ := List.mem_map.mp hy; unfold Qn; trivial)
theorem qn_steps (sp : List Stp) : Qn 3 (.lst (sp.map stD)) := by
  unfold Qn
  intro x hx
  obtain ⟨p, _, rfl⟩ := List.mem_map.mp hx
  exact qn_step p
theorem qn_tx {l : List Nat} (h : Sg l) (k : Nat) : Qn k (tx l) := by cases k <;> exact h.ok
theorem qn_pair {st : List Nat} (sp : List Stp) (h : Sg st) : Qn 4 (.tup [tx st, .lst (sp.map stD)]) := by
  unfold Qn
  intro x hx
  simp only [List.mem_cons, List.not_mem_nil, or_false] at hx
  rcases hx with rfl | rfl
  · exact qn_tx h 3
  · exact qn_steps sp
theorem eq_ok {st st' : List Nat} {sp sp' : List Stp} (h : Sg st) (h' : Sg st') (m : MH) : FN (PP cl) (kk + 1) 1006 [wkD st sp, wkD st' sp'] m = .ok (.bl (decide (st = st' ∧ sp = sp'))) m := by
  rw [F_Work_eq]
  have e : cmpD .eq (.tup [tx st, .lst (sp.map stD)]) (.tup [tx st', .lst (sp'.map stD)]) = some (.bl (decide (st = st' ∧ sp = sp'))) := by
    rw [cmp_eq_Q (k := 4) (by decide) (qn_pair sp h) (qn_pair sp' h')]
    congr 2
    rw [decide_eq_decide]
    constructor
    · intro z
      injection z with z
      injection z with z1 z2
      injection z2 with z2 _
      injection z2 with z2
      injection z1 with z1
      exact ⟨S_inj z1, steps_inj.mp z2⟩
    · rintro ⟨rfl, rfl⟩; rfl
  have l2 : ((2 : Nat) ≤ sizeLine) := le_line (by decide)
  simp [runF, m_Work_eq, List.lookup_cons, tst, isCD, l2, e]
end
end Kb
end
section
set_option Elab.async false
set_option linter.all false
set_option maxRecDepth 100000
set_option maxHeartbeats 2000000
/-! LWk5: what the law says of a work; drawn stocks, sides, steps. -/
namespace Kb
open PySem PySem.Spec PyProof.Rows L2 Mp SX NumText
def reprT (st : List Nat) (sp : List Stp) : List Nat := [87, 111, 114, 107, 40] ++ TL.numL st.length ++ [32, 115, 116, 111, 99, 107, 115, 44, 32] ++ TL.numL sp.length ++ [32, 115, 116, 101, 112, 115, 41]
theorem wk_S : (Str.ofString "Work(" : Str) = S [87, 111, 114, 107, 40] := by kernel_rfl
theorem ss_S : (Str.ofString " stocks, " : Str) = S [32, 115, 116, 111, 99, 107, 115, 44, 32] := by kernel_rfl
theorem sx_S : (Str.ofString " steps)" : Str) = S [32, 115, 116, 101, 112, 115, 41] := by kernel_rfl
theorem fmt_nat {n : Nat} (h : n ≤ 9) : fmtD (nD n) = some (tx (TL.numL n)) := by
  have e := fmt_int (i := (n : Int)) (by rw [Int.natAbs_natCast]; exact Nat.lt_of_le_of_lt h (by decide))
  have e2 : intL (n : Int) = TL.numL n := by
    unfold intL
    rw [if_neg (by omega), Int.natAbs_natCast]
  rw [e2] at e
  exact e
theorem evf_step {G : Gt} {e : E} {es : List E} {a b : List Nat} {fr : Fr} {m : MH} (h : ev G e fr m = .ok (tx b) m) (hl : a.length + b.length ≤ 1000) : evf G (e :: es) (S a) fr m = evf G es (S (a ++ b)) fr m := by
  rw [evf_cons, h]
  dsimp only [R.ok_bind]
  rw [app_S, if_pos (by rw [S_len, List.length_append]; exact le_line hl)]
theorem du_len {n : Nat} (h : n ≤ 1000) : duD .len (nD n) = some (nD n) := by
  have e : duD .len (nD n) = if (0 : Int) ≤ (n : Int) ∧ (n : Int) < 9223372036854775808 then some (nD n) else none := rfl
  rw [e, if_pos ⟨by omega, by omega⟩]
section
variable (cl : List Nat) (kk : Nat) (rest : MH)
theorem repr_ok {st : List Nat} {sp : List Stp} (hw : Wk st sp) (m : MH) : FN (PP cl) (kk + 1) 1009 [wkD st sp] m = .ok (tx (reprT st sp)) m := by
  rw [F_Work_repr]
  refine runF_rt rfl ?_
  show exs (GG cl kk) mkxG m_Work_repr [some (.val (wkD st sp))] m = _
  have hk := stk_len hw.stk
  have hp := hw.len
  have n1 := numL_one (n := st.length) (by omega)
  have n2 := numL_one (n := sp.length) (by omega)
  have e1 : ev (GG cl kk) (.fmt (.blt .len [(.fld (.loc 0) 103)])) [some (.val (wkD st sp))] m = .ok (tx (TL.numL st.length)) m := by
    have e := fmt_nat (n := st.length) (by omega)
    have l := len_S (l := st) (by omega) m
    simp [l, e]
  have e2 : ev (GG cl kk) (.fmt (.blt .len [(.fld (.loc 0) 104)])) [some (.val (wkD st sp))] m = .ok (tx (TL.numL sp.length)) m := by
    have e := fmt_nat (n := sp.length) (by omega)
    simp [List.lookup_cons, e]
  have k1 : ev (GG cl kk) (.k (.str "Work(")) [some (.val (wkD st sp))] m = .ok (tx [87, 111, 114, 107, 40]) m := by rw [ev_k, wk_S]
  have k2 : ev (GG cl kk) (.k (.str " stocks, ")) [some (.val (wkD st sp))] m = .ok (tx [32, 115, 116, 111, 99, 107, 115, 44, 32]) m := by rw [ev_k, ss_S]
  have k3 : ev (GG cl kk) (.k (.str " steps)")) [some (.val (wkD st sp))] m = .ok (tx [32, 115, 116, 101, 112, 115, 41]) m := by rw [ev_k, sx_S]
  have e : ev (GG cl kk) (.fs [.k (.str "Work("), (.fmt (.blt .len [(.fld (.loc 0) 103)])), .k (.str " stocks, "), (.fmt (.blt .len [(.fld (.loc 0) 104)])), .k (.str " steps)")]) [some (.val (wkD st sp))] m = .ok (tx (reprT st sp)) m := by
    rw [ev_fs, show (Str.empty : Str) = S [] from rfl, evf_step k1 (by simp), evf_step e1 (by simp [n1]), evf_step k2 (by simp [n1]), evf_step e2 (by simp [n1, n2]), evf_step k3 (by simp [n1, n2])]
    rfl
  rw [show m_Work_repr = [.ret (.fs [.k (.str "Work("), (.fmt (.blt .len [(.fld (.loc 0) 103)])), .k (.str " stocks, "), (.fmt (.blt .len [(.fld (.loc 0) 104)])), .k (.str " steps)")])] from rfl, exs_cons, ex_ret, e]
  rfl
theorem law_work_text_ok {st : List Nat} {sp : List Stp} (hw : Wk st sp) (m : MH) : FN (PP cl) (kk + 2) 43 [tx st, .lst (sp.map stD)] m = .ok (tx (workT st sp)) m := by
  rw [F__law_work_text]
  refine runF_rt rfl ?_
  show exs (GG cl (kk + 1)) mkxG m__law_work_text [some (.val (tx st)), some (.val (.lst (sp.map stD))), none, none, none] m = _
  have hl := stk_len hw.stk
  have cg := compGo_map (vs := [3, 4]) (tg := .tup [.nm 3, .nm 4]) (el := ev (GG cl (kk + 1)) (.bin .add (.bin .add (.call 42 [(.loc 0), (.loc 3)]) (.k (.str ">"))) (.call 42 [(.loc 0), (.loc 4)]))) (fr := [some (.val (tx st)), some (.val (.lst (sp.map stD))), none, none, none]) (m := m) stD (fun p => tx (stepT st p)) sp [] (fun p hp => ⟨[some (.val (tx st)), some (.val (.lst (sp.map stD))), none, some (.val (sdD p.1)), some (.val (sdD p.2))], by simp [wipeF], by
    have h := hw.stp p hp
    have e1 := law_side_text_ok cl kk (stk_as hw.stk) (by omega) h.1 (by omega) (zit_sd p.1) m
    have e2 := law_side_text_ok cl kk (stk_as hw.stk) (by omega) h.2 (by omega) (zit_sd p.2) m
    have l1 := sideT_len h.1 hl.2
    have l2 := sideT_len h.2 hl.2
    have c1 := cat_S (a := sideT st p.1) (b := [62]) (by simp; omega)
    have c2 := cat_S (a := sideT st p.1 ++ [62]) (b := sideT st p.2) (by simp; omega)
    simp [e1, e2, gt_S, c1]
    simp at c2
    simp [c2, stepT]⟩) (by have := hw.len; simp; exact le_line (by omega))
  rw [List.nil_append] at cg
  have js := join_S 44 (sp.map (stepT st)) (by have := steps_sum hw; have := hw.len; rw [List.length_map]; omega) m
  rw [List.map_map] at js
  have cg : compGo [3, 4] (.tup [.nm 3, .nm 4]) [] (ev (GG cl (kk + 1)) (.bin .add (.bin .add (.call 42 [(.loc 0), (.loc 3)]) (.k (.str ">"))) (.call 42 [(.loc 0), (.loc 4)]))) [some (.val (tx st)), some (.val (.lst (sp.map stD))), none, none, none] (sp.map stD) [] m = .ok (sp.map (tx ∘ stepT st)) m := cg
  have c1 := cat_S (a := st) (b := [58]) (by simp; omega)
  have c2 := cat_S (a := st ++ [58]) (b := TL.joinL [44] (sp.map (stepT st))) (by have := steps_len hw; simp; omega)
  simp at c2
  rw [gt_S] at cg
  simp [m__law_work_text, gt_S, cg, cm_S, co_S, js, c1, c2, workT]
theorem alk_steps {sp : List Stp} {k : Nat} (h : ∀ p ∈ sp, Step k p) (hk : k ≤ 500) (hl : sp.length ≤ 500) : Alk 5 (.lst (sp.map stD)) := by
  refine ⟨by rw [List.length_map]; exact le_line (by omega), fun x hx => ?_⟩
  obtain ⟨p, hp, rfl⟩ := List.mem_map.mp hx
  refine ⟨show 2 ≤ sizeLine from le_line (by decide), fun y hy => ?_⟩
  have hs := h p hp
  have side : ∀ a, Side k a → Alk 3 (sdD a) := fun a ha => ⟨by rw [List.length_map, ha.1]; exact le_line (by omega), fun z hz => by obtain ⟨n, _, rfl⟩ := List.mem_map.mp hz; trivial⟩
  simp only [List.mem_cons, List.not_mem_nil, or_false] at hy
  rcases hy with rfl | rfl
  · exact side _ hs.1
  · exact side _ hs.2
theorem words_ok {st : List Nat} {sp : List Stp} (hw : Wk st sp) (m : MH) : ev (GG cl (kk + 7)) (.bin .add (.bin .add (.bin .add (.bin .add (.k (.str "Work(")) (.blt .str [(.blt .len [(.loc 1)])])) (.k (.str " stocks, "))) (.blt .str [(.blt .len [(.loc 2)])])) (.k (.str " steps)"))) [some (.val (wkD st sp)), some (.val (tx st)), some (.val (.lst (sp.map stD))), none, none] m = .ok (tx (reprT st sp)) m := by
  have hk := stk_len hw.stk
  have hp := hw.len
  have l := len_S (l := st) (by omega) m
  have s1 := small_str (n := st.length) (by omega) m
  have s2 := small_str (n := sp.length) (by omega) m
  have n1 := numL_one (n := st.length) (by omega)
  have n2 := numL_one (n := sp.length) (by omega)
  have c1 := cat_S (a := [87, 111, 114, 107, 40]) (b := TL.numL st.length) (by simp [n1])
  have c2 := cat_S (a := [87, 111, 114, 107, 40] ++ TL.numL st.length) (b := [32, 115, 116, 111, 99, 107, 115, 44, 32]) (by simp [n1])
  have c3 := cat_S (a := [87, 111, 114, 107, 40] ++ TL.numL st.length ++ [32, 115, 116, 111, 99, 107, 115, 44, 32]) (b := TL.numL sp.length) (by simp [n1, n2])
  have c4 := cat_S (a := [87, 111, 114, 107, 40] ++ TL.numL st.length ++ [32, 115, 116, 111, 99, 107, 115, 44, 32] ++ TL.numL sp.length) (b := [32, 115, 116, 101, 112, 115, 41]) (by simp [n1, n2])
  simp only [ev_bin, ev_k, ev_blt, evs_cons, evs_nil, ev_loc_succ, ev_loc_zero, R.ok_bind, wk_S, ss_S, sx_S, l, optR_some, s1, c1, c2, len_lst, List.length_map, s2, c3, c4]
  rfl
theorem is_work_ok {st : List Nat} {sp : List Stp} (hw : Wk st sp) (m : MH) : FN (PP cl) (kk + 8) 44 [wkD st sp, tx st, .lst (sp.map stD)] m = .ok (.bl true) m := by
  rw [F__law_is_work]
  refine runF_rt rfl ?_
  show exs (GG cl (kk + 7)) mkxG m__law_is_work [some (.val (wkD st sp)), some (.val (tx st)), some (.val (.lst (sp.map stD))), none, none] m = _
  have hk := stk_len hw.stk
  have hp := hw.len
  have e1 := words_ok cl kk hw m
  have w1 : FN (PP cl) (kk + 7) 1002 [wkD st sp] m = .ok (tx st) m := stocks_ok cl (kk + 6) m
  have w2 : FN (PP cl) (kk + 7) 1003 [wkD st sp] m = .ok (.lst (sp.map stD)) m := steps_ok cl (kk + 6) m
  have w3 : FN (PP cl) (kk + 7) 1007 [wkD st sp] m = .ok (nD sp.length) m := len_ok cl (kk + 6) m
  have w4 : FN (PP cl) (kk + 7) 1008 [wkD st sp] m = .ok (tx (workT st sp)) m := text_ok cl (kk + 5) hw m
  have w5 : FN (PP cl) (kk + 7) 1009 [wkD st sp] m = .ok (tx (reprT st sp)) m := repr_ok cl (kk + 6) hw m
  have w6 : FN (PP cl) (kk + 7) 43 [tx st, .lst (sp.map stD)] m = .ok (tx (workT st sp)) m := law_work_text_ok cl (kk + 5) hw m
  have al : FN (PP cl) (kk + 7) 8 [.lst [tx st, .lst (sp.map stD), nD sp.length, tx (workT st sp), tx (reprT st sp)], .lst [tx st, .lst (sp.map stD), nD sp.length, tx (workT st sp), tx (reprT st sp)]] m = .ok (.bl true) m := by
    refine alike_refl cl 7 kk _ m ⟨show 5 ≤ sizeLine from le_line (by decide), fun x hx => ?_⟩
    simp only [List.mem_cons, List.not_mem_nil, or_false] at hx
    rcases hx with rfl | rfl | rfl | rfl | rfl <;> first | exact True.intro | exact (alk_steps hw.stp (by omega) (by omega)).up
  have d1 := du_len (n := sp.length) (by omega)
  generalize kk + 7 = K at *
  have d2 : duD .repr (tx (reprT st sp)) = some (tx (reprT st sp)) := rfl
  have f0 : ∀ (s3 s4 : Option Sl), ev (gtW (PP cl) (FN (PP cl) K)) (.fld (.loc 0) 107) [some (.val (wkD st sp)), some (.val (tx st)), some (.val (.lst (sp.map stD))), s3, s4] m = .ok (tx st) m := fun s3 s4 => ev_prp_of rfl rfl pr_8_107 w1
  have f1 : ∀ (s3 s4 : Option Sl), ev (gtW (PP cl) (FN (PP cl) K)) (.mth 108 (.loc 0) []) [some (.val (wkD st sp)), some (.val (tx st)), some (.val (.lst (sp.map stD))), s3, s4] m = .ok (.lst (sp.map stD)) m := fun s3 s4 => (ev_mth_of rfl rfl mt_8_108 rfl rfl).trans w2
  have f2 : ∀ (s3 s4 : Option Sl), ev (gtW (PP cl) (FN (PP cl) K)) (.dun .len 100 (.loc 0)) [some (.val (wkD st sp)), some (.val (tx st)), some (.val (.lst (sp.map stD))), s3, s4] m = .ok (nD sp.length) m := fun s3 s4 => ev_dun_of rfl rfl mt_8_100 w3 d1
  have f3 : ∀ (s3 s4 : Option Sl), ev (gtW (PP cl) (FN (PP cl) K)) (.mth 113 (.loc 0) []) [some (.val (wkD st sp)), some (.val (tx st)), some (.val (.lst (sp.map stD))), s3, s4] m = .ok (tx (workT st sp)) m := fun s3 s4 => (ev_mth_of rfl rfl mt_8_113 rfl rfl).trans w4
  have f4 : ∀ (s3 s4 : Option Sl), ev (gtW (PP cl) (FN (PP cl) K)) (.dun .repr 101 (.loc 0)) [some (.val (wkD st sp)), some (.val (tx st)), some (.val (.lst (sp.map stD))), s3, s4] m = .ok (tx (reprT st sp)) m := fun s3 s4 => ev_dun_of rfl rfl mt_8_101 w5 d2
  rw [show m__law_is_work = [.asg (.nm 3) (.bin .add (.bin .add (.bin .add (.bin .add (.k (.str "Work(")) (.blt .str [(.blt .len [(.loc 1)])])) (.k (.str " stocks, "))) (.blt .str [(.blt .len [(.loc 2)])])) (.k (.str " steps)"))), .asg (.nm 4) (.lst [(.fld (.loc 0) 107), (.mth 108 (.loc 0) []), (.dun .len 100 (.loc 0)), (.mth 113 (.loc 0) []), (.dun .repr 101 (.loc 0))]), .ret (.call 8 [(.loc 4), (.lst [(.loc 1), (.loc 2), (.blt .len [(.loc 2)]), (.call 43 [(.loc 1), (.loc 2)]), (.loc 3)])])] from rfl]
  have g1 : ∀ (s3 s4 : Option Sl), evs (gtW (PP cl) (FN (PP cl) K)) [(.fld (.loc 0) 107), (.mth 108 (.loc 0) []), (.dun .len 100 (.loc 0)), (.mth 113 (.loc 0) []), (.dun .repr 101 (.loc 0))] [some (.val (wkD st sp)), some (.val (tx st)), some (.val (.lst (sp.map stD))), s3, s4] m = .ok [tx st, .lst (sp.map stD), nD sp.length, tx (workT st sp), tx (reprT st sp)] m := fun s3 s4 => by
    rw [evs_cons, f0, R.ok_bind, evs_cons, f1, R.ok_bind, evs_cons, f2, R.ok_bind, evs_cons, f3, R.ok_bind, evs_cons, f4, R.ok_bind, evs_nil]
    rfl
  have l5 : (5 : Nat) ≤ sizeLine := le_line (by decide)
  have g2 : ∀ (s3 s4 : Option Sl), s3 = some (.val (tx (reprT st sp))) → ev (gtW (PP cl) (FN (PP cl) K)) (.lst [(.loc 1), (.loc 2), (.blt .len [(.loc 2)]), (.call 43 [(.loc 1), (.loc 2)]), (.loc 3)]) [some (.val (wkD st sp)), some (.val (tx st)), some (.val (.lst (sp.map stD))), s3, s4] m = .ok (.lst [tx st, .lst (sp.map stD), nD sp.length, tx (workT st sp), tx (reprT st sp)]) m := fun s3 s4 e => by
    subst e
    simp [w6, l5]
  refine (exs_asg e1).trans ((exs_asg (ev_lst_of (g1 _ _) l5)).trans (exs_ret ?_))
  refine (ev_call_of (evs_of rfl (evs_of (g2 _ _ rfl) rfl))).trans ?_
  exact al
end
end Kb
end
section
set_option Elab.async false
set_option linter.all false
set_option maxRecDepth 100000
set_option maxHeartbeats 2000000
/-! LWk6: drawn stocks, sides, steps. -/
namespace Mp
open PySem PySem.Spec PyProof.Rows L2
/-- a comprehension whose parts may draw -/
theorem compGo_inv {A : Type} {vs : List Nat} {tg : Tg} {el : Fr → MH → R D} {fr : Fr} {I : MH → Prop} {P : D → Prop} (g : A → D) : ∀ (xs : List A) (acc : List D) (m : MH), I m → (∀ x ∈ xs, ∃ fr2, tgD tg (g x) (wipeF fr vs) = some fr2 ∧ ∀ m, I m → ∃ y m', el fr2 m = .ok y m' ∧ P y ∧ I m') → acc.length + xs.length ≤ sizeLine →
    ∃ ys m', compGo vs tg [] el fr (xs.map g) acc m = .ok (acc ++ ys) m' ∧ ys.length = xs.length ∧ (∀ y ∈ ys, P y) ∧ I m'
  | [], acc, m, hI, _, _ => ⟨[], m, by simp [compGo], rfl, (fun _ h => nomatch h), hI⟩
  | x :: xs, acc, m, hI, hx, hl => by
    obtain ⟨fr2, e1, h2⟩ := hx x (List.mem_cons_self ..)
    obtain ⟨y, m1, e2, p2, i2⟩ := h2 m hI
    obtain ⟨ys, m2, e3, l3, p3, i3⟩ := compGo_inv g xs (acc ++ [y]) m1 i2 (fun z hz => hx z (List.mem_cons_of_mem _ hz)) (by simp at hl ⊢; omega)
    have hl1 : acc.length < sizeLine := by simp at hl; omega
    refine ⟨y :: ys, m2, ?_, by rw [List.length_cons, List.length_cons, l3], fun z hz => ?_, i3⟩
    · rw [List.map_cons]
      unfold compGo
      rw [e1]
      simp only [condGo, R.ok_bind, e2, isOk, hl1, if_true, e3]
      simp
    · rcases List.mem_cons.mp hz with rfl | hz
      · exact p2
      · exact p3 z hz
end Mp
namespace Kb
open PySem PySem.Spec PyProof.Rows L2 Mp SX NumText
def stL : List (List Nat) := [[97, 98, 99, 100], [98, 100, 120, 122], [97, 103, 104, 121]]
theorem stL_ok : ∀ l ∈ stL, ∀ j : Nat, 1 ≤ j → j ≤ 4 → stkB (l.take j) = true ∧ (l.take j).length = j := by
  intro l hl j h1 h2
  have : j = 1 ∨ j = 2 ∨ j = 3 ∨ j = 4 := by omega
  unfold stL at hl
  simp only [List.mem_cons, List.not_mem_nil, or_false] at hl
  rcases hl with rfl | rfl | rfl <;> rcases this with rfl | rfl | rfl | rfl <;> decide +kernel
theorem s1_S : (Str.ofString "abcd" : Str) = S [97, 98, 99, 100] := by kernel_rfl
theorem s2_S : (Str.ofString "bdxz" : Str) = S [98, 100, 120, 122] := by kernel_rfl
theorem s3_S : (Str.ofString "aghy" : Str) = S [97, 103, 104, 121] := by kernel_rfl
section
variable (cl : List Nat) (kk : Nat) (rest : MH)
theorem some_stocks_ok {ns : List Int} {most : Nat} {m : MH} (hB : Bag ns rest m) (h1 : 1 ≤ most) (h4 : most ≤ 4) : ∃ st m', FN (PP cl) (kk + 3) 39 [.ref 0, nD most] m = .ok (tx st) m' ∧ stkB st = true ∧ st.length ≤ most ∧ Bag ns rest m' := by
  obtain ⟨r, m1, e1, a1, b1, B1⟩ := draw_ok cl (kk + 1) rest (many := (most : Int)) hB (by omega) (Int.lt_of_le_of_lt (show (most : Int) ≤ 4 by omega) (by decide))
  obtain ⟨x, m2, hx, e2, B2⟩ := of_ok cl kk rest (xs := stL.map tx) B1 (by decide) (by decide)
  obtain ⟨l, hl, rfl⟩ := List.mem_map.mp hx
  have hr : (1 : Int) + r = ((1 + r.toNat : Nat) : Int) := by omega
  obtain ⟨k1, k2⟩ := stL_ok l hl (1 + r.toNat) (by omega) (by omega)
  refine ⟨l.take (1 + r.toNat), m2, ?_, k1, by omega, B2⟩
  rw [F__law_some_stocks]
  refine runF_rt rfl ?_
  have e1 : FN (PP cl) (kk + 2) 5 [.ref 0, nD most] m = .ok (.int r) m1 := e1
  have e2 : FN (PP cl) (kk + 2) 6 [.ref 0, .lst (stL.map tx)] m1 = .ok (tx l) m2 := e2
  generalize kk + 2 = K at *
  show exs (GG cl K) mkxG [.asg (.nm 2) (.bin .add (.k (.int 1)) (.call 5 [(.loc 0), (.loc 1)])), .ret (.sl (.call 6 [(.loc 0), (.lst [.k (.str "abcd"), .k (.str "bdxz"), .k (.str "aghy")])]) (.k .non) (.prt (.loc 2)))] [some (.val (.ref 0)), some (.val (nD most)), none] m = _
  have l3 : (3 : Nat) ≤ sizeLine := le_line (by decide)
  have f1 : ev (GG cl K) (.bin .add (.k (.int 1)) (.call 5 [(.loc 0), (.loc 1)])) [some (.val (.ref 0)), some (.val (nD most)), none] m = .ok (.int (1 + r)) m1 := by
    rw [ev_bin, ev_k, R.ok_bind, ev_call_of (es' := [.ref 0, nD most]) (m1 := m) rfl]
    show (FN (PP cl) K 5 [.ref 0, nD most] m).bind _ = _
    rw [e1]
    rfl
  have hlen : l.length ≤ 1000 := by
    unfold stL at hl
    simp only [List.mem_cons, List.not_mem_nil, or_false] at hl
    rcases hl with rfl | rfl | rfl <;> decide
  have f2 : ev (GG cl K) (.sl (.call 6 [(.loc 0), (.lst [.k (.str "abcd"), .k (.str "bdxz"), .k (.str "aghy")])]) (.k .non) (.prt (.loc 2))) [some (.val (.ref 0)), some (.val (nD most)), some (.val (.int (1 + r)))] m1 = .ok (tx (l.take (1 + r.toNat))) m2 := by
    have g : ev (GG cl K) (.lst [.k (.str "abcd"), .k (.str "bdxz"), .k (.str "aghy")]) [some (.val (.ref 0)), some (.val (nD most)), some (.val (.int (1 + r)))] m1 = .ok (.lst (stL.map tx)) m1 := by
      rw [s1_S, s2_S, s3_S]
      exact ev_lst_of rfl l3
    rw [ev_sl, ev_call_of (evs_of rfl (evs_of g rfl))]
    show (FN (PP cl) K 6 [.ref 0, .lst (stL.map tx)] m1).bind _ = _
    rw [e2, R.ok_bind, ev_k, R.ok_bind]
    show ((ev (GG cl K) (.prt (.loc 2)) [some (.val (.ref 0)), some (.val (nD most)), some (.val (.int (1 + r)))] m2).bind fun h m3 => match optI h with | some h => optR (slD (tx l) none h) m3 | none => .bad) = _
    rw [ev_prt, ev_loc_succ, ev_loc_succ, ev_loc_zero, R.ok_bind, R.ok_bind]
    show optR (slD (tx l) none (some (1 + r))) m2 = _
    rw [hr, slS_to hlen]
    rfl
  exact (exs_asg f1).trans (exs_ret f2)
theorem side_item {ns : List Int} {m : MH} (hB : Bag ns rest m) (fr : Fr) (h0 : fr[0]? = some (some (.val (.ref 0)))) : ∃ n m', ev (GG cl (kk + 2)) (.call 6 [(.loc 0), (.lst [.k (.int 0), .k (.int 0), .k (.int 1), .k (.int 1), .k (.int 2), (.call 5 [(.loc 0), .k (.int 10)])])]) fr m = .ok (nD n) m' ∧ n ≤ 9 ∧ Bag ns rest m' := by
  obtain ⟨r, m1, e1, a1, b1, B1⟩ := draw_ok cl (kk + 1) rest (many := 10) hB (by decide) (by decide)
  obtain ⟨x, m2, hx, e2, B2⟩ := of_ok cl kk rest (xs := [.int 0, .int 0, .int 1, .int 1, .int 2, .int r]) B1 (by simp) (by simp)
  have e1 : FN (PP cl) (kk + 2) 5 [.ref 0, .int 10] m = .ok (.int r) m1 := e1
  have e2 : FN (PP cl) (kk + 2) 6 [.ref 0, .lst [.int 0, .int 0, .int 1, .int 1, .int 2, .int r]] m1 = .ok x m2 := e2
  obtain ⟨n, hn, rfl⟩ : ∃ n : Nat, n ≤ 9 ∧ x = nD n := by
    simp only [List.mem_cons, List.not_mem_nil, or_false] at hx
    rcases hx with rfl | rfl | rfl | rfl | rfl | rfl
    · exact ⟨0, by omega, rfl⟩
    · exact ⟨0, by omega, rfl⟩
    · exact ⟨1, by omega, rfl⟩
    · exact ⟨1, by omega, rfl⟩
    · exact ⟨2, by omega, rfl⟩
    · exact ⟨r.toNat, by omega, by show Mp.D.int r = Mp.D.int (r.toNat : Int); congr 1; omega⟩
  refine ⟨n, m2, ?_, hn, B2⟩
  have l0 : ∀ m, ev (GG cl (kk + 2)) (.loc 0) fr m = .ok (.ref 0) m := fun m => ev_loc_ _ _ _ _ _ h0
  have l6 : (6 : Nat) ≤ sizeLine := le_line (by decide)
  have g : ev (GG cl (kk + 2)) (.lst [.k (.int 0), .k (.int 0), .k (.int 1), .k (.int 1), .k (.int 2), (.call 5 [(.loc 0), .k (.int 10)])]) fr m = .ok (.lst [.int 0, .int 0, .int 1, .int 1, .int 2, .int r]) m1 := by
    refine ev_lst_of (evs_of rfl (evs_of rfl (evs_of rfl (evs_of rfl (evs_of rfl (evs_of (m1 := m1) ?_ rfl)))))) l6
    exact W_call (evs_two (l0 m) rfl) e1
  exact W_call (evs_two (l0 m) g) e2
theorem nats_of : ∀ {ys : List Mp.D}, (∀ y ∈ ys, ∃ n : Nat, n ≤ 9 ∧ y = nD n) → ∃ a : List Nat, ys = a.map nD ∧ ∀ n ∈ a, n ≤ 9
  | [], _ => ⟨[], rfl, (fun _ h => nomatch h)⟩
  | y :: ys, h => by
    obtain ⟨n, hn, rfl⟩ := h y (List.mem_cons_self ..)
    obtain ⟨a, rfl, ha⟩ := nats_of fun z hz => h z (List.mem_cons_of_mem _ hz)
    exact ⟨n :: a, rfl, fun k hk => by rcases List.mem_cons.mp hk with rfl | hk; exact hn; exact ha k hk⟩
theorem rng_nat {k : Nat} (h : k ≤ 1000) : rngD (.int 0) (nD k) = some ((List.range k).map nD) := by
  show rngI 0 (k : Int) = _
  unfold rngI
  rw [if_pos ⟨by decide, by decide, by omega, by omega⟩]
  congr 1
  rw [show ((k : Int) - 0).toNat = k by omega]
  apply List.map_congr_left
  intro n _
  show Mp.D.int (0 + (n : Int)) = Mp.D.int n
  rw [Int.zero_add]
theorem some_side_ok {ns : List Int} {k : Nat} {m : MH} (hB : Bag ns rest m) (hk : k ≤ 500) : ∃ a m', FN (PP cl) (kk + 3) 40 [.ref 0, nD k] m = .ok (sdD a) m' ∧ Side k a ∧ Bag ns rest m' := by
  have cg := compGo_inv (vs := [2]) (tg := .nm 2) (el := ev (GG cl (kk + 2)) (.call 6 [(.loc 0), (.lst [.k (.int 0), .k (.int 0), .k (.int 1), .k (.int 1), .k (.int 2), (.call 5 [(.loc 0), .k (.int 10)])])])) (fr := [some (.val (.ref 0)), some (.val (nD k)), none]) (I := Bag ns rest) (P := fun y => ∃ n : Nat, n ≤ 9 ∧ y = nD n) nD (List.range k) [] m hB
    (fun x _ => ⟨[some (.val (.ref 0)), some (.val (nD k)), some (.val (nD x))], by simp [wipeF], fun m hm => by
      obtain ⟨n, m', e, hn, B⟩ := side_item cl kk rest hm [some (.val (.ref 0)), some (.val (nD k)), some (.val (nD x))] rfl
      exact ⟨_, m', e, ⟨n, hn, rfl⟩, B⟩⟩) (by rw [List.length_range]; exact le_line (by simp; omega))
  obtain ⟨ys, m', e, hl, hp, B⟩ := cg
  obtain ⟨a, rfl, ha⟩ := nats_of hp
  rw [List.length_map, List.length_range] at hl
  refine ⟨a, m', ?_, ⟨hl, ha⟩, B⟩
  rw [F__law_some_side]
  refine runF_rt rfl ?_
  generalize kk + 2 = K at *
  refine exs_ret ?_
  have g : ev (GG cl K) (.comp [2] (.nm 2) (.rng1 (.loc 1)) [] (.call 6 [(.loc 0), (.lst [.k (.int 0), .k (.int 0), .k (.int 1), .k (.int 1), .k (.int 2), (.call 5 [(.loc 0), .k (.int 10)])])])) [some (.val (.ref 0)), some (.val (nD k)), none] m = .ok (.lst (a.map nD)) m' := by
    exact ev_comp_of (ev_rng_of rfl (rng_nat (by omega))) rfl e
  exact ev_blt_of (evs_one g) rfl
end
end Kb
end
section
set_option Elab.async false
set_option linter.all false
set_option maxRecDepth 100000
set_option maxHeartbeats 2000000
/-! LWk7: drawn steps. -/
namespace Kb
open PySem PySem.Spec PyProof.Rows L2 Mp SX NumText
section
variable (cl : List Nat) (kk : Nat) (rest : MH)
abbrev sB1 : Mp.St := .asg (.nm 5) (.tup [(.call 40 [(.loc 0), (.loc 1)]), (.call 40 [(.loc 0), (.loc 1)])])
abbrev sB2 : Mp.St := .app 3 (.call 6 [(.loc 0), (.lst [(.loc 5), (.loc 5), (.loc 5), (.call 6 [(.loc 0), (.bin .add (.own 3) (.lst [(.loc 5)]))])])])
theorem steps_turn {ns : List Int} {k : Nat} {m : MH} (hB : Bag ns rest m) (hk : k ≤ 500) (s2 s4 s5 : Option Sl) (fs : List Stp) (hf : ∀ p ∈ fs, Step k p) (hl : fs.length ≤ 500) :
    ∃ p s5' m', exs (GG cl (kk + 3)) mkxG [sB1, sB2] [some (.val (.ref 0)), some (.val (nD k)), s2, some (.olst (fs.map stD)), s4, s5] m = .nx [some (.val (.ref 0)), some (.val (nD k)), s2, some (.olst ((fs ++ [p]).map stD)), s4, s5'] m' ∧ Step k p ∧ Bag ns rest m' := by
  obtain ⟨a, m1, e1, ha, B1⟩ := some_side_ok cl kk rest hB hk
  obtain ⟨b, m2, e2, hb, B2⟩ := some_side_ok cl kk rest B1 hk
  have hmem : ∀ q ∈ fs ++ [(a, b)], Step k q := fun q hq => by
    rcases List.mem_append.mp hq with hq | hq
    · exact hf q hq
    · rw [List.mem_singleton.mp hq]; exact ⟨ha, hb⟩
  obtain ⟨x, m3, hx, e3, B3⟩ := of_ok cl (kk + 1) rest (xs := (fs ++ [(a, b)]).map stD) B2 (by simp) (by simp; omega)
  obtain ⟨p, hp, rfl⟩ := List.mem_map.mp hx
  obtain ⟨y, m4, hy, e4, B4⟩ := of_ok cl (kk + 1) rest (xs := [stD (a, b), stD (a, b), stD (a, b), stD p]) B3 (by simp) (by simp)
  obtain ⟨r, hr, rfl⟩ : ∃ r, Step k r ∧ y = stD r := by
    simp only [List.mem_cons, List.not_mem_nil, or_false] at hy
    rcases hy with rfl | rfl | rfl | rfl
    · exact ⟨_, ⟨ha, hb⟩, rfl⟩
    · exact ⟨_, ⟨ha, hb⟩, rfl⟩
    · exact ⟨_, ⟨ha, hb⟩, rfl⟩
    · exact ⟨_, hmem p hp, rfl⟩
  have e3 : FN (PP cl) (kk + 3) 6 [.ref 0, .lst ((fs ++ [(a, b)]).map stD)] m2 = .ok (stD p) m3 := e3
  have e4 : FN (PP cl) (kk + 3) 6 [.ref 0, .lst [stD (a, b), stD (a, b), stD (a, b), stD p]] m3 = .ok (stD r) m4 := e4
  generalize kk + 3 = K at *
  refine ⟨r, some (.val (stD (a, b))), m4, ?_, hr, B4⟩
  have l2 : (2 : Nat) ≤ sizeLine := le_line (by decide)
  have l4 : (4 : Nat) ≤ sizeLine := le_line (by decide)
  have l1 : (1 : Nat) ≤ sizeLine := le_line (by decide)
  refine (exs_asg (d := stD (a, b)) (m1 := m2) (ev_tup_of (evs_two (W_call (evs_two rfl rfl) e1) (W_call (evs_two rfl rfl) e2)) l2)).trans ?_
  have ca : binD .add (.lst (fs.map stD)) (.lst [stD (a, b)]) = some (.lst ((fs ++ [(a, b)]).map stD)) := by
    rw [bin_add_lst _ _ (by rw [List.length_map]; exact le_line (by simp; omega)), List.map_append]
    rfl
  refine (exs_app (xs := fs.map stD) (d := stD r) (m1 := m4) rfl ?_ (by rw [List.length_map]; exact lt_line (by omega))).trans ?_
  · refine W_call (evs_two rfl (ev_lst_of (evs_of rfl (evs_of rfl (evs_of rfl (evs_one (W_call (evs_two rfl (ev_bin_of (ev_own_of rfl) (ev_lst_of (evs_one rfl) l1) ca)) e3))))) l4)) e4
  · rw [List.map_append]
    rfl
theorem steps_loop {ns : List Int} {k : Nat} (hk : k ≤ 500) (s2 : Option Sl) : ∀ (xs : List Nat) (m : MH) (s4 s5 : Option Sl) (fs : List Stp), Bag ns rest m → (∀ p ∈ fs, Step k p) → fs.length + xs.length ≤ 500 →
    ∃ (fs' : List Stp) (s4' s5' : Option Sl) (m' : MH), forS (.nm 4) (exs (GG cl (kk + 3)) mkxG [sB1, sB2]) (xs.map nD) [some (.val (.ref 0)), some (.val (nD k)), s2, some (.olst (fs.map stD)), s4, s5] m = .nx [some (.val (.ref 0)), some (.val (nD k)), s2, some (.olst (fs'.map stD)), s4', s5'] m' ∧ (∀ p ∈ fs', Step k p) ∧ fs'.length = fs.length + xs.length ∧ Bag ns rest m'
  | [], m, s4, s5, fs, hB, hf, hl => ⟨fs, s4, s5, m, rfl, hf, rfl, hB⟩
  | x :: xs, m, s4, s5, fs, hB, hf, hl => by
    rw [List.length_cons] at hl
    obtain ⟨p, s5', m1, e1, hp, B1⟩ := steps_turn cl kk rest hB hk s2 (some (.val (nD x))) s5 fs hf (by omega)
    obtain ⟨fs', s4', s5'', m2, e2, h2, l2, B2⟩ := steps_loop hk s2 xs m1 (some (.val (nD x))) s5' (fs ++ [p]) B1 (fun q hq => by
      rcases List.mem_append.mp hq with hq | hq
      · exact hf q hq
      · rw [List.mem_singleton.mp hq]; exact hp) (by rw [List.length_append, List.length_singleton]; omega)
    refine ⟨fs', s4', s5'', m2, ?_, h2, by rw [l2, List.length_append, List.length_singleton, List.length_cons]; omega, B2⟩
    rw [List.map_cons]
    exact (forS_nx (f1 := [some (.val (.ref 0)), some (.val (nD k)), s2, some (.olst (fs.map stD)), some (.val (nD x)), s5]) rfl e1).trans e2
theorem some_steps_ok {ns : List Int} {k most : Nat} {m : MH} (hB : Bag ns rest m) (hk : k ≤ 500) (hm : most ≤ 400) : ∃ (sp : List Stp) (m' : MH), FN (PP cl) (kk + 4) 41 [.ref 0, nD k, nD most] m = .ok (.lst (sp.map stD)) m' ∧ (∀ p ∈ sp, Step k p) ∧ sp.length ≤ most ∧ Bag ns rest m' := by
  obtain ⟨r, m1, e1, a1, b1, B1⟩ := draw_ok cl (kk + 2) rest (many := (most : Int) + 1) hB (by omega) (Int.lt_of_le_of_lt (show (most : Int) + 1 ≤ 401 by omega) (by decide))
  obtain ⟨n, rfl⟩ : ∃ n : Nat, r = n := ⟨r.toNat, by omega⟩
  obtain ⟨fs, s4, s5, m2, e2, h2, l2, B2⟩ := steps_loop cl kk rest hk (some (.val (nD most))) (List.range n) m1 none none [] B1 (fun _ h => nomatch h) (by simp; omega)
  refine ⟨fs, m2, ?_, h2, by rw [l2]; simp; omega, B2⟩
  have e1 : FN (PP cl) (kk + 3) 5 [.ref 0, .int ((most : Int) + 1)] m = .ok (nD n) m1 := e1
  rw [F__law_some_steps]
  refine runF_rt rfl ?_
  generalize kk + 3 = K at *
  have l0 : (0 : Nat) ≤ sizeLine := Nat.zero_le _
  refine (exs_asgO (xs := []) (Nat.lt_add_of_pos_right (n := 3) (k := 3) (by decide)) (ev_lst_of (evs_nil ..) l0)).trans ?_
  refine (exs_for (ev_rng_of (W_call (evs_two rfl (ev_bin_of rfl rfl rfl)) e1) (rng_nat (by omega))) rfl e2).trans ?_
  refine (exs_frz rfl).trans (exs_ret rfl)
end
end Kb
end
section
set_option Elab.async false
set_option linter.all false
set_option maxRecDepth 100000
set_option maxHeartbeats 2000000
/-! LWk8: sides read. -/
namespace Kb
open PySem PySem.Spec PyProof.Rows L2 Mp SX NumText
theorem index_S {s1 s2 : List Nat} {c : Nat} (h : c ∉ s1) (m : MH) : m1D .index (S (s1 ++ c :: s2)) (tx [c]) m = some (nD s1.length) := by
  show (match Builtin.Str.occurrences (S (s1 ++ c :: s2)) (S [c]) 0 (S (s1 ++ c :: s2)).length 1 with | i :: _ => some (Mp.D.int (i : Nat)) | [] => none) = _
  have at0 : ∀ i, StrLaws.At (S (s1 ++ c :: s2)) (S [c]) (S (s1 ++ c :: s2)).length i ↔ (s1 ++ c :: s2)[i]? = some c := fun i => StrLaws.subAt_one (S (s1 ++ c :: s2)) c i
  have hs : (s1 ++ c :: s2)[s1.length]? = some c := by simp
  rcases StrLaws.occ_head (S (s1 ++ c :: s2)) (S [c]) 1 (Nat.le_refl 1) with ⟨h0, hn⟩ | ⟨i, r, h0, hi, hn⟩
  · exact absurd ((at0 _).mpr hs) (hn _)
  · rw [h0]
    have hi := (at0 i).mp hi
    have : i = s1.length := by
      rcases Nat.lt_trichotomy i s1.length with hl | hl | hl
      · rw [List.getElem?_append_left hl] at hi
        exact absurd (List.mem_of_getElem? hi) h
      · exact hl
      · exact absurd ((at0 _).mpr hs) (hn _ hl)
    rw [this]
theorem split_S {s : Nat} {ps : List (List Nat)} (hne : ps ≠ []) (hp : ∀ p ∈ ps, s ∉ p) (hs : s < 256) (hl : (TL.joinL [s] ps).length ≤ 900) (m : MH) : m1D .split (S (TL.joinL [s] ps)) (tx [s]) m = some (.lst (ps.map tx)) := by
  have e0 : m1D .split (S (TL.joinL [s] ps)) (tx [s]) m = if ((S [s]).length == 0) = false ∧ (S (TL.joinL [s] ps)).length + 2 ≤ sizeLine then some (Mp.D.lst ((Txt.split (S (TL.joinL [s] ps)) (S [s])).map .str)) else none := rfl
  rw [e0, if_pos ⟨rfl, by rw [S_len]; exact le_line (by omega)⟩]
  have hk : (S [s]).cps.all (· < 256) = true := by
    show (#[s]).all (· < 256) = true
    simp [hs]
  have e : (Txt.split (S (TL.joinL [s] ps)) (S [s])).map TL.tl = (ps.map S).map TL.tl := by
    rw [TL.split_spl _ _ (by show [s] ≠ []; simp) (TL.kind_ok hk)]
    show TL.spl [s] 0 [] (TL.joinL [s] ps) = _
    rw [TL.spl_join hne hp, List.map_map]
    have e2 : (TL.tl ∘ S) = id := rfl
    rw [e2, List.map_id]
  rw [TL.map_tl_inj e, List.map_map]
  rfl
theorem cut_last {l : List Nat} (h : l.length ≤ 1000) : slD (tx l) none (some (-1)) = some (tx l.dropLast) := by
  have e : slD (tx l) none (some (-1)) = if (S l).length ≤ sizeLine then some (.str (cutS (S l) none (some (-1)))) else none := rfl
  rw [e, if_pos (by rw [S_len]; exact le_line h)]
  congr 2
  apply TL.ext_tl
  show ((l.drop _).take _) = l.dropLast
  rw [HT.sIx_none, List.drop_zero, Nat.sub_zero, S_len, List.dropLast_eq_take]
  congr 1
  show (if (-1 : Int) < 0 then ((-1 : Int) + (l.length : Int)).toNat else min (-1 : Int).toNat l.length) = _
  rw [if_pos (by decide)]
  omega
theorem idx_last {l : List Nat} {c : Nat} (h : (l ++ [c]).length ≤ 1000) (m : MH) : idxD (tx (l ++ [c])) (.int (-1)) m = some (tx [c]) := by
  show (if (S (l ++ [c])).length ≤ sizeLine then ((atI (S (l ++ [c])).cps.toList (-1)).map fun c => Mp.D.str ⟨#[c]⟩) else none) = _
  rw [if_pos (by rw [S_len]; exact le_line h)]
  show ((atI (l ++ [c]) (-1)).map fun c => Mp.D.str ⟨#[c]⟩) = _
  unfold atI ixN
  rw [if_neg (by decide), if_pos (by simp; omega)]
  have e : ((-1 : Int) + ((l ++ [c]).length : Nat)).toNat = l.length := by rw [List.length_append, List.length_singleton]; omega
  rw [e]
  simp
/-! ### texts of stocks have every letter once -/
theorem ddGo_nd : ∀ (l acc : List Nat), acc.Nodup → (ddGo acc l).Nodup
  | [], _, h => h
  | c :: r, acc, h => by
    unfold ddGo
    refine ddGo_nd r _ ?_
    split
    · exact h
    · rename_i hc
      rw [List.nodup_append]
      exact ⟨h, by simp, fun a ha b hb => by rw [List.mem_singleton.mp hb]; exact fun e => hc (e ▸ ha)⟩
theorem insN_nd {x : Nat} : ∀ {l : List Nat}, x ∉ l → l.Nodup → (insN x l).Nodup
  | [], _, _ => by simp [insN]
  | y :: ys, hx, h => by
    unfold insN
    rw [List.nodup_cons] at h
    split
    · rw [List.nodup_cons]
      refine ⟨fun hm => ?_, insN_nd (fun h2 => hx (List.mem_cons_of_mem _ h2)) h.2⟩
      rcases insN_mem hm with e | e
      · exact hx (e ▸ List.mem_cons_self ..)
      · exact h.1 e
    · exact List.nodup_cons.mpr ⟨hx, List.nodup_cons.mpr h⟩
theorem srtN_nd : ∀ {l : List Nat}, l.Nodup → (srtN l).Nodup
  | [], _ => List.nodup_nil
  | y :: ys, h => by
    rw [List.nodup_cons] at h
    show (insN y (srtN ys)).Nodup
    exact insN_nd (fun hm => h.1 (srtN_mem hm)) (srtN_nd h.2)
theorem stk_nd {st : List Nat} (h : stkB st = true) : st.Nodup := by
  unfold stkB at h
  simp only [Bool.and_eq_true, decide_eq_true_eq] at h
  rw [h.2.2]
  exact srtN_nd (ddGo_nd _ _ List.nodup_nil)
theorem not_before {s1 s2 : List Nat} {c : Nat} (h : (s1 ++ c :: s2).Nodup) : c ∉ s1 := fun hm => by
  rw [List.nodup_append] at h
  exact h.2.2 c hm c (List.mem_cons_self ..) rfl
section
variable (cl : List Nat) (kk : Nat)
abbrev rB1 : Mp.St := .asg (.nm 4) (.ite (.cmp .eq (.blt .len [(.loc 3)]) (.k (.int 1))) (.k (.int 1)) (.call 13 [(.sl (.loc 3) (.k .non) (.prt (.neg (.k (.int 1)))))]))
abbrev rC : E := .orv (.cmp .eq (.loc 3) (.k (.str ""))) (.orv (.cmp .nmem (.idx (.loc 3) (.neg (.k (.int 1)))) (.loc 0)) (.orv (.isN (.loc 4)) (.notv (.call 31 [(.loc 4), .k (.int 1), (.cst 5)]))))
abbrev rB2 : Mp.St := .ife rC [.ret (.k .non)] []
abbrev rB3 : Mp.St := .setO 2 (.m1 .index (.loc 0) (.idx (.loc 3) (.neg (.k (.int 1))))) (.loc 4)
theorem nmem_S (a : List Nat) (c : Nat) : cmpD .nmem (tx [c]) (tx a) = some (.bl (!decide (c ∈ a))) := by
  have e : cmpD .nmem (tx [c]) (tx a) = (memD (tx [c]) (tx a)).map fun b => .bl (!b) := rfl
  rw [e, mem_S]
  rfl
theorem part_many {c n : Nat} (h1 : 1 ≤ n) (h9 : n ≤ 9) (s0 s1 s2 s4 : Option Sl) (m : MH) : ev (GG cl (kk + 2)) (.ite (.cmp .eq (.blt .len [(.loc 3)]) (.k (.int 1))) (.k (.int 1)) (.call 13 [(.sl (.loc 3) (.k .non) (.prt (.neg (.k (.int 1)))))])) [s0, s1, s2, some (.val (tx (partT c n))), s4] m = .ok (nD n) m := by
  have hl := partT_len (c := c) h9
  have ln := len_S (l := partT c n) (by omega) m
  by_cases hn : 1 < n
  · have e : partT c n = TL.numL n ++ [c] := by unfold partT; rw [if_pos hn]
    rw [e] at ln hl ⊢
    rw [List.length_append, numL_one h9, List.length_singleton] at ln
    have hl2 : (TL.numL n).length ≤ 900 := by rw [numL_one h9]; decide
    have ct := cut_last (l := TL.numL n ++ [c]) (by omega)
    rw [List.dropLast_concat] at ct
    have nb := number_in_ok cl (kk + 1) hl2 m
    rw [num_back] at nb
    have nb : FN (PP cl) (kk + 2) 13 [tx (TL.numL n)] m = .ok (nD n) m := nb
    generalize kk + 2 = K at *
    refine (ev_ite_f (x := .bl false) (m1 := m) ?_ rfl).trans ?_
    · refine ev_cmp_of (ev_blt_of (evs_one rfl) ln) rfl ?_
      rfl
    · refine W_call (evs_one (x := tx (TL.numL n)) (m1 := m) ?_) nb
      simp only [ev_sl, ev_prt, ev_neg, ev_k, R.ok_bind, ev_loc_succ, ev_loc_zero]
      show optR (slD (tx (TL.numL n ++ [c])) none (some (-1))) m = _
      rw [ct]
      rfl
  · have h0 : n = 1 := by omega
    subst h0
    have e : partT c 1 = [c] := rfl
    rw [e] at ln ⊢
    refine (ev_ite_t (x := .bl true) (m1 := m) ?_ rfl).trans rfl
    exact ev_cmp_of (ev_blt_of (evs_one rfl) ln) rfl rfl
theorem part_last {c n : Nat} (h9 : n ≤ 9) (s0 s1 s2 s4 : Option Sl) (m : MH) : ev (GG cl (kk + 2)) (.idx (.loc 3) (.neg (.k (.int 1)))) [s0, s1, s2, some (.val (tx (partT c n))), s4] m = .ok (tx [c]) m := by
  have hl := partT_len (c := c) h9
  exact ev_idx_of rfl rfl (idx_last (by unfold partT at hl; omega) m)
theorem side_turn {s1 s2 : List Nat} {c n : Nat} (hc : c ∉ s1) (h1 : 1 ≤ n) (h9 : n ≤ 9) (xs : List Mp.D) (hx : s1.length < xs.length) (s1' s4 : Option Sl) (m : MH) :
    exs (GG cl (kk + 2)) mkxG [rB1, rB2, rB3] [some (.val (tx (s1 ++ c :: s2))), s1', some (.olst xs), some (.val (tx (partT c n))), s4] m = .nx [some (.val (tx (s1 ++ c :: s2))), s1', some (.olst (xs.set s1.length (nD n))), some (.val (tx (partT c n))), some (.val (nD n))] m := by
  refine (exs_asg (part_many cl kk h1 h9 _ _ _ _ m)).trans ?_
  have lst := part_last cl kk (c := c) h9 (some (.val (tx (s1 ++ c :: s2)))) s1' (some (.olst xs)) (some (.val (nD n))) m
  have wi := is_within_int cl kk (n : Int) 1 9 m
  rw [decide_eq_true (by omega)] at wi
  have wi : FN (PP cl) (kk + 2) 31 [nD n, .int 1, .int 9] m = .ok (.bl true) m := wi
  have ne := eq_S (partT c n) []
  rw [decide_eq_false (by unfold partT; simp)] at ne
  have nm := nmem_S (s1 ++ c :: s2) c
  rw [decide_eq_true (by simp)] at nm
  have ix := index_S (s2 := s2) hc m
  generalize kk + 2 = K at *
  refine (exs_if0 (m1 := m) (tst_bl ?_)).trans ?_
  · refine (ev_or_f (x := .bl false) (m1 := m) (ev_cmp_of rfl rfl (e_S ▸ ne)) rfl).trans ?_
    refine (ev_or_f (x := .bl false) (m1 := m) (ev_cmp_of lst rfl nm) rfl).trans ?_
    refine (ev_or_f (x := .bl false) (m1 := m) rfl rfl).trans ?_
    exact ev_not_of (W_call (evs_three rfl rfl rfl) wi) rfl
  · refine (exs_setO (xs := xs) (kv := (s1.length : Nat)) (j := s1.length) (m2 := m) rfl rfl (ev_m1_of rfl lst ix) ?_).trans rfl
    unfold ixN
    rw [if_pos (by omega), if_pos (by omega)]
    simp
theorem partsT_cons (c n : Nat) (s a : List Nat) : partsT (c :: s) (n :: a) = if 0 < n then partT c n :: partsT s a else partsT s a := by
  unfold partsT
  rw [List.zip_cons_cons, List.filter_cons]
  by_cases h : 0 < n
  · rw [if_pos (by simpa using h), if_pos h]; rfl
  · rw [if_neg (by simpa using h), if_neg h]
theorem side_loop {s1' : Option Sl} (m : MH) : ∀ (s2 a2 s1 a1 : List Nat) (s3 s4 : Option Sl), (s1 ++ s2).Nodup → a1.length = s1.length → a2.length = s2.length → (∀ n ∈ a2, n ≤ 9) →
    ∃ s3' s4' : Option Sl, forS (.nm 3) (exs (GG cl (kk + 2)) mkxG [rB1, rB2, rB3]) ((partsT s2 a2).map tx) [some (.val (tx (s1 ++ s2))), s1', some (.olst (a1.map nD ++ List.replicate a2.length (nD 0))), s3, s4] m = .nx [some (.val (tx (s1 ++ s2))), s1', some (.olst ((a1 ++ a2).map nD)), s3', s4'] m
  | [], [], s1, a1, s3, s4, _, _, _, _ => ⟨s3, s4, by simp [partsT, forS]⟩
  | c :: s2, n :: a2, s1, a1, s3, s4, hn, hl1, hl2, h9 => by
    have hn2 : ((s1 ++ [c]) ++ s2).Nodup := by rw [List.append_assoc]; exact hn
    have ee : (s1 ++ [c]) ++ s2 = s1 ++ c :: s2 := by rw [List.append_assoc]; rfl
    have e3 : a1 ++ [n] ++ a2 = a1 ++ n :: a2 := by rw [List.append_assoc]; rfl
    have hl2' : a2.length = s2.length := by simpa using hl2
    have h9' : ∀ x ∈ a2, x ≤ 9 := fun x hx => h9 x (List.mem_cons_of_mem _ hx)
    have hl1' : (a1 ++ [n]).length = (s1 ++ [c]).length := by simp [hl1]
    rw [partsT_cons]
    by_cases h0 : 0 < n
    · rw [if_pos h0, List.map_cons]
      obtain ⟨s3', s4', e⟩ := side_loop m s2 a2 (s1 ++ [c]) (a1 ++ [n]) (some (.val (tx (partT c n)))) (some (.val (nD n))) hn2 hl1' hl2' h9'
      rw [ee, e3] at e
      refine ⟨s3', s4', ?_⟩
      refine (forS_nx (f1 := [some (.val (tx (s1 ++ c :: s2))), s1', some (.olst (a1.map nD ++ List.replicate (n :: a2).length (nD 0))), some (.val (tx (partT c n))), s4]) rfl (side_turn cl kk (s2 := s2) (not_before hn) (by omega) (h9 n (List.mem_cons_self ..)) _ (by simp; omega) s1' s4 m)).trans ?_
      have e4 : (a1.map nD ++ List.replicate (n :: a2).length (nD 0)).set s1.length (nD n) = (a1 ++ [n]).map nD ++ List.replicate a2.length (nD 0) := by
        rw [List.length_cons, List.replicate_succ, ← hl1, List.set_append_right _ _ (by simp)]
        simp
      rw [e4]
      exact e
    · rw [if_neg h0]
      have h0 : n = 0 := by omega
      subst h0
      obtain ⟨s3', s4', e⟩ := side_loop m s2 a2 (s1 ++ [c]) (a1 ++ [0]) s3 s4 hn2 hl1' hl2' h9'
      rw [ee, e3] at e
      refine ⟨s3', s4', ?_⟩
      have e4 : a1.map nD ++ List.replicate ((0 : Nat) :: a2).length (nD 0) = (a1 ++ [0]).map nD ++ List.replicate a2.length (nD 0) := by
        rw [List.length_cons, List.replicate_succ]
        simp
      rw [e4]
      exact e
  | [], _ :: _, _, _, _, _, _, _, h, _ => by simp at h
  | _ :: _, [], _, _, _, _, _, _, h, _ => by simp at h
end
end Kb
end
section
set_option Elab.async false
set_option linter.all false
set_option maxRecDepth 100000
set_option maxHeartbeats 2000000
/-! LWk9: sides and steps read. -/
namespace Kb
open PySem PySem.Spec PyProof.Rows L2 Mp SX NumText
theorem partT_sg {c n : Nat} (hc : 97 ≤ c) : ∀ x ∈ partT c n, 48 ≤ x ∧ (x ≤ 57 ∨ x = c) := fun x hx => by
  unfold partT at hx
  rcases List.mem_append.mp hx with hx | hx
  · split at hx
    · have := TL.numL_digits n x hx; omega
    · cases hx
  · rw [List.mem_singleton.mp hx]; omega
theorem partsT_mem {st a : List Nat} {p : List Nat} (h : p ∈ partsT st a) : ∃ c n, c ∈ st ∧ n ∈ a ∧ p = partT c n := by
  unfold partsT at h
  obtain ⟨q, hq, rfl⟩ := List.mem_map.mp h
  have hm := List.of_mem_zip (List.mem_filter.mp hq).1
  exact ⟨q.1, q.2, hm.1, hm.2, rfl⟩
theorem join_mem (s : Nat) : ∀ {ps : List (List Nat)} {x : Nat}, x ∈ TL.joinL [s] ps → x = s ∨ ∃ p ∈ ps, x ∈ p
  | [], x, h => by simp [TL.joinL] at h
  | [p], x, h => .inr ⟨p, List.mem_singleton.mpr rfl, h⟩
  | p :: q :: r, x, h => by
    have e : TL.joinL [s] (p :: q :: r) = p ++ ([s] ++ TL.joinL [s] (q :: r)) := by simp [TL.joinL]
    rw [e, List.mem_append, List.mem_append, List.mem_singleton] at h
    rcases h with h | h | h
    · exact .inr ⟨p, List.mem_cons_self .., h⟩
    · exact .inl h
    · rcases join_mem s h with h | ⟨z, hz, h⟩
      · exact .inl h
      · exact .inr ⟨z, List.mem_cons_of_mem _ hz, h⟩
theorem sideT_sg {st a : List Nat} (h : ∀ c ∈ st, 97 ≤ c) {x : Nat} (hx : x ∈ sideT st a) : x = 43 ∨ (48 ≤ x ∧ x ≤ 57) ∨ x ∈ st := by
  unfold sideT at hx
  split at hx
  · rw [List.mem_singleton.mp hx]; exact .inr (.inl (by decide))
  · rcases join_mem 43 hx with e | ⟨p, hp, e⟩
    · exact .inl e
    · obtain ⟨c, n, hc, _, rfl⟩ := partsT_mem hp
      have := partT_sg (h c hc) x e
      rcases this.2 with h2 | h2
      · exact .inr (.inl ⟨this.1, h2⟩)
      · exact .inr (.inr (h2 ▸ hc))
theorem join_ne {st a : List Nat} (h : ∀ c ∈ st, 97 ≤ c) (hp : partsT st a ≠ []) : TL.joinL [43] (partsT st a) ≠ [48] := by
  cases e : partsT st a with
  | nil => exact absurd e hp
  | cons p r =>
    obtain ⟨c, n, hc, _, rfl⟩ := partsT_mem (p := p) (by rw [e]; exact List.mem_cons_self ..)
    have hm : c ∈ partT c n := by unfold partT; simp
    have h97 := h c hc
    intro h2
    cases r with
    | nil =>
      have h2 : partT c n = [48] := h2
      rw [h2, List.mem_singleton] at hm
      omega
    | cons q r =>
      have e2 : TL.joinL [43] (partT c n :: q :: r) = partT c n ++ ([43] ++ TL.joinL [43] (q :: r)) := by simp [TL.joinL]
      rw [e2] at h2
      have := congrArg (List.contains · c) h2
      have hm2 : c ∈ ([48] : List Nat) := h2 ▸ List.mem_append_left _ hm
      rw [List.mem_singleton] at hm2
      omega
theorem stk_97 {st : List Nat} (h : stkB st = true) : ∀ c ∈ st, 97 ≤ c ∧ c ≤ 122 := fun c hc => let_as (stk_let h c hc)
theorem flat_rep (x : Mp.D) : ∀ k : Nat, (List.replicate k [x]).flatten = List.replicate k x
  | 0 => rfl
  | k + 1 => by rw [List.replicate_succ, List.flatten_cons, flat_rep x k]; rfl
theorem mul_lst {xs : List Mp.D} {i : Int} (h0 : 0 ≤ i) (h1 : i ≤ 1000) (h2 : xs.length * i.toNat ≤ sizeLine) : binD .mul (.lst xs) (.int i) = some (.lst (List.replicate i.toNat xs).flatten) := by
  unfold binD mulD
  dsimp only
  rw [if_pos ⟨by omega, by omega, h2⟩]
theorem zeros (k : Nat) (hk : k ≤ 500) : binD .mul (.lst [nD 0]) (nD k) = some (.lst (List.replicate k (nD 0))) := by
  rw [mul_lst (by omega) (by omega) (le_line (by simp; omega)), Int.toNat_natCast, flat_rep]
section
variable (cl : List Nat) (kk : Nat)
theorem side_in_ok {st a : List Nat} (hs : stkB st = true) (ha : Side st.length a) (m : MH) : FN (PP cl) (kk + 3) 37 [tx st, tx (sideT st a)] m = .ok (sdD a) m := by
  have h4 := stk_len hs
  have h97 := stk_97 hs
  have stx := side_text_ok cl (kk + 1) (stk_as hs) (by omega) ha (by omega) (x := .lst (a.map nD)) rfl m
  have stx : FN (PP cl) (kk + 2) 36 [tx st, .lst (a.map nD)] m = .ok (tx (sideT st a)) m := stx
  have ln := len_S (l := st) (by omega) m
  have hl := sideT_len ha h4.2
  have q0 : ([48] : List Nat) = [48] := rfl
  have n0 := ne_S (sideT st a) [48]
  have eqt := eq_S (sideT st a) (sideT st a)
  rw [decide_eq_true rfl] at eqt
  obtain ⟨s3, s4, lp⟩ := side_loop cl kk (s1' := some (.val (tx (sideT st a)))) m st a [] [] none none (stk_nd hs) rfl ha.1 ha.2
  have it : ev (GG cl (kk + 2)) (.ite (.cmp .ne (.loc 1) (.k (.str "0"))) (.m1 .split (.loc 1) (.k (.str "+"))) (.lst [])) [some (.val (tx st)), some (.val (tx (sideT st a))), some (.olst (List.replicate st.length (nD 0))), none, none] m = .ok (.lst ((partsT st a).map tx)) m := by
    generalize kk + 2 = K at *
    by_cases hp : partsT st a = []
    · have e : sideT st a = [48] := by unfold sideT; rw [if_pos hp]
      rw [decide_eq_true e] at n0
      refine (ev_ite_f (x := .bl false) (m1 := m) (ev_cmp_of rfl rfl (z_S ▸ n0)) rfl).trans ?_
      rw [hp]
      exact ev_lst_of (evs_nil ..) (Nat.zero_le _)
    · have e : sideT st a = TL.joinL [43] (partsT st a) := by unfold sideT; rw [if_neg hp]
      rw [decide_eq_false (by rw [e]; exact join_ne (fun c hc => (h97 c hc).1) hp)] at n0
      refine (ev_ite_t (x := .bl true) (m1 := m) (ev_cmp_of rfl rfl (z_S ▸ n0)) rfl).trans ?_
      have sp := split_S (s := 43) hp (fun p h => by
        obtain ⟨c, n, hc, _, rfl⟩ := partsT_mem h
        intro hm
        have := partT_sg (h97 c hc).1 43 hm
        omega) (by decide) (by rw [← e]; omega) m
      rw [← e] at sp
      exact ev_m1_of rfl rfl (pl_S ▸ sp)
  rw [F_side_in]
  refine runF_rt rfl ?_
  generalize kk + 2 = K at *
  refine (exs_asgO (xs := List.replicate st.length (nD 0)) (Nat.lt_add_of_pos_right (n := 2) (k := 3) (by decide)) (ev_bin_of (ev_lst_of (evs_one rfl) (le_line (by decide))) (ev_blt_of (evs_one rfl) ln) (zeros _ (by omega)))).trans ?_
  rw [List.map_nil, List.nil_append, ha.1] at lp
  refine (exs_for it rfl lp).trans ?_
  refine (exs_frz rfl).trans ?_
  refine exs_ret ?_
  refine (ev_ite_t (x := .bl true) (m1 := m) (ev_cmp_of (W_call (evs_two rfl rfl) stx) rfl eqt) rfl).trans ?_
  exact ev_blt_of (evs_one rfl) rfl
end
end Kb
end
section
set_option Elab.async false
set_option linter.all false
set_option maxRecDepth 100000
set_option maxHeartbeats 2000000
/-! LWk10: steps and works read. -/
namespace Kb
open PySem PySem.Spec PyProof.Rows L2 Mp SX NumText
theorem sideT_no {st a : List Nat} (hs : stkB st = true) {x : Nat} (h1 : x ≠ 43) (h2 : x < 48 ∨ (57 < x ∧ x < 97)) : x ∉ sideT st a := fun hm => by
  rcases sideT_sg (fun c hc => (stk_97 hs c hc).1) hm with e | e | e
  · exact h1 e
  · omega
  · have := stk_97 hs x e; omega
theorem stepT_no {st : List Nat} {p : Stp} (hs : stkB st = true) : 44 ∉ stepT st p := fun hm => by
  unfold stepT at hm
  rw [List.mem_append, List.mem_append, List.mem_singleton] at hm
  rcases hm with (hm | hm) | hm
  · exact sideT_no hs (by decide) (by decide) hm
  · exact absurd hm (by decide)
  · exact sideT_no hs (by decide) (by decide) hm
theorem join_nn {st : List Nat} {sp : List Stp} (h : sp ≠ []) : TL.joinL [44] (sp.map (stepT st)) ≠ [] := by
  cases sp with
  | nil => exact absurd rfl h
  | cons p r =>
    have hm : (62 : Nat) ∈ stepT st p := by unfold stepT; simp
    intro e
    cases r with
    | nil =>
      have e : stepT st p = [] := e
      rw [e] at hm
      cases hm
    | cons q r =>
      have e2 : TL.joinL [44] ((p :: q :: r).map (stepT st)) = stepT st p ++ ([44] ++ TL.joinL [44] ((q :: r).map (stepT st))) := by simp [TL.joinL]
      rw [e2] at e
      rw [(List.append_eq_nil_iff.mp e).1] at hm
      cases hm
section
variable (cl : List Nat) (kk : Nat)
theorem qn_sd (a : List Nat) : Qn 1 (sdD a) := by
  unfold Qn
  intro y hy
  obtain ⟨n, _, rfl⟩ := List.mem_map.mp hy
  unfold Qn
  trivial
theorem step_in_ok {st : List Nat} {p : Stp} (hs : stkB st = true) (hp : Step st.length p) (m : MH) : FN (PP cl) (kk + 4) 38 [tx st, tx (stepT st p)] m = .ok (stD p) m := by
  have h4 := stk_len hs
  have e1 := side_in_ok cl kk hs hp.1 m
  have e2 := side_in_ok cl kk hs hp.2 m
  have hl := stepT_len h4.2 hp
  have pt := part_S (l := stepT st p) (by omega) 62 m
  have pe : TL.par [62] [] (stepT st p) = some (sideT st p.1, sideT st p.2) := by
    have := TL.par_part1 (s := 62) (S := []) (acc := []) (p := sideT st p.1) (rest := sideT st p.2) (sideT_no hs (by decide) (by decide))
    rw [List.nil_append] at this
    unfold stepT
    rw [List.append_assoc]
    exact this
  rw [pe] at pt
  have nm := mem_tup_no (k := 1) (by decide) (x := .non) (ys := [sdD p.1, sdD p.2]) (by unfold Qn; trivial) (fun y hy => by
    simp only [List.mem_cons, List.not_mem_nil, or_false] at hy
    rcases hy with rfl | rfl <;> exact qn_sd _) (by simp)
  rw [F_step_in]
  refine runF_rt rfl ?_
  generalize kk + 3 = K at *
  have l2 : (2 : Nat) ≤ sizeLine := le_line (by decide)
  refine (exs_asgT (f1 := [some (.val (tx st)), some (.val (tx (stepT st p))), none, some (.val (tx (sideT st p.1))), some (.val (tx [62])), some (.val (tx (sideT st p.2)))]) (ev_m1_of rfl rfl (gt_S ▸ pt)) rfl).trans ?_
  refine (exs_asg (d := stD p) (m1 := m) (ev_tup_of (evs_two (W_call (evs_two rfl rfl) e1) (W_call (evs_two rfl rfl) e2)) l2)).trans ?_
  exact exs_ret ((ev_ite_f (x := .bl false) (m1 := m) (ev_cmp_of rfl rfl nm) rfl).trans rfl)
theorem read_ok {st : List Nat} {sp : List Stp} (hw : Wk st sp) (m : MH) : FN (PP cl) (kk + 6) 1001 [.cls 8, tx (workT st sp)] m = .ok (wkD st sp) m := by
  have h4 := stk_len hw.stk
  have h97 := stk_97 hw.stk
  have hl := steps_len hw
  have pt := part_S (l := workT st sp) (by unfold workT; simp; omega) 58 m
  have pe : TL.par [58] [] (workT st sp) = some (st, TL.joinL [44] (sp.map (stepT st))) := by
    have := TL.par_part1 (s := 58) (S := []) (acc := []) (p := st) (rest := TL.joinL [44] (sp.map (stepT st))) (fun h => by have := h97 58 h; omega)
    rw [List.nil_append] at this
    unfold workT
    rw [List.append_assoc]
    exact this
  rw [pe] at pt
  have as := are_stocks_ok cl (kk + 4) (l := st) (by omega) (stk_as hw.stk).sg m
  rw [hw.stk] at as
  have as : FN (PP cl) (kk + 5) 32 [tx st] m = .ok (.bl true) m := as
  have ini := init_ok cl kk hw (x := .lst (sp.map stD)) rfl (fun m => rfl) m
  have st1 : ∀ p ∈ sp, FN (PP cl) (kk + 5) 38 [tx st, tx (stepT st p)] m = .ok (stD p) m := fun p hp => step_in_ok cl (kk + 1) hw.stk (hw.stp p hp) m
  have n0 := ne_S (TL.joinL [44] (sp.map (stepT st))) []
  have sg := eq_S [58] []
  have ln : bltD .len [.lst (sp.map stD)] m = some (nD sp.length) := by
    rw [len_lst, List.length_map]
  have nm := mem_lst_no (k := 2) (by decide) (x := .non) (ys := sp.map stD) (by unfold Qn; trivial) (fun y hy => by
    obtain ⟨p, _, rfl⟩ := List.mem_map.mp hy
    exact qn_step p) (by simp)
  rw [F_Work_read]
  refine runF_rt rfl ?_
  generalize kk + 5 = K at *
  refine (exs_asgT (f1 := [some (.val (.cls 8)), some (.val (tx (workT st sp))), none, some (.val (tx st)), some (.val (tx [58])), some (.val (tx (TL.joinL [44] (sp.map (stepT st))))), none]) (ev_m1_of rfl rfl (co_S ▸ pt)) rfl).trans ?_
  refine (exs_if0 (m1 := m) (tst_bl (b := false) ((ev_or_f (x := .bl false) (m1 := m) (ev_not_of (W_call (evs_one rfl) as) rfl) rfl).trans (ev_cmp_of rfl rfl (e_S ▸ sg))))).trans ?_
  have it : ev (GG cl K) (.ite (.cmp .ne (.loc 5) (.k (.str ""))) (.comp [6] (.nm 6) (.m1 .split (.loc 5) (.k (.str ","))) [] (.call 38 [(.loc 3), (.loc 6)])) (.lst [])) [some (.val (.cls 8)), some (.val (tx (workT st sp))), none, some (.val (tx st)), some (.val (tx [58])), some (.val (tx (TL.joinL [44] (sp.map (stepT st))))), none] m = .ok (.lst (sp.map stD)) m := by
    by_cases hp : sp = []
    · subst hp
      rw [decide_eq_true (by rfl)] at n0
      refine (ev_ite_f (x := .bl false) (m1 := m) (ev_cmp_of rfl rfl (e_S ▸ n0)) rfl).trans ?_
      exact ev_lst_of (evs_nil ..) (Nat.zero_le _)
    · rw [decide_eq_false (join_nn hp)] at n0
      refine (ev_ite_t (x := .bl true) (m1 := m) (ev_cmp_of rfl rfl (e_S ▸ n0)) rfl).trans ?_
      have sp1 := split_S (s := 44) (ps := sp.map (stepT st)) (fun e => hp (List.map_eq_nil_iff.mp e)) (fun p h => by
        obtain ⟨q, _, rfl⟩ := List.mem_map.mp h
        exact stepT_no hw.stk) (by decide) (by omega) m
      rw [List.map_map] at sp1
      have sp2 : m1D .split (S (TL.joinL [44] (sp.map (stepT st)))) (.str (Str.ofString ",")) m = some (.lst (sp.map (tx ∘ stepT st))) := by rw [cm_S]; exact sp1
      have cg := compGo_map (vs := [6]) (tg := .nm 6) (el := ev (GG cl K) (.call 38 [(.loc 3), (.loc 6)])) (fr := [some (.val (.cls 8)), some (.val (tx (workT st sp))), none, some (.val (tx st)), some (.val (tx [58])), some (.val (tx (TL.joinL [44] (sp.map (stepT st))))), none]) (m := m) (tx ∘ stepT st) stD sp [] (fun p hp => ⟨[some (.val (.cls 8)), some (.val (tx (workT st sp))), none, some (.val (tx st)), some (.val (tx [58])), some (.val (tx (TL.joinL [44] (sp.map (stepT st))))), some (.val (tx (stepT st p)))], rfl, W_call (evs_two rfl rfl) (st1 p hp)⟩) (by simp; exact le_line (by have := hw.len; omega))
      exact ev_comp_of (ev_m1_of rfl rfl sp2) rfl cg
  refine (exs_asg it).trans ?_
  have gt : cmpD .gt (nD sp.length) (.int 4) = some (.bl false) := by
    show some (Mp.D.bl (decide ((4 : Int) < (sp.length : Int)))) = _
    rw [decide_eq_false (by have := hw.len; omega)]
  refine (exs_if0 (m1 := m) (tst_bl (b := false) ((ev_or_f (x := .bl false) (m1 := m) (ev_cmp_of rfl rfl nm) rfl).trans (ev_cmp_of (ev_blt_of (evs_one rfl) ln) rfl gt)))).trans ?_
  exact exs_ret (W_callL rfl (evs_two rfl rfl) ini)
end
end Kb
end
section
set_option Elab.async false
set_option linter.all false
set_option maxRecDepth 100000
set_option maxHeartbeats 2000000
/-! LK06: the law k06. -/
namespace Kb
open PySem PySem.Spec PyProof.Rows L2 Mp SX NumText
abbrev Y1 : Mp.St := .asg (.nm 3) (.call 39 [(.loc 1), .k (.int 4)])
abbrev Y2 : Mp.St := .asg (.nm 4) (.call 41 [(.loc 1), (.blt .len [(.loc 3)]), .k (.int 4)])
abbrev Y3 : Mp.St := .asg (.tup [.nm 6, .nm 7]) (.tup [(.call 1000 [(.loc 3), (.loc 4)]), (.call 43 [(.loc 3), (.loc 4)])])
abbrev Y4 : Mp.St := .ife (.orv (.cmp .ne (.mth 113 (.loc 6) []) (.loc 7)) (.orv (.notv (.call 44 [(.call 1001 [.k (.cls 8), (.loc 7)]), (.loc 3), (.loc 4)])) (.eqI true 102 (.callK 1001 507 [.k (.cls 8)] [(.loc 7)]) (.loc 6)))) [.ret (.k (.bl false))] []
abbrev Y5 : Mp.St := .asg (.nm 5) (.call 1000 [(.loc 3), (.call 41 [(.loc 1), (.blt .len [(.loc 3)]), .k (.int 2)])])
abbrev Y6 : Mp.St := .ife (.cmp .ne (.eqI false 102 (.loc 5) (.loc 6)) (.cmp .eq (.mth 113 (.loc 5) []) (.loc 7))) [.ret (.k (.bl false))] []
abbrev Y0 : Mp.St := .asg (.nm 1) (.call 4 [(.loc 0)])
abbrev YF : Mp.St := .for_ (.nm 2) (.rng1 (.k (.int 10))) [Y1, Y2, Y3, Y4, Y5, Y6]
abbrev YR : Mp.St := .ret (.call 44 [(.call 1001 [.k (.cls 8), .k (.str "ab:2a+9b>0,0>b")]), .k (.str "ab"), (.lst [(.tup [(.tup [.k (.int 2), .k (.int 9)]), (.tup [.k (.int 0), .k (.int 0)])]), (.tup [(.tup [.k (.int 0), .k (.int 0)]), (.tup [.k (.int 0), .k (.int 1)])])])])
theorem law6_is : m_law_k06 = [Y0, YF, YR] := rfl
section
variable (cl : List Nat) (rest : MH)
theorem workT_inj {st : List Nat} {sp sp' : List Stp} (h : Wk st sp) (h' : Wk st sp') (e : workT st sp = workT st sp') : sp = sp' := by
  have e1 := read_ok [] 0 h []
  have e2 := read_ok [] 0 h' []
  rw [e, e2] at e1
  injection e1 with e1 _
  injection e1 with _ _ e1
  injection e1 with _ e1
  injection e1 with e1 _
  injection e1 with e1
  exact (steps_inj.mp e1).symm
theorem ne_bl (a b : Bool) : cmpD .ne (.bl a) (.bl b) = some (.bl (!decide (a = b))) := rfl
theorem bnd7 (a z : Mp.D) : (PP cl).bnd 507 [a] [z] = some [a, z] := rfl
theorem turn6 {ns : List Int} (s0 s2 s3 s4 s5 s6 s7 : Option Sl) {m : MH} (hB : Bag ns rest m) : ∃ a3 a4 a5 a6 a7 m', exs (GG cl 60) mkxG [Y1, Y2, Y3, Y4, Y5, Y6] [s0, some (.val (.ref 0)), s2, s3, s4, s5, s6, s7] m = .nx [s0, some (.val (.ref 0)), s2, a3, a4, a5, a6, a7] m' ∧ Bag ns rest m' := by
  obtain ⟨st, m1, e1, hs, hl, B1⟩ := some_stocks_ok cl 57 rest (most := 4) hB (by decide) (by decide)
  have h4 := stk_len hs
  obtain ⟨sp, m2, e2, hp, hpl, B2⟩ := some_steps_ok cl 56 rest (k := st.length) (most := 4) B1 (by omega) (by omega)
  obtain ⟨sp', m3, e3, hp', hpl', B3⟩ := some_steps_ok cl 56 rest (k := st.length) (most := 2) B2 (by omega) (by omega)
  have hw : Wk st sp := ⟨hs, hp, hpl⟩
  have hw' : Wk st sp' := ⟨hs, hp', by omega⟩
  have sg := (stk_as hs).sg
  have e1 : FN (PP cl) 60 39 [.ref 0, .int 4] m = .ok (tx st) m1 := e1
  have e2 : FN (PP cl) 60 41 [.ref 0, nD st.length, .int 4] m1 = .ok (.lst (sp.map stD)) m2 := e2
  have e3 : FN (PP cl) 60 41 [.ref 0, nD st.length, .int 2] m2 = .ok (.lst (sp'.map stD)) m3 := e3
  have i1 : FN (PP cl) 60 1000 [tx st, .lst (sp.map stD)] m2 = .ok (wkD st sp) m2 := init_ok cl 55 hw (x := .lst (sp.map stD)) rfl (fun m => rfl) m2
  have i2 : FN (PP cl) 60 1000 [tx st, .lst (sp'.map stD)] m3 = .ok (wkD st sp') m3 := init_ok cl 55 hw' (x := .lst (sp'.map stD)) rfl (fun m => rfl) m3
  have t1 : FN (PP cl) 60 43 [tx st, .lst (sp.map stD)] m2 = .ok (tx (workT st sp)) m2 := law_work_text_ok cl 58 hw m2
  have w1 : FN (PP cl) 60 1008 [wkD st sp] m2 = .ok (tx (workT st sp)) m2 := text_ok cl 58 hw m2
  have w2 : FN (PP cl) 60 1008 [wkD st sp'] m3 = .ok (tx (workT st sp')) m3 := text_ok cl 58 hw' m3
  have r1 : FN (PP cl) 60 1001 [.cls 8, tx (workT st sp)] m2 = .ok (wkD st sp) m2 := read_ok cl 54 hw m2
  have k1 : FN (PP cl) 60 44 [wkD st sp, tx st, .lst (sp.map stD)] m2 = .ok (.bl true) m2 := is_work_ok cl 52 hw m2
  have q1 : FN (PP cl) 60 1006 [wkD st sp, wkD st sp] m2 = .ok (.bl true) m2 := by
    have := eq_ok cl 59 (sp := sp) (sp' := sp) sg sg m2
    rw [decide_eq_true ⟨rfl, rfl⟩] at this
    exact this
  have q2 : FN (PP cl) 60 1006 [wkD st sp', wkD st sp] m3 = .ok (.bl (decide (workT st sp' = workT st sp))) m3 := by
    have := eq_ok cl 59 (sp := sp') (sp' := sp) sg sg m3
    rw [show decide (st = st ∧ sp' = sp) = decide (workT st sp' = workT st sp) from decide_eq_decide.mpr ⟨fun h => by rw [h.2], fun h => ⟨rfl, workT_inj hw' hw h⟩⟩] at this
    exact this
  have ln : ∀ m, bltD .len [tx st] m = some (nD st.length) := fun m => len_S (l := st) (by omega) m
  have n1 := ne_S (workT st sp) (workT st sp)
  rw [decide_eq_true rfl] at n1
  have n2 := eq_S (workT st sp') (workT st sp)
  have n3 := ne_bl (decide (workT st sp' = workT st sp)) (decide (workT st sp' = workT st sp))
  rw [decide_eq_true rfl] at n3
  have l2 : (2 : Nat) ≤ sizeLine := le_line (by decide)
  generalize (60 : Nat) = K at *
  refine ⟨some (.val (tx st)), some (.val (.lst (sp.map stD))), some (.val (wkD st sp')), some (.val (wkD st sp)), some (.val (tx (workT st sp))), m3, ?_, B3⟩
  refine (exs_asg (W_call (evs_two rfl rfl) e1)).trans ?_
  refine (exs_asg (W_call (evs_three rfl (ev_blt_of (evs_one rfl) (ln m1)) rfl) e2)).trans ?_
  refine (exs_asgT (f1 := [s0, some (.val (.ref 0)), s2, some (.val (tx st)), some (.val (.lst (sp.map stD))), s5, some (.val (wkD st sp)), some (.val (tx (workT st sp)))]) (ev_tup_of (evs_two (W_call (evs_two rfl rfl) i1) (W_call (evs_two rfl rfl) t1)) l2) rfl).trans ?_
  refine (exs_if0 (m1 := m2) (tst_bl (b := false) ?_)).trans ?_
  · refine (ev_or_f (x := .bl false) (m1 := m2) (ev_cmp_of (W_mth rfl rfl mt_8_113 rfl rfl w1) rfl n1) rfl).trans ?_
    refine (ev_or_f (x := .bl false) (m1 := m2) (ev_not_of (W_call (evs_three (W_call (evs_two rfl rfl) r1) rfl rfl) k1) rfl) rfl).trans ?_
    exact W_eqI (W_callK (evs_one rfl) (evs_one rfl) (bnd7 cl _ _) r1) rfl rfl mt_8_102 rfl q1
  refine (exs_asg (W_call (evs_two rfl (W_call (evs_three rfl (ev_blt_of (evs_one rfl) (ln m2)) rfl) e3)) i2)).trans ?_
  refine (exs_if0 (m1 := m3) (tst_bl (b := false) ?_)).trans ?_
  · exact ev_cmp_of (W_eqI (t := decide (workT st sp' = workT st sp)) rfl rfl rfl mt_8_102 rfl q2) (ev_cmp_of (W_mth rfl rfl mt_8_113 rfl rfl w2) rfl n2) (by rw [Bool.false_xor]; exact n3)
  rfl
theorem turns6 {ns : List Int} (s0 : Option Sl) : ∀ (xs : List Mp.D) (s2 s3 s4 s5 s6 s7 : Option Sl) (m : MH), Bag ns rest m → ∃ fr' m', forS (.nm 2) (exs (GG cl 60) mkxG [Y1, Y2, Y3, Y4, Y5, Y6]) xs [s0, some (.val (.ref 0)), s2, s3, s4, s5, s6, s7] m = .nx fr' m'
  | [], _, _, _, _, _, _, m, _ => ⟨_, m, rfl⟩
  | x :: xs, s2, s3, s4, s5, s6, s7, m, hB => by
    obtain ⟨a3, a4, a5, a6, a7, m1, e, B1⟩ := turn6 cl rest s0 (some (.val x)) s3 s4 s5 s6 s7 hB
    obtain ⟨fr', m2, e2⟩ := turns6 s0 xs (some (.val x)) a3 a4 a5 a6 a7 m1 B1
    refine ⟨fr', m2, ?_⟩
    exact (forS_nx (f1 := [s0, some (.val (.ref 0)), some (.val x), s3, s4, s5, s6, s7]) rfl e).trans e2
end
def spX : List Stp := [([2, 9], [0, 0]), ([0, 0], [0, 1])]
theorem wkX : Wk [97, 98] spX where
  stk := by decide
  stp := by
    intro p hp
    unfold spX at hp
    simp only [List.mem_cons, List.not_mem_nil, or_false] at hp
    rcases hp with rfl | rfl <;> exact ⟨⟨rfl, by decide⟩, ⟨rfl, by decide⟩⟩
  len := by decide
theorem txX : (Str.ofString "ab:2a+9b>0,0>b" : Str) = S (workT [97, 98] spX) := by
  rw [show workT [97, 98] spX = [97, 98, 58, 50, 97, 43, 57, 98, 62, 48, 44, 48, 62, 98] from by decide +kernel]
  kernel_rfl
theorem law6_ok (cl : List Nat) (ns : List Int) (hl : ns.length ≤ 63) : ∃ m', FN (PP cl) 61 n_law_k06 [.fz (ns.map Mp.D.int)] [] = .ok (.bl true) m' := by
  obtain ⟨m1, e1, B1⟩ := bag_ok cl 59 ns hl
  have e1 : FN (PP cl) 60 4 [.fz (ns.map Mp.D.int)] [] = .ok (.ref 0) m1 := e1
  have r : rngD (.int 0) (.int 10) = some ((List.range 10).map nD) := rng_nat (k := 10) (by decide)
  obtain ⟨fr', m2, e2⟩ := turns6 cl [] (some (.val (.fz (ns.map Mp.D.int)))) ((List.range 10).map nD) none none none none none none m1 B1
  have r1 : FN (PP cl) 60 1001 [.cls 8, .str (Str.ofString "ab:2a+9b>0,0>b")] m2 = .ok (wkD [97, 98] spX) m2 := by
    rw [txX]
    exact read_ok cl 54 wkX m2
  have k1 : FN (PP cl) 60 44 [wkD [97, 98] spX, .str (Str.ofString "ab"), .lst (spX.map stD)] m2 = .ok (.bl true) m2 := by
    rw [show (Str.ofString "ab" : Str) = S [97, 98] from by kernel_rfl]
    exact is_work_ok cl 52 wkX m2
  have l2 : (2 : Nat) ≤ sizeLine := le_line (by decide)
  refine ⟨m2, ?_⟩
  rw [F_law_k06]
  refine runF_rt rfl ?_
  rw [law6_is]
  generalize (60 : Nat) = K at *
  refine (exs_asg (W_call (evs_one rfl) e1)).trans ?_
  refine (exs_for (ev_rng_of rfl r) rfl e2).trans ?_
  refine exs_ret (W_call (evs_three (W_call (evs_two rfl rfl) r1) rfl (ev_lst_of (evs_two (ev_tup_of (evs_two (ev_tup_of (evs_two rfl rfl) l2) (ev_tup_of (evs_two rfl rfl) l2)) l2) (ev_tup_of (evs_two (ev_tup_of (evs_two rfl rfl) l2) (ev_tup_of (evs_two rfl rfl) l2)) l2)) l2)) k1)
end Kb
end
set_option maxRecDepth 100000 in
set_option maxHeartbeats 8000000 in
theorem PySem.Challenge.cw_kindlebody_k06_whole_texts_of_works_holds : PySem.Challenge.rw_kindlebody_k06_whole_texts_of_works.Holds := by
  exact K06.holds_of (fun ns hl => Kb.law6_ok K06.cl ns hl)
