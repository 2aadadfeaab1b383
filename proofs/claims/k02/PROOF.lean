import PyProof.Rows.All
import Wide.All
import OpenK.AllK
import Wide.FinOn
import HandS.ForMost
import HandS.Exc
import HandS.ExcOwn
import HandS.WordsExc
import HandS.Defaults
import HandS.CallSlots
import HandS.Lambda
import HandS.Wide
import HandS.Flow
import HandS.IsInst
import HandS.Text
import HandS.TupAny
import HandS.Replace
import HandS.FStr
import HandS.Style
import HandS.Deep
import HandS.Walk
import HandS.Zip
import HandS.TryOnly
import HandS.Star
import KE.KExcSuper
import HandS.ExcInit
import KE.KTryMore
import HandS.HotCalls
import HandS.ExcField
import HandS.HeadHook2
import HandS.HeadEnd
import HandS.EndTab
import HandS.Head2
import PySem.Challenge.RW_kindlebody_k02_texts_of_fractions
set_option Elab.async false
section
set_option Elab.async false
set_option linter.all false
set_option maxRecDepth 100000
set_option maxHeartbeats 1000000
/-! MpCore: data by value (D), the shared heap (MH), how they are borne by the layer's V and Hp, extension, carrying over. -/
namespace Mp
open PySem PySem.Spec PyProof.Rows L2

/-- data: tuples, lists that nobody writes any more, dicts and instances likewise, by value; ref n: the n-th shared object -/
inductive D where
  | non | bl (b : Bool) | int (i : Int) | str (x : Str)
  | tup (xs : List D) | lst (xs : List D) | fz (xs : List D) | dct (ks : List Key) (vs : List D)
  | ins (C : Nat) (ns : List Nat) (ds : List D) | ref (n : Nat)

instance : Inhabited D := ⟨.non⟩

/-- a shared object -/
inductive MO where
  | lst (xs : List D) | dct (ks : List Key) (vs : List D) | ins (C : Nat) (ns : List Nat) (ds : List D)
abbrev MH := List MO

/-- an exception: its class, its fields -/
structure Exn where
  c : Nat
  ns : List Nat
  ds : List D

inductive R (α : Type) where
  | ok (a : α) (m : MH) | exc (x : Exn) (m : MH) | bad
def R.bind {α β : Type} (r : R α) (k : α → MH → R β) : R β := match r with
  | .ok a m => k a m
  | .exc x m => .exc x m
  | .bad => .bad
@[simp] theorem R.ok_bind {α β : Type} (a : α) (m : MH) (k : α → MH → R β) : (R.ok a m).bind k = k a m := rfl
@[simp] theorem R.exc_bind {α β : Type} (x : Exn) (m : MH) (k : α → MH → R β) : (R.exc x m : R α).bind k = .exc x m := rfl
@[simp] theorem R.bad_bind {α β : Type} (k : α → MH → R β) : (R.bad : R α).bind k = .bad := rfl

/-- what the text's top gives: names, classes' addresses -/
structure Sta where
  P : Program
  w : World
  K : PySem.W.Frag
  mg : Str → Option Value
  base : Heap
  nm : Nat → Str
  ca : Nat → Addr
  tb : List (Addr × Str)

/-! ### how data stand in the abstract heap -/
/-- nobody writes it: not owned by a frame, not shared -/
def Sil (ow : Addr → Prop) (io : List Addr) (H : Hp) (a : Addr) (o : HO) : Prop := Rd H a o ∧ a ∉ io ∧ ¬ ow a
def KLst (K : PySem.W.Frag) (a : Addr) (xs : List V) : Prop :=
  ∃ (o : Obj) (its : Array Value) (n : Nat), K.lookup a = some o ∧ o.cls = .type "list" ∧ o.dict = none ∧ o.data = .seq its n ∧ its.size ≤ sizeLine ∧ Vals xs its.toList
def KTup (K : PySem.W.Frag) (a : Addr) (xs : List V) : Prop :=
  ∃ (o : Obj) (its : Array Value) (n : Nat), K.lookup a = some o ∧ o.cls = .type "tuple" ∧ o.data = .seq its n ∧ its.size ≤ sizeLine ∧ Vals xs its.toList

section
variable (S : Sta) (ow : Addr → Prop) (io : List Addr) (H : Hp)
mutual
def RV : D → V → Prop
  | .non, v => v = .non
  | .bl b, v => v = .bl b
  | .int i, v => v = .int i
  | .str x, v => v = .str x
  | .tup xs, v => ∃ a vs, v = .ref a ∧ (Sil ow io H a (.tup vs) ∨ KTup S.K a vs) ∧ RVs xs vs
  | .lst xs, v => ∃ a vs, v = .ref a ∧ (H a = some (.lst vs) ∧ a ∉ io ∧ ¬ ow a) ∧ RVs xs vs
  | .fz xs, v => ∃ a vs, v = .ref a ∧ (Sil ow io H a (.lst vs) ∨ KLst S.K a vs) ∧ RVs xs vs
  | .dct ks xs, v => ∃ a kvs, v = .ref a ∧ (H a = some (.dK kvs) ∧ a ∉ io ∧ ¬ ow a) ∧ kvs.map (·.1) = ks ∧ RVs xs (kvs.map (·.2))
  | .ins C ns ds, v => ∃ a dx fs, v = .ref a ∧ (H a = some (.ins (S.ca C) dx fs) ∧ a ∉ io ∧ ¬ ow a) ∧ fs.map (·.1) = ns.map S.nm ∧ RVs ds (fs.map (·.2))
  | .ref n, v => ∃ a, v = .ref a ∧ io[n]? = some a
def RVs : List D → List V → Prop
  | [], vs => vs = []
  | d :: ds, vs => ∃ v r, vs = v :: r ∧ RV d v ∧ RVs ds r
end
/-- a shared object at its address -/
def RO (a : Addr) : MO → Prop
  | .lst xs => ∃ vs, H a = some (.lst vs) ∧ RVs S ow io H xs vs
  | .dct ks xs => ∃ kvs, H a = some (.dK kvs) ∧ kvs.map (·.1) = ks ∧ RVs S ow io H xs (kvs.map (·.2))
  | .ins C ns ds => ∃ dx fs, H a = some (.ins (S.ca C) dx fs) ∧ fs.map (·.1) = ns.map S.nm ∧ RVs S ow io H ds (fs.map (·.2))
structure RH (m : MH) : Prop where
  tab : LamX.Tabs S.tb H
  len : io.length = m.length
  nd : io.Nodup
  at_ : ∀ (n : Nat) (o : MO), m[n]? = some o → ∃ a, io[n]? = some a ∧ RO S ow io H a o ∧ ¬ ow a
end

/-! ### the heap grows, shared objects change; tables of code objects may grow -/
def sol : HO → Prop
  | .tbl _ => False
  | _ => True
def NT (H : Hp) (a : Addr) : Prop := ∀ u, H a = some u → ¬ sol u
theorem NT.of {H : Hp} {a : Addr} (h : H a = none) : NT H a := fun u e => by rw [h] at e; cases e
theorem NT.no {H : Hp} {a : Addr} {u : HO} (n : NT H a) (e : H a = some u) (s : sol u) : False := n u e s
theorem NT.ex {H : Hp} {a : Addr} (n : ¬ NT H a) : ∃ u, H a = some u ∧ sol u := Classical.byContradiction fun z => n fun u e s => z ⟨u, e, s⟩
theorem NT.ne {H : Hp} {a p : Addr} (n : ¬ NT H a) (h : H p = none) : a ≠ p := fun e => n (.of (e ▸ h))
theorem NT.upd {H : Hp} {a p : Addr} {o : HO} (h : NT (upd H p o) a) (hp : a = p → NT H a) : NT H a := fun u e s => by
  by_cases q : a = p
  · exact hp q u e s
  · exact h u (by rw [upd_ne q]; exact e) s
theorem sol_tup {H : Hp} {a : Addr} {o : HO} (r : Rd H a o) (s : sol o) : ¬ NT H a := fun n => by
  rcases r with r | ⟨_, r⟩
  · exact n _ r s
  · exact n _ r True.intro
structure Ex (io : List Addr) (H : Hp) (io' : List Addr) (H' : Hp) : Prop where
  pre : io <+: io'
  new : ∀ a, a ∈ io' → a ∉ io → NT H a
  keep : ∀ a o, H a = some o → sol o → a ∉ io → H' a = some o
  dom : ∀ a, NT H' a → NT H a
/-- the same from statement to statement: the owned ones may change, and which are owned -/
structure Ey (ow : Addr → Prop) (io : List Addr) (H : Hp) (ow' : Addr → Prop) (io' : List Addr) (H' : Hp) : Prop where
  pre : io <+: io'
  new : ∀ a, a ∈ io' → a ∉ io → NT H a
  now : ∀ a, ow' a → ¬ ow a → NT H a
  keep : ∀ a o, H a = some o → sol o → a ∉ io → ¬ ow a → H' a = some o
  dom : ∀ a, NT H' a → NT H a
theorem Ex.ey {io io' : List Addr} {H H' : Hp} {ow : Addr → Prop} (x : Ex io H io' H') : Ey ow io H ow io' H' :=
  ⟨x.pre, x.new, fun _ h n => absurd h n, fun a o h s n _ => x.keep a o h s n, x.dom⟩
theorem Ey.refl (ow : Addr → Prop) (io : List Addr) (H : Hp) : Ey ow io H ow io H := ⟨List.prefix_refl _, fun _ h n => absurd h n, fun _ h n => absurd h n, fun _ _ h _ _ _ => h, fun _ h => h⟩
theorem Ey.trans {ow ow1 ow2 : Addr → Prop} {io io1 io2 : List Addr} {H H1 H2 : Hp} (a : Ey ow io H ow1 io1 H1) (b : Ey ow1 io1 H1 ow2 io2 H2) : Ey ow io H ow2 io2 H2 where
  pre := a.pre.trans b.pre
  new := fun x h n => by
    by_cases h1 : x ∈ io1
    · exact a.new x h1 n
    · exact a.dom x (b.new x h h1)
  now := fun x h n => by
    by_cases h1 : ow1 x
    · exact a.now x h1 n
    · exact a.dom x (b.now x h h1)
  keep := fun x o h s n w => b.keep x o (a.keep x o h s n w) s (fun h1 => a.new x h1 n o h s) fun h1 => a.now x h1 w o h s
  dom := fun x h => a.dom x (b.dom x h)
theorem Ey.less {ow ow' : Addr → Prop} {io : List Addr} {H : Hp} (x : ∀ a, ow' a → ow a) : Ey ow io H ow' io H := ⟨List.prefix_refl _, fun _ h n => absurd h n, fun a h n => absurd (x a h) n, fun _ _ h _ _ _ => h, fun _ h => h⟩
/-- an owned object is written -/
theorem Ey.own {ow : Addr → Prop} {io : List Addr} {H : Hp} {p : Addr} {o : HO} (hp : ow p) (hs : sol o) : Ey ow io H ow io (upd H p o) where
  pre := List.prefix_refl _
  new := fun _ h n => absurd h n
  now := fun _ h n => absurd h n
  keep := fun a u h _ _ n => by
    have e : a ≠ p := fun e => n (by rw [e]; exact hp)
    rw [upd_ne e]; exact h
  dom := fun a h => h.upd fun e => by
    rw [e] at h ⊢
    exact absurd hs (h _ upd_same)
theorem Ex.refl (io : List Addr) (H : Hp) : Ex io H io H := ⟨List.prefix_refl _, fun _ h n => absurd h n, fun _ _ h _ _ => h, fun _ h => h⟩
theorem Ex.trans {io io1 io2 : List Addr} {H H1 H2 : Hp} (a : Ex io H io1 H1) (b : Ex io1 H1 io2 H2) : Ex io H io2 H2 where
  pre := a.pre.trans b.pre
  new := fun x h n => by
    by_cases h1 : x ∈ io1
    · exact a.new x h1 n
    · exact a.dom x (b.new x h h1)
  keep := fun x o h s n => b.keep x o (a.keep x o h s n) s fun h1 => a.new x h1 n o h s
  dom := fun x h => a.dom x (b.dom x h)
/-- a new object, not shared -/
theorem Ex.fresh {io : List Addr} {H : Hp} {p : Addr} {o : HO} (hp : H p = none) : Ex io H io (upd H p o) where
  pre := List.prefix_refl _
  new := fun _ h n => absurd h n
  keep := fun a u h _ _ => by rw [upd_ne (ne_of_none h hp)]; exact h
  dom := fun a h => h.upd fun e => .of (e ▸ hp)
/-- a shared object is written -/
theorem Ex.write {io : List Addr} {H : Hp} {p : Addr} {o : HO} (hp : p ∈ io) (hs : sol o) : Ex io H io (upd H p o) where
  pre := List.prefix_refl _
  new := fun _ h n => absurd h n
  keep := fun a u h _ n => by
    have e : a ≠ p := fun e => n (by rw [e]; exact hp)
    rw [upd_ne e]; exact h
  dom := fun a h => h.upd fun e => by
    rw [e] at h ⊢
    exact absurd hs (h _ upd_same)
/-- a new shared object -/
theorem Ex.share {io : List Addr} {H : Hp} {p : Addr} {o : HO} (hp : H p = none) : Ex io H (io ++ [p]) (upd H p o) where
  pre := List.prefix_append _ _
  new := fun a h n => by
    rcases List.mem_append.mp h with h | h
    · exact absurd h n
    · rw [List.mem_singleton.mp h]; exact .of hp
  keep := fun a u h _ _ => by rw [upd_ne (ne_of_none h hp)]; exact h
  dom := fun a h => h.upd fun e => .of (e ▸ hp)

theorem pre_get {io io' : List Addr} (h : io <+: io') {n : Nat} {a : Addr} (e : io[n]? = some a) : io'[n]? = some a := by
  obtain ⟨t, rfl⟩ := h
  rw [List.getElem?_append_left (List.getElem?_eq_some_iff.mp e).1]
  exact e

section
variable {S : Sta} {ow ow' : Addr → Prop} {io io' : List Addr} {H H' : Hp}
theorem Sil.ey {a : Addr} {o : HO} (x : Ey ow io H ow' io' H') (so : sol o) (h : Sil ow io H a o) : Sil ow' io' H' a o := by
  obtain ⟨r, n, w⟩ := h
  have z := sol_tup r so
  refine ⟨?_, fun hm => z (x.new a hm n), fun hm => z (x.now a hm w)⟩
  rcases r with r | ⟨ob, r⟩
  · exact .inl (x.keep a _ r so n w)
  · exact .inr ⟨ob, x.keep a _ r True.intro n w⟩
theorem ins_ey {a : Addr} {o : HO} (x : Ey ow io H ow' io' H') (so : sol o) (h : H a = some o ∧ a ∉ io ∧ ¬ ow a) : H' a = some o ∧ a ∉ io' ∧ ¬ ow' a := by
  obtain ⟨r, n, w⟩ := h
  exact ⟨x.keep a _ r so n w, fun hm => x.new a hm n _ r so, fun hm => x.now a hm w _ r so⟩
mutual
theorem RV.ey (x : Ey ow io H ow' io' H') : ∀ {d : D} {v : V}, RV S ow io H d v → RV S ow' io' H' d v
  | .non, _, h => by unfold RV at h ⊢; exact h
  | .bl _, _, h => by unfold RV at h ⊢; exact h
  | .int _, _, h => by unfold RV at h ⊢; exact h
  | .str _, _, h => by unfold RV at h ⊢; exact h
  | .tup xs, _, h => by
    unfold RV at h ⊢
    obtain ⟨a, vs, e, r, q⟩ := h
    exact ⟨a, vs, e, r.imp (Sil.ey x True.intro) id, RVs.ey x q⟩
  | .lst xs, _, h => by
    unfold RV at h ⊢
    obtain ⟨a, vs, e, r, q⟩ := h
    exact ⟨a, vs, e, ins_ey x True.intro r, RVs.ey x q⟩
  | .fz xs, _, h => by
    unfold RV at h ⊢
    obtain ⟨a, vs, e, r, q⟩ := h
    exact ⟨a, vs, e, r.imp (Sil.ey x True.intro) id, RVs.ey x q⟩
  | .dct ks xs, _, h => by
    unfold RV at h ⊢
    obtain ⟨a, kvs, e, r, q1, q⟩ := h
    exact ⟨a, kvs, e, ins_ey x True.intro r, q1, RVs.ey x q⟩
  | .ins C ns ds, _, h => by
    unfold RV at h ⊢
    obtain ⟨a, dx, fs, e, r, q1, q⟩ := h
    exact ⟨a, dx, fs, e, ins_ey x True.intro r, q1, RVs.ey x q⟩
  | .ref n, _, h => by
    unfold RV at h ⊢
    obtain ⟨a, e, r⟩ := h
    exact ⟨a, e, pre_get x.pre r⟩
theorem RVs.ey (x : Ey ow io H ow' io' H') : ∀ {ds : List D} {vs : List V}, RVs S ow io H ds vs → RVs S ow' io' H' ds vs
  | [], _, h => by unfold RVs at h ⊢; exact h
  | d :: ds, _, h => by
    unfold RVs at h ⊢
    obtain ⟨v, r, e, h1, h2⟩ := h
    exact ⟨v, r, e, RV.ey x h1, RVs.ey x h2⟩
end
theorem RV.ex (x : Ex io H io' H') {d : D} {v : V} (h : RV S ow io H d v) : RV S ow io' H' d v := h.ey x.ey
theorem RVs.ex (x : Ex io H io' H') {d : List D} {v : List V} (h : RVs S ow io H d v) : RVs S ow io' H' d v := h.ey x.ey
theorem RV.less (x : ∀ a, ow' a → ow a) {d : D} {v : V} (h : RV S ow io H d v) : RV S ow' io H d v := h.ey (.less x)
theorem RVs.less (x : ∀ a, ow' a → ow a) {d : List D} {v : List V} (h : RVs S ow io H d v) : RVs S ow' io H d v := h.ey (.less x)
theorem upd_owned {p : Addr} {o : HO} (hp : ow p) {a : Addr} (h : ¬ ow a) : upd H p o a = H a := upd_ne fun e => h (e ▸ hp)
theorem RV.own {p : Addr} {o : HO} (hp : ow p) (so : sol o) {d : D} {v : V} (h : RV S ow io H d v) : RV S ow io (upd H p o) d v := h.ey (.own hp so)
theorem RVs.own {p : Addr} {o : HO} (hp : ow p) (so : sol o) {d : List D} {v : List V} (h : RVs S ow io H d v) : RVs S ow io (upd H p o) d v := h.ey (.own hp so)
theorem RVs.length : ∀ {ds : List D} {vs : List V}, RVs S ow io H ds vs → ds.length = vs.length
  | [], _, h => by unfold RVs at h; subst h; rfl
  | d :: ds, _, h => by
    unfold RVs at h
    obtain ⟨v, r, e, h1, h2⟩ := h
    rw [e, List.length_cons, List.length_cons, RVs.length h2]
theorem RVs.nil : RVs S ow io H [] [] := by unfold RVs; rfl
theorem RVs.cons {d : D} {ds : List D} {v : V} {vs : List V} (h : RV S ow io H d v) (t : RVs S ow io H ds vs) : RVs S ow io H (d :: ds) (v :: vs) := by
  unfold RVs; exact ⟨v, vs, rfl, h, t⟩
theorem RVs.get : ∀ {ds : List D} {vs : List V} {i : Nat} {d : D}, RVs S ow io H ds vs → ds[i]? = some d → ∃ v, vs[i]? = some v ∧ RV S ow io H d v
  | [], _, _, _, _, e => by simp at e
  | d :: ds, _, 0, d', h, e => by
    unfold RVs at h
    obtain ⟨v, r, rfl, h1, h2⟩ := h
    simp at e
    subst e
    exact ⟨v, rfl, h1⟩
  | d :: ds, _, i + 1, d', h, e => by
    unfold RVs at h
    obtain ⟨v, r, rfl, h1, h2⟩ := h
    obtain ⟨v', e1, e2⟩ := RVs.get (i := i) (d := d') h2 (by simpa using e)
    exact ⟨v', by simpa using e1, e2⟩
theorem RVs.append : ∀ {ds es : List D} {vs us : List V}, RVs S ow io H ds vs → RVs S ow io H es us → RVs S ow io H (ds ++ es) (vs ++ us)
  | [], _, _, _, h, t => by unfold RVs at h; subst h; exact t
  | d :: ds, _, _, _, h, t => by
    unfold RVs at h
    obtain ⟨v, r, rfl, h1, h2⟩ := h
    exact .cons h1 (RVs.append h2 t)
theorem RVs.take : ∀ {ds : List D} {vs : List V} (n : Nat), RVs S ow io H ds vs → RVs S ow io H (ds.take n) (vs.take n)
  | _, _, 0, _ => by simp; exact .nil
  | [], _, n + 1, h => by unfold RVs at h; subst h; exact .nil
  | d :: ds, _, n + 1, h => by
    unfold RVs at h
    obtain ⟨v, r, rfl, h1, h2⟩ := h
    exact .cons h1 (RVs.take n h2)
theorem RVs.drop : ∀ {ds : List D} {vs : List V} (n : Nat), RVs S ow io H ds vs → RVs S ow io H (ds.drop n) (vs.drop n)
  | _, _, 0, h => by simpa using h
  | [], _, n + 1, h => by unfold RVs at h; subst h; simp; exact .nil
  | d :: ds, _, n + 1, h => by
    unfold RVs at h
    obtain ⟨v, r, rfl, h1, h2⟩ := h
    exact RVs.drop n h2
theorem RVs.set : ∀ {ds : List D} {vs : List V} (i : Nat) {d : D} {v : V}, RVs S ow io H ds vs → RV S ow io H d v → RVs S ow io H (ds.set i d) (vs.set i v)
  | [], _, _, _, _, h, _ => by unfold RVs at h; subst h; simp; exact .nil
  | _ :: ds, _, 0, _, _, h, q => by
    unfold RVs at h
    obtain ⟨v, r, rfl, h1, h2⟩ := h
    exact .cons q h2
  | _ :: ds, _, i + 1, _, _, h, q => by
    unfold RVs at h
    obtain ⟨v, r, rfl, h1, h2⟩ := h
    exact .cons h1 (RVs.set i h2 q)
theorem RO.ex {a : Addr} {o : MO} (x : Ex io H io' H') (hk : H' a = H a) (h : RO S ow io H a o) : RO S ow io' H' a o := by
  cases o with
  | lst xs => obtain ⟨vs, e, q⟩ := h; exact ⟨vs, hk.trans e, q.ex x⟩
  | dct ks xs => obtain ⟨kvs, e, q1, q⟩ := h; exact ⟨kvs, hk.trans e, q1, q.ex x⟩
  | ins C ns ds => obtain ⟨dx, fs, e, q1, q⟩ := h; exact ⟨dx, fs, hk.trans e, q1, q.ex x⟩
theorem RH.mem {m : MH} (h : RH S ow io H m) {a : Addr} (ha : a ∈ io) : ¬ NT H a ∧ ¬ ow a := by
  obtain ⟨n, hn, e⟩ := List.getElem_of_mem ha
  have hm : n < m.length := by rw [← h.len]; exact hn
  obtain ⟨a', e1, e2, e3⟩ := h.at_ n m[n] (List.getElem?_eq_getElem hm)
  have : a' = a := by
    rw [List.getElem?_eq_getElem hn, e] at e1
    exact (Option.some.inj e1).symm
  subst this
  refine ⟨fun z => ?_, e3⟩
  cases q : m[n] with
  | lst xs => rw [q] at e2; obtain ⟨vs, e, _⟩ := e2; exact z _ e True.intro
  | dct ks xs => rw [q] at e2; obtain ⟨kvs, e, _⟩ := e2; exact z _ e True.intro
  | ins C ns ds => rw [q] at e2; obtain ⟨dx, fs, e, _⟩ := e2; exact z _ e True.intro
/-- what is written over is no table and no code object -/
def wro : HO → Prop
  | .tbl _ => False
  | .ext _ => False
  | _ => True
theorem tabs_write {T : List (Addr × Str)} {H : Hp} {p : Addr} {o u : HO} (h : LamX.Tabs T H) (e : H p = some u) (w : wro u) : LamX.Tabs T (upd H p o) := fun q hq => by
  obtain ⟨ps, h1, h2, h3⟩ := h q hq
  refine ⟨ps, ?_, h2, fun pos cv hc => ?_⟩
  · rw [upd_ne fun z => ?_]
    · exact h1
    · rw [z, e] at h1
      cases h1
      exact w
  · obtain ⟨c, e1, e2⟩ := h3 pos cv hc
    refine ⟨c, e1, ?_⟩
    rw [upd_ne fun z => ?_]
    · exact e2
    · rw [z, e] at e2
      have e3 := Option.some.inj e2
      rw [e3] at w
      exact w
theorem tabs_fresh {T : List (Addr × Str)} {H : Hp} {p : Addr} {o : HO} (h : LamX.Tabs T H) (e : H p = none) : LamX.Tabs T (upd H p o) := h.ext fun b u q => by rw [upd_ne (ne_of_none q e)]; exact q
/-- a new object that is not shared: the shared ones stay -/
theorem RH.fresh {m : MH} {p : Addr} {o : HO} (h : RH S ow io H m) (hp : H p = none) : RH S ow io (upd H p o) m where
  tab := tabs_fresh h.tab hp
  len := h.len
  nd := h.nd
  at_ := fun n u e => by
    obtain ⟨a, e1, e2, e3⟩ := h.at_ n u e
    have hm := (h.mem (List.mem_of_getElem? e1)).1
    exact ⟨a, e1, e2.ex (.fresh hp) (upd_ne (NT.ne hm hp)), e3⟩
/-- an owned object is written -/
theorem RH.own {m : MH} {p : Addr} {o : HO} (h : RH S ow io H m) (hp : ow p) (so : sol o) {u : HO} (eu : H p = some u) (wu : wro u) : RH S ow io (upd H p o) m where
  tab := tabs_write h.tab eu wu
  len := h.len
  nd := h.nd
  at_ := fun n u e => by
    obtain ⟨a, e1, e2, e3⟩ := h.at_ n u e
    have hk := upd_owned (H := H) (o := o) hp e3
    refine ⟨a, e1, ?_, e3⟩
    cases u with
    | lst xs => obtain ⟨vs, q, r⟩ := e2; exact ⟨vs, hk.trans q, r.own hp so⟩
    | dct ks xs => obtain ⟨kvs, q, q1, r⟩ := e2; exact ⟨kvs, hk.trans q, q1, r.own hp so⟩
    | ins C ns ds => obtain ⟨dx, fs, q, q1, r⟩ := e2; exact ⟨dx, fs, hk.trans q, q1, r.own hp so⟩
theorem RH.less {m : MH} {ow' : Addr → Prop} (x : ∀ a, ow' a → ow a) (h : RH S ow io H m) : RH S ow' io H m where
  tab := h.tab
  len := h.len
  nd := h.nd
  at_ := fun n u e => by
    obtain ⟨a, e1, e2, e3⟩ := h.at_ n u e
    refine ⟨a, e1, ?_, fun z => e3 (x _ z)⟩
    cases u with
    | lst xs => obtain ⟨vs, q, r⟩ := e2; exact ⟨vs, q, r.less x⟩
    | dct ks xs => obtain ⟨kvs, q, q1, r⟩ := e2; exact ⟨kvs, q, q1, r.less x⟩
    | ins C ns ds => obtain ⟨dx, fs, q, q1, r⟩ := e2; exact ⟨dx, fs, q, q1, r.less x⟩
/-- the n-th shared object is written -/
theorem RH.write {m : MH} {n : Nat} {a : Addr} {o : HO} {u : MO} (h : RH S ow io H m) (hn : io[n]? = some a) (so : sol o) (hu : RO S ow io (upd H a o) a u) : RH S ow io (upd H a o) (m.set n u) where
  tab := by
    have hl : n < m.length := by rw [← h.len]; exact (List.getElem?_eq_some_iff.mp hn).1
    obtain ⟨b, e1, e2, _⟩ := h.at_ n _ (List.getElem?_eq_getElem hl)
    rw [hn] at e1
    cases e1
    cases q : m[n] with
    | lst xs => rw [q] at e2; obtain ⟨vs, e, _⟩ := e2; exact tabs_write h.tab e True.intro
    | dct ks xs => rw [q] at e2; obtain ⟨kvs, e, _⟩ := e2; exact tabs_write h.tab e True.intro
    | ins C ns ds => rw [q] at e2; obtain ⟨dx, fs, e, _⟩ := e2; exact tabs_write h.tab e True.intro
  len := by rw [List.length_set]; exact h.len
  nd := h.nd
  at_ := fun k v e => by
    by_cases hk : k = n
    · subst hk
      have hl : k < m.length := by rw [← h.len]; exact (List.getElem?_eq_some_iff.mp hn).1
      rw [List.getElem?_set_self hl] at e
      cases e
      exact ⟨a, hn, hu, (h.mem (List.mem_of_getElem? hn)).2⟩
    · rw [List.getElem?_set_ne (Ne.symm hk)] at e
      obtain ⟨b, e1, e2, e3⟩ := h.at_ k v e
      refine ⟨b, e1, e2.ex (.write (List.mem_of_getElem? hn) so) (upd_ne fun z => hk ?_), e3⟩
      obtain ⟨l1, q1⟩ := List.getElem?_eq_some_iff.mp e1
      obtain ⟨l2, q2⟩ := List.getElem?_eq_some_iff.mp hn
      exact (List.getElem_inj h.nd).mp (q1.trans (z.trans q2.symm))
/-- a new shared object -/
theorem RH.share {m : MH} {p : Addr} {o : HO} {u : MO} (h : RH S ow io H m) (hp : H p = none) (how : ¬ ow p) (hu : RO S ow (io ++ [p]) (upd H p o) p u) : RH S ow (io ++ [p]) (upd H p o) (m ++ [u]) where
  tab := tabs_fresh h.tab hp
  len := by rw [List.length_append, List.length_append, h.len]; rfl
  nd := by
    rw [List.nodup_append]
    refine ⟨h.nd, by simp, fun a ha b hb => ?_⟩
    rw [List.mem_singleton.mp hb]
    exact NT.ne (h.mem ha).1 hp
  at_ := fun k v e => by
    by_cases hk : k < m.length
    · rw [List.getElem?_append_left hk] at e
      obtain ⟨b, e1, e2, e3⟩ := h.at_ k v e
      exact ⟨b, pre_get (List.prefix_append _ _) e1, e2.ex (.share hp) (upd_ne (NT.ne (h.mem (List.mem_of_getElem? e1)).1 hp)), e3⟩
    · rw [List.getElem?_append_right (by omega)] at e
      have e0 : k - m.length = 0 := by
        cases q : k - m.length with
        | zero => rfl
        | succ j => rw [q] at e; simp at e
      rw [e0] at e
      simp at e
      subst e
      refine ⟨p, ?_, hu, how⟩
      rw [List.getElem?_append_right (by rw [h.len]; omega), h.len, e0]
      rfl
end
end Mp
end
section
set_option Elab.async false
set_option linter.all false
set_option maxRecDepth 100000
set_option maxHeartbeats 1000000
/-! MpSem: the small language and what it means over D and MH. -/
namespace Mp
open PySem PySem.Spec PyProof.Rows L2

inductive BO where
  | add | sub | mul | fdiv | mod | pow
inductive CO where
  | eq | ne | lt | le | gt | ge | mem | nmem
/-- types asked by isinstance -/
inductive Ty where
  | int | bool | str | list | tuple | dict | cls (C : Nat)
inductive Bl where
  | len | int_ | abs | all | any | list | tuple | str | sum | max2 | min2
/-- text methods: of one argument -/
inductive M1 where
  | partition | index | split | join
inductive Tg where
  | nm (i : Nat) | tup (ts : List Tg)
inductive E where
  | k (d : D) | loc (i : Nat) | cst (g : Nat)
  | bin (o : BO) (a b : E) | neg (a : E)
  | cmp (o : CO) (a b : E) | chain (o p : CO) (a b c : E) | isN (a : E) | notN (a : E)
  | andv (a b : E) | orv (a b : E) | notv (a : E) | ite (c a b : E)
  | tup (es : List E) | lst (es : List E)
  | idx (a i : E) | sl (a lo hi : E) | prt (a : E) | fld (a : E) (f : Nat)
  | call (f : Nat) (es : List E) | callK (f b : Nat) (es ks : List E)
  | blt (b : Bl) (es : List E) | isi (a : E) (ts : List Ty)
  | comp (vs : List Nat) (tg : Tg) (it : E) (cs : List E) (el : E)
  | rng1 (b : E) | rng2 (a b : E) | zip (a b : E)
  | why (b : E)
  | m1 (k : M1) (o a : E) | fmt (a : E) | fs (es : List E) | rev (a : E)

/-- the meaning of the program's defs by number; constants; a call's arguments put in place -/
structure Gt where
  fn : Nat → List D → MH → R D
  cst : Nat → D
  bnd : Nat → List D → List D → Option (List D)
  why : Exn → Option D

/-- a slot: a value; a list of the frame's own -/
inductive Sl where
  | val (d : D) | olst (xs : List D)
abbrev Fr := List (Option Sl)

/-! ### values -/
def isNonD : D → Bool
  | .non => true
  | _ => false
def truD : D → Option Bool
  | .non => some false
  | .bl b => some b
  | .int i => some (i != 0)
  | .str x => if x.length ≤ sizeLine then some ((x.length : Int) != 0) else none
  | .tup xs => some (!xs.isEmpty)
  | .lst xs => some (!xs.isEmpty)
  | .dct ks _ => some (!ks.isEmpty)
  | _ => none
/-- scalars: their equality is that of V -/
def sclV : D → Option V
  | .non => some .non
  | .bl b => some (.bl b)
  | .int i => some (.int i)
  | .str x => some (.str x)
  | _ => none
def mulOk (i j : Int) : Bool := decide (i.natAbs.log2 + j.natAbs.log2 < 1000000)
def divOk (j : Int) : Bool := decide (0 < j) && decide (j.natAbs.log2 < 9000)
def addD : D → D → Option D
  | .int i, .int j => some (.int (i + j))
  | .str x, .str y => if x.length + y.length ≤ sizeLine then some (.str (x ++ y)) else none
  | .lst xs, .lst ys => if xs.length + ys.length ≤ sizeLine then some (.lst (xs ++ ys)) else none
  | _, _ => none
def subD : D → D → Option D
  | .int i, .int j => some (.int (i - j))
  | _, _ => none
def mulD : D → D → Option D
  | .int i, .int j => if mulOk i j = true then some (.int (i * j)) else none
  | .lst xs, .int k => if -(2 ^ 63) ≤ k ∧ k < 2 ^ 63 ∧ xs.length * k.toNat ≤ sizeLine then some (.lst (List.replicate k.toNat xs).flatten) else none
  | _, _ => none
def fdivD : D → D → Option D
  | .int i, .int j => if divOk j = true then some (.int (i / j)) else none
  | _, _ => none
def modD : D → D → Option D
  | .int i, .int j => if 0 < j then some (.int (i % j)) else none
  | _, _ => none
def powD : D → D → Option D
  | .int i, .int j => if 0 ≤ j ∧ j ≤ 1000000 ∧ i.natAbs < 2 ^ 64 then some (.int (i ^ j.toNat)) else none
  | _, _ => none
def binD (o : BO) (x y : D) : Option D := match o with
  | .add => addD x y
  | .sub => subD x y
  | .mul => mulD x y
  | .fdiv => fdivD x y
  | .mod => modD x y
  | .pow => powD x y
def flatD : D → Bool
  | .bl _ => true
  | .int _ => true
  | .str _ => true
  | .non => true
  | _ => false
/-- Python's == on scalars -/
def eqS : D → D → Option Bool
  | .int i, .int j => some (decide (i = j))
  | .bl a, .bl b => some (decide (a = b))
  | .str x, .str y => some (decide (x = y))
  | _, _ => none
mutual
def pdOf : D → Option PyData
  | .non => some .none
  | .bl b => some (.bool b)
  | .int i => some (.int i)
  | .str x => some (.str x)
  | .tup xs => (pdAll xs).map .tuple
  | .lst xs => (pdAll xs).map .list
  | .fz xs => (pdAll xs).map .list
  | _ => none
def pdAll : List D → Option (List PyData)
  | [] => some []
  | x :: xs => match pdOf x, pdAll xs with
    | some d, some ds => some (d :: ds)
    | _, _ => none
end
def eqDeep (a b : D) : Option Bool := match pdOf a, pdOf b with
  | some d, some e => if (SeqAt.shaped d && SeqAt.shaped e) = true then some (PyData.eqv d e) else none
  | _, _ => none
def eqD (a b : D) : Option Bool := match eqS a b with
  | some z => some z
  | none => eqDeep a b
/-- == on flat values -/
def eqF : D → D → Bool
  | .non, .non => true
  | .bl a, .bl b => a == b
  | .bl a, .int b => (if a then 1 else 0) == b
  | .int a, .bl b => a == (if b then 1 else 0)
  | .int a, .int b => a == b
  | .str a, .str b => a == b
  | _, _ => false
def memF (x : D) (ys : List D) : Option Bool := if (flatD x && ys.all flatD) = true then some (ys.any fun y => eqF y x) else none
def memDeep (x : D) (ys : List D) : Option Bool := match pdOf x, pdAll ys with
  | some d, some ds => if (SeqAt.shaped d && SeqAt.shaped (.list ds)) = true then some (ds.any fun z => PyData.eqv z d) else none
  | _, _ => none
def memD (x y : D) : Option Bool := match y with
  | .str z => match x with
    | .str i => some (!(Builtin.Str.occurrences z i 0 z.length 1).isEmpty)
    | _ => none
  | .lst ys => match memF x ys with
    | some b => some b
    | none => memDeep x ys
  | .fz ys => match memF x ys with
    | some b => some b
    | none => memDeep x ys
  | .tup ys => memF x ys
  | _ => none
def ltD : D → D → Option D
  | .int i, .int j => some (.bl (decide (i < j)))
  | _, _ => none
def leD : D → D → Option D
  | .int i, .int j => some (.bl (decide (i ≤ j)))
  | _, _ => none
def cmpD (o : CO) (a b : D) : Option D := match o with
  | .eq => (eqD a b).map .bl
  | .ne => (eqD a b).map fun z => .bl (!z)
  | .lt => ltD a b
  | .le => leD a b
  | .gt => ltD b a
  | .ge => leD b a
  | .mem => (memD a b).map .bl
  | .nmem => (memD a b).map fun z => .bl (!z)
def seqD : D → MH → Option (List D)
  | .tup xs, _ => some xs
  | .lst xs, _ => some xs
  | .fz xs, _ => some xs
  | .ref n, m => match m[n]? with
    | some (.lst xs) => some xs
    | _ => none
  | _, _ => none
def itemsD : D → Option (List D)
  | .str x => some (x.cps.toList.map fun c => .str ⟨#[c]⟩)
  | .tup xs => some xs
  | .lst xs => some xs
  | .fz xs => some xs
  | _ => none
def idxD (x y : D) (m : MH) : Option D := match y with
  | .int i => match x with
    | .str z => if z.length ≤ sizeLine then (atI z.cps.toList i).map fun c => .str ⟨#[c]⟩ else none
    | x => match seqD x m with
      | some xs => atI xs i
      | none => none
  | _ => none
/-! ### texts -/
def strsD : List D → Option (List Str)
  | [] => some []
  | .str x :: ds => (strsD ds).map (x :: ·)
  | _ :: _ => none
def joinD (x : Str) (ds : List D) : Option D := match strsD ds with
  | some ys => if (ys.map (·.length)).sum + ys.length * x.length ≤ 16777216 then some (.str (Txt.join x ys)) else none
  | none => none
def m1D (k : M1) (x : Str) (y : D) (m : MH) : Option D := match k with
  | .partition => match y with
    | .str y => if (y.length == 0) = false ∧ x.length ≤ sizeLine then some (.tup [.str (Txt.partition x y).1, .str (Txt.partition x y).2.1, .str (Txt.partition x y).2.2]) else none
    | _ => none
  | .index => match y with
    | .str y => match Builtin.Str.occurrences x y 0 x.length 1 with
      | i :: _ => some (.int (i : Nat))
      | [] => none
    | _ => none
  | .split => match y with
    | .str y => if (y.length == 0) = false ∧ x.length + 2 ≤ sizeLine then some (.lst ((Txt.split x y).map .str)) else none
    | _ => none
  | .join => match seqD y m with
    | some ds => joinD x ds
    | none => none
def fmtD : D → Option D
  | .str y => if y.length ≤ sizeLine then some (.str y) else none
  | .int i => if i.natAbs.log2 < 1920 then some (.str (toString i)) else none
  | _ => none
def revD : D → Option D
  | .lst xs => some (.lst xs.reverse)
  | .fz xs => some (.lst xs.reverse)
  | _ => none
def optI : D → Option (Option Int)
  | .non => some none
  | .int i => some (some i)
  | _ => none
def cutD (xs : List D) (lo hi : Option Int) : List D := (xs.drop (HT.sIx xs.length 0 lo)).take (HT.sIx xs.length xs.length hi - HT.sIx xs.length 0 lo)
def slD : D → Option Int → Option Int → Option D
  | .lst xs, lo, hi => some (.lst (cutD xs lo hi))
  | .fz xs, lo, hi => some (.lst (cutD xs lo hi))
  | .tup xs, lo, hi => some (.tup (cutD xs lo hi))
  | .str z, lo, hi => if z.length ≤ sizeLine then some (.str (cutS z lo hi)) else none
  | _, _, _ => none
def lenD : D → MH → Option Nat
  | .str x, _ => if x.length ≤ sizeLine then some x.length else none
  | d, m => (seqD d m).map List.length
def blsD : List D → Option (List Bool)
  | [] => some []
  | .bl b :: ds => (blsD ds).map (b :: ·)
  | _ :: _ => none
def intsD : List D → Option (List Int)
  | [] => some []
  | .int i :: ds => (intsD ds).map (i :: ·)
  | _ :: _ => none
def lenB : List D → MH → Option D
  | [x], m => (lenD x m).map fun n => .int n
  | _, _ => none
def intB : List D → Option D
  | [.int i] => some (.int i)
  | [.bl b] => some (.int (if b then 1 else 0))
  | _ => none
def absB : List D → Option D
  | [.int i] => some (.int (if i < 0 then -i else i))
  | _ => none
def allB : List D → Option D
  | [.lst xs] => (blsD xs).map fun bs => .bl (bs.all id)
  | _ => none
def anyB : List D → Option D
  | [.lst xs] => (blsD xs).map fun bs => .bl (bs.any id)
  | _ => none
def listB : List D → MH → Option D
  | [x], m => (seqD x m).map .lst
  | _, _ => none
def tupleB : List D → MH → Option D
  | [.tup xs], _ => some (.tup xs)
  | [.lst xs], _ => some (.tup xs)
  | _, _ => none
def strB : List D → Option D
  | [.int i] => if i.natAbs.log2 < 1920 then some (.str (toString i)) else none
  | _ => none
def sumB : List D → Option D
  | [.lst xs] => (intsD xs).map fun ns => .int ns.sum
  | _ => none
def maxB : List D → Option D
  | [.int i, .int j] => some (.int (if j > i then j else i))
  | _ => none
def minB : List D → Option D
  | [.int i, .int j] => some (.int (if j < i then j else i))
  | _ => none
def bltD (b : Bl) (ds : List D) (m : MH) : Option D := match b with
  | .len => lenB ds m
  | .int_ => intB ds
  | .abs => absB ds
  | .all => allB ds
  | .any => anyB ds
  | .list => listB ds m
  | .tuple => tupleB ds m
  | .str => strB ds
  | .sum => sumB ds
  | .max2 => maxB ds
  | .min2 => minB ds
def isTy : D → MH → Ty → Option Bool
  | _, _, .cls _ => none
  | .non, _, _ => some false
  | .int _, _, t => some (match t with | .int => true | _ => false)
  | .bl _, _, t => some (match t with | .int => true | .bool => true | _ => false)
  | .str _, _, t => some (match t with | .str => true | _ => false)
  | .tup _, _, t => some (match t with | .tuple => true | _ => false)
  | .lst _, _, t => some (match t with | .list => true | _ => false)
  | .fz _, _, t => some (match t with | .list => true | _ => false)
  | .dct _ _, _, t => some (match t with | .dict => true | _ => false)
  | .ins _ _ _, _, _ => none
  | .ref n, m, t => match m[n]? with
    | some (.lst _) => some (match t with | .list => true | _ => false)
    | some (.dct _ _) => some (match t with | .dict => true | _ => false)
    | _ => none
def isTys (x : D) (m : MH) : List Ty → Option Bool
  | [] => some false
  | t :: ts => match isTy x m t with
    | some true => some true
    | some false => isTys x m ts
    | none => none
def whyR (wd : Exn → Option D) : R D → R D
  | .ok d m1 => .ok (.tup [.str "", d]) m1
  | .exc x m1 => match wd x with
    | some d => .ok d m1
    | none => .bad
  | .bad => .bad
def wipeF (fr : Fr) : List Nat → Fr
  | [] => fr
  | v :: vs => (wipeF fr vs).set v none
mutual
def tgD : Tg → D → Fr → Option Fr
  | .nm i, d, fr => some (fr.set i (some (.val d)))
  | .tup ts, .tup ds, fr => tgDs ts ds fr
  | .tup ts, .lst ds, fr => tgDs ts ds fr
  | _, _, _ => none
def tgDs : List Tg → List D → Fr → Option Fr
  | [], [], fr => some fr
  | t :: ts, d :: ds, fr => (tgD t d fr).bind (tgDs ts ds)
  | _, _, _ => none
end
def optR (o : Option D) (m : MH) : R D := match o with
  | some d => .ok d m
  | none => .bad
@[simp] theorem optR_some (d : D) (m : MH) : optR (some d) m = .ok d m := rfl
@[simp] theorem optR_none (m : MH) : optR none m = .bad := rfl
def isOk {α : Type} : R α → R α
  | .ok a m => .ok a m
  | _ => .bad
/-- the tests of a comprehension -/
def condGo : List (Fr → MH → R D) → Fr → MH → R Bool
  | [], _, m => .ok true m
  | c :: cs, fr, m => (isOk (c fr m)).bind fun x m1 => match truD x with
    | some true => condGo cs fr m1
    | some false => .ok false m1
    | none => .bad
mutual
def slots : Tg → List Nat
  | .nm i => [i]
  | .tup ts => slotss ts
def slotss : List Tg → List Nat
  | [] => []
  | t :: ts => slots t ++ slotss ts
end
def compGo (vs : List Nat) (tg : Tg) (cs : List (Fr → MH → R D)) (el : Fr → MH → R D) (fr : Fr) : List D → List D → MH → R (List D)
  | [], acc, m => .ok acc m
  | d :: ds, acc, m => match tgD tg d (wipeF fr vs) with
    | none => .bad
    | some fr2 => (condGo cs fr2 m).bind fun b m1 => if b then (isOk (el fr2 m1)).bind fun y m2 => if acc.length < sizeLine then compGo vs tg cs el fr ds (acc ++ [y]) m2 else .bad else compGo vs tg cs el fr ds acc m1
def rngI (lo hi : Int) : Option (List D) :=
  if -(2 ^ 62) ≤ lo ∧ lo < 2 ^ 62 ∧ -(2 ^ 62) ≤ hi ∧ hi < 2 ^ 62 then some ((List.range (hi - lo).toNat).map fun (n : Nat) => .int (lo + (n : Int))) else none
def rngD : D → D → Option (List D)
  | .int i, .int j => rngI i j
  | _, _ => none

def pairD (p : D × D) : D := .tup [p.1, p.2]
def zipD : D → D → Option (List D)
  | .tup xs, .tup ys => some ((xs.zip ys).map pairD)
  | .lst xs, .lst ys => some ((xs.zip ys).map pairD)
  | _, _ => none
/-! ### the meaning -/
section
variable (G : Gt)
mutual
def ev : E → Fr → MH → R D
  | .k d, _, m => .ok d m
  | .loc i, fr, m => match fr[i]? with
    | some (some (.val d)) => .ok d m
    | _ => .bad
  | .cst g, _, m => .ok (G.cst g) m
  | .bin o a b, fr, m => (ev a fr m).bind fun x m1 => (ev b fr m1).bind fun y m2 => optR (binD o x y) m2
  | .neg a, fr, m => (ev a fr m).bind fun x m1 => match x with
    | .int i => .ok (.int (-i)) m1
    | _ => .bad
  | .cmp o a b, fr, m => (ev a fr m).bind fun x m1 => (ev b fr m1).bind fun y m2 => optR (cmpD o x y) m2
  | .chain o p a b c, fr, m => (ev a fr m).bind fun x m1 => (ev b fr m1).bind fun y m2 => match cmpD o x y with
    | some (.bl true) => (ev c fr m2).bind fun z m3 => optR (cmpD p y z) m3
    | some (.bl false) => .ok (.bl false) m2
    | _ => .bad
  | .isN a, fr, m => (ev a fr m).bind fun x m1 => .ok (.bl (isNonD x)) m1
  | .notN a, fr, m => (ev a fr m).bind fun x m1 => .ok (.bl (!isNonD x)) m1
  | .andv a b, fr, m => (ev a fr m).bind fun x m1 => match truD x with
    | some true => ev b fr m1
    | some false => .ok x m1
    | none => .bad
  | .orv a b, fr, m => (ev a fr m).bind fun x m1 => match truD x with
    | some true => .ok x m1
    | some false => ev b fr m1
    | none => .bad
  | .notv a, fr, m => (ev a fr m).bind fun x m1 => match truD x with
    | some t => .ok (.bl (!t)) m1
    | none => .bad
  | .ite c a b, fr, m => (ev c fr m).bind fun x m1 => match truD x with
    | some true => ev a fr m1
    | some false => ev b fr m1
    | none => .bad
  | .tup es, fr, m => (evs es fr m).bind fun ds m1 => if ds.length ≤ sizeLine then .ok (.tup ds) m1 else .bad
  | .lst es, fr, m => (evs es fr m).bind fun ds m1 => if ds.length ≤ sizeLine then .ok (.lst ds) m1 else .bad
  | .idx a i, fr, m => (ev a fr m).bind fun x m1 => (ev i fr m1).bind fun y m2 => optR (idxD x y m2) m2
  | .sl a lo hi, fr, m => (ev a fr m).bind fun x m1 => (ev lo fr m1).bind fun l m2 => match optI l with
    | some l => (ev hi fr m2).bind fun h m3 => match optI h with
      | some h => optR (slD x l h) m3
      | none => .bad
    | none => .bad
  | .fld a f, fr, m => (ev a fr m).bind fun x m1 => match x with
    | .ins _ ns ds => match (ns.zip ds).lookup f with
      | some d => .ok d m1
      | none => .bad
    | _ => .bad
  | .call f es, fr, m => (evs es fr m).bind fun ds m1 => G.fn f ds m1
  | .callK f b es ks, fr, m => (evs es fr m).bind fun ds m1 => (evs ks fr m1).bind fun zs m2 => match G.bnd b ds zs with
    | some as => G.fn f as m2
    | none => .bad
  | .blt b es, fr, m => (evs es fr m).bind fun ds m1 => optR (bltD b ds m1) m1
  | .isi a ts, fr, m => (ev a fr m).bind fun x m1 => optR ((isTys x m1 ts).map .bl) m1
  | .prt a, fr, m => (ev a fr m).bind fun x m1 => match x with
    | .int i => .ok (.int i) m1
    | _ => .bad
  | .comp vs tg it cs el, fr, m => (ev it fr m).bind fun x m1 => match itemsD x with
    | some xs => (compGo vs tg (evc cs) (ev el) fr xs [] m1).bind fun ys m2 => .ok (.lst ys) m2
    | none => .bad
  | .rng1 b, fr, m => (ev b fr m).bind fun y m1 => match rngD (.int 0) y with
    | some xs => .ok (.lst xs) m1
    | none => .bad
  | .rng2 a b, fr, m => (ev a fr m).bind fun x m1 => (ev b fr m1).bind fun y m2 => match rngD x y with
    | some xs => .ok (.lst xs) m2
    | none => .bad
  | .zip a b, fr, m => (ev a fr m).bind fun x m1 => (ev b fr m1).bind fun y m2 => match zipD x y with
    | some xs => .ok (.lst xs) m2
    | none => .bad
  | .why b, fr, m => whyR G.why (ev b fr m)
  | .m1 k a b, fr, m => (ev a fr m).bind fun x m1 => match x with
    | .str z => (ev b fr m1).bind fun y m2 => optR (m1D k z y m2) m2
    | _ => .bad
  | .fmt a, fr, m => (ev a fr m).bind fun x m1 => optR (fmtD x) m1
  | .fs es, fr, m => evf es Str.empty fr m
  | .rev a, fr, m => (ev a fr m).bind fun x m1 => optR (revD x) m1
/-- the parts of an f-string, one behind the other -/
def evf : List E → Str → Fr → MH → R D
  | [], acc, _, m => .ok (.str acc) m
  | e :: es, acc, fr, m => (ev e fr m).bind fun x m1 => match x with
    | .str y => if (acc ++ y).length ≤ sizeLine then evf es (acc ++ y) fr m1 else .bad
    | _ => .bad
def evs : List E → Fr → MH → R (List D)
  | [], _, m => .ok [] m
  | e :: es, fr, m => (ev e fr m).bind fun x m1 => (evs es fr m1).bind fun xs m2 => .ok (x :: xs) m2
def evc : List E → List (Fr → MH → R D)
  | [] => []
  | e :: es => ev e :: evc es
end
end
end Mp
end
section
set_option Elab.async false
set_option linter.all false
set_option maxRecDepth 100000
set_option maxHeartbeats 1000000
/-! MpSound: the meaning is what the machine does (expressions). -/
namespace Mp
open PySem PySem.Spec PyProof.Rows L2

/-- what a slot bears -/
def RSl (S : Sta) (ow : Addr → Prop) (io : List Addr) (H : Hp) : Sl → V → Prop
  | .val d, v => RV S ow io H d v
  | .olst xs, v => ∃ a vs, v = .ref a ∧ H a = some (.lst vs) ∧ RVs S ow io H xs vs ∧ ow a ∧ a ∉ io
/-- the frame's slots -/
def RF (S : Sta) (ow : Addr → Prop) (io : List Addr) (H : Hp) (fr : Fr) (σ : L2.St) : Prop :=
  fr.length ≤ σ.length ∧ ∀ (i : Nat) (d : Sl), fr[i]? = some (some d) → ∃ v, σ[i]? = some (some v) ∧ RSl S ow io H d v
/-- fields -/
def RFs (S : Sta) (ow : Addr → Prop) (io : List Addr) (H : Hp) (ns : List Nat) (ds : List D) (fs : List (Str × V)) : Prop :=
  fs.map (·.1) = ns.map S.nm ∧ RVs S ow io H ds (fs.map (·.2))
/-- all that is known -/
structure Rp (S : Sta) (ow : Addr → Prop) (io : List Addr) (H : Hp) (fr : Fr) (m : MH) (σ : L2.St) : Prop where
  h : RH S ow io H m
  f : RF S ow io H fr σ
  o : ∀ a, ow a → ¬ NT H a
/-- what is wanted of an answer -/
def Post (S : Sta) (W : WX) (ow : Addr → Prop) (io : List Addr) (H : Hp) (σ : L2.St) (Q : VK) : R D → Prop
  | .ok d m' => ∀ io' H' v, Ex io H io' H' → RH S ow io' H' m' → RV S ow io' H' d v → Q v H'
  | .exc x m' => ∀ io' H' dx fs, Ex io H io' H' → RH S ow io' H' m' → H' dx = some (.xd fs) → dx ∉ io' → ¬ ow dx → RFs S ow io' H' x.ns x.ds fs → W (.ref (S.ca x.c)) (some dx) σ H'
  | .bad => False
/-- the same of a list of answers -/
def Posts (S : Sta) (W : WX) (ow : Addr → Prop) (io : List Addr) (H : Hp) (σ : L2.St) (Q : List V → Hp → Prop) : R (List D) → Prop
  | .ok ds m' => ∀ io' H' vs, Ex io H io' H' → RH S ow io' H' m' → RVs S ow io' H' ds vs → Q vs H'
  | .exc x m' => ∀ io' H' dx fs, Ex io H io' H' → RH S ow io' H' m' → H' dx = some (.xd fs) → dx ∉ io' → ¬ ow dx → RFs S ow io' H' x.ns x.ds fs → W (.ref (S.ca x.c)) (some dx) σ H'
  | .bad => False
abbrev Fe := Fr → MH → R D
abbrev Fes := Fr → MH → R (List D)
/-- the reading of an expression that means f -/
def tR (S : Sta) (W : WX) (f : Fe) : TE := fun σ H Q => ∃ ow io fr m, Rp S ow io H fr m σ ∧ Post S W ow io H σ Q (f fr m)
def tRs (S : Sta) (W : WX) (f : Fes) : TA := fun σ H Q => ∃ ow io fr m, Rp S ow io H fr m σ ∧ Posts S W ow io H σ Q (f fr m)
/-- of a test -/
def tB' (S : Sta) (W : WX) (f : Fe) : TT := fun σ H Q => ∃ ow io fr m, Rp S ow io H fr m σ ∧ Post S W ow io H σ (fun v H' => ∀ b, v = .bl b → Q b H') ((f fr m).bind fun x m1 => match truD x with | some b => .ok (.bl b) m1 | none => .bad)

theorem PE.imp {X : Cx} {e : Expr} {t t' : TE} (h : PE X e t) (i : ∀ σ H Q, t' σ H Q → t σ H Q) : PE X e t' := ⟨fun pins s σ H Q I q => h.run pins s σ H Q I (i _ _ _ q)⟩
theorem PT.imp {X : Cx} {e : Expr} {t t' : TT} (h : PT X e t) (i : ∀ σ H Q, t' σ H Q → t σ H Q) : PT X e t' := ⟨fun pins s σ H Q I q => h.run pins s σ H Q I (i _ _ _ q)⟩
theorem PA.imp {X : Cx} {es : List Expr} {t t' : TA} (h : PA X es t) (i : ∀ σ H Q, t' σ H Q → t σ H Q) : PA X es t' := ⟨fun p pins s σ H Q I q => h.run p pins s σ H Q I (i _ _ _ q)⟩
theorem PS.imp {X : Cx} {e : Stmt} {t t' : TS} (h : PS X e t) (i : ∀ D σ H, t' D σ H → t D σ H) : PS X e t' := ⟨fun pins s σ H D I q => h.run pins s σ H D I (i _ _ _ q)⟩
theorem PSs.imp {X : Cx} {e : List Stmt} {t t' : TS} (h : PSs X e t) (i : ∀ D σ H, t' D σ H → t D σ H) : PSs X e t' := ⟨fun pins s σ H D I q => h.run pins s σ H D I (i _ _ _ q)⟩

section
variable {S : Sta} {W : WX} {ow : Addr → Prop} {io io1 : List Addr} {H H1 : Hp} {σ : L2.St} {Q : VK} {fr : Fr} {m m1 : MH}
theorem RSl.ex {s : Sl} {v : V} (x : Ex io H io1 H1) (o : ∀ a, ow a → ¬ NT H a) (h : RSl S ow io H s v) : RSl S ow io1 H1 s v := by
  cases s with
  | val d => exact RV.ex x h
  | olst xs =>
    obtain ⟨a, vs, rfl, g1, g2, g3, g4⟩ := h
    refine ⟨a, vs, rfl, x.keep a _ g1 True.intro g4, g2.ex x, g3, fun z => o a g3 (x.new a z g4)⟩
theorem Rp.ex (r : Rp S ow io H fr m σ) (x : Ex io H io1 H1) (h : RH S ow io1 H1 m1) : Rp S ow io1 H1 fr m1 σ :=
  ⟨h, ⟨r.f.1, fun i d e => let ⟨v, e1, q⟩ := r.f.2 i d e; ⟨v, e1, q.ex x r.o⟩⟩, fun a o z => r.o a o (x.dom a z)⟩
theorem Post.move {r : R D} (p : Post S W ow io H σ Q r) (x : Ex io H io1 H1) : Post S W ow io1 H1 σ Q r := by
  cases r with
  | ok d m' => exact fun io' H' v y h q => p io' H' v (x.trans y) h q
  | exc e m' => exact fun io' H' dx fs y h a b c d => p io' H' dx fs (x.trans y) h a b c d
  | bad => exact p
theorem Posts.move {Q : List V → Hp → Prop} {r : R (List D)} (p : Posts S W ow io H σ Q r) (x : Ex io H io1 H1) : Posts S W ow io1 H1 σ Q r := by
  cases r with
  | ok d m' => exact fun io' H' v y h q => p io' H' v (x.trans y) h q
  | exc e m' => exact fun io' H' dx fs y h a b c d => p io' H' dx fs (x.trans y) h a b c d
  | bad => exact p
/-- one part, then the rest -/
theorem Post.seq {r : R D} {k : D → MH → R D} {Q1 : VK} (p : Post S W ow io H σ Q (r.bind k))
    (st : ∀ x m1 io1 H1 v, Ex io H io1 H1 → RH S ow io1 H1 m1 → RV S ow io1 H1 x v → Post S W ow io1 H1 σ Q (k x m1) → Q1 v H1) : Post S W ow io H σ Q1 r := by
  cases r with
  | ok d m' => exact fun io' H' v y h q => st d m' io' H' v y h q (p.move y)
  | exc e m' => exact p
  | bad => exact p
theorem Post.seqs {r : R (List D)} {k : List D → MH → R D} {Q1 : List V → Hp → Prop} (p : Post S W ow io H σ Q (r.bind k))
    (st : ∀ x m1 io1 H1 v, Ex io H io1 H1 → RH S ow io1 H1 m1 → RVs S ow io1 H1 x v → Post S W ow io1 H1 σ Q (k x m1) → Q1 v H1) : Posts S W ow io H σ Q1 r := by
  cases r with
  | ok d m' => exact fun io' H' v y h q => st d m' io' H' v y h q (p.move y)
  | exc e m' => exact p
  | bad => exact p
theorem Posts.seq {r : R D} {k : D → MH → R (List D)} {Q : List V → Hp → Prop} {Q1 : VK} (p : Posts S W ow io H σ Q (r.bind k))
    (st : ∀ x m1 io1 H1 v, Ex io H io1 H1 → RH S ow io1 H1 m1 → RV S ow io1 H1 x v → Posts S W ow io1 H1 σ Q (k x m1) → Q1 v H1) : Post S W ow io H σ Q1 r := by
  cases r with
  | ok d m' => exact fun io' H' v y h q => st d m' io' H' v y h q (p.move y)
  | exc e m' => exact p
  | bad => exact p
theorem Posts.seqs {r : R (List D)} {k : List D → MH → R (List D)} {Q Q1 : List V → Hp → Prop} (p : Posts S W ow io H σ Q (r.bind k))
    (st : ∀ x m1 io1 H1 v, Ex io H io1 H1 → RH S ow io1 H1 m1 → RVs S ow io1 H1 x v → Posts S W ow io1 H1 σ Q (k x m1) → Q1 v H1) : Posts S W ow io H σ Q1 r := by
  cases r with
  | ok d m' => exact fun io' H' v y h q => st d m' io' H' v y h q (p.move y)
  | exc e m' => exact p
  | bad => exact p
/-- an answer that is here -/
theorem Post.here {d : D} {v : V} (p : Post S W ow io H σ Q (.ok d m)) (h : RH S ow io H m) (q : RV S ow io H d v) : Q v H := p io H v (.refl _ _) h q
/-- an answer that is laid anew -/
theorem Post.laid {d : D} {a : Addr} {o : HO} (p : Post S W ow io H σ Q (.ok d m)) (h : RH S ow io H m) (hp : H a = none) (q : RV S ow io (upd H a o) d (.ref a)) : Q (.ref a) (upd H a o) :=
  p io _ _ (.fresh hp) (h.fresh hp) q
end

/-! ### what data bear, kind by kind -/
section
variable {S : Sta} {ow : Addr → Prop} {io : List Addr} {H : Hp} {v : V}
theorem RV.of_int {i : Int} (h : RV S ow io H (.int i) v) : v = .int i := by unfold RV at h; exact h
theorem RV.of_bl {b : Bool} (h : RV S ow io H (.bl b) v) : v = .bl b := by unfold RV at h; exact h
theorem RV.of_str {x : Str} (h : RV S ow io H (.str x) v) : v = .str x := by unfold RV at h; exact h
theorem RV.of_non (h : RV S ow io H .non v) : v = .non := by unfold RV at h; exact h
theorem RV.mk_int {i : Int} : RV S ow io H (.int i) (.int i) := by unfold RV; rfl
theorem RV.mk_bl {b : Bool} : RV S ow io H (.bl b) (.bl b) := by unfold RV; rfl
theorem RV.mk_str {x : Str} : RV S ow io H (.str x) (.str x) := by unfold RV; rfl
theorem RV.mk_non : RV S ow io H .non .non := by unfold RV; rfl
theorem RV.of_tup {xs : List D} (h : RV S ow io H (.tup xs) v) : ∃ a vs, v = .ref a ∧ SqT S.K H a vs ∧ RVs S ow io H xs vs := by
  unfold RV at h
  obtain ⟨a, vs, e, r, q⟩ := h
  exact ⟨a, vs, e, r.imp (fun z => z.1) id, q⟩
theorem RV.of_lst {xs : List D} (h : RV S ow io H (.lst xs) v) : ∃ a vs, v = .ref a ∧ H a = some (.lst vs) ∧ RVs S ow io H xs vs := by
  unfold RV at h
  obtain ⟨a, vs, e, r, q⟩ := h
  exact ⟨a, vs, e, r.1, q⟩
theorem RV.of_fz {xs : List D} (h : RV S ow io H (.fz xs) v) : ∃ a vs, v = .ref a ∧ SqL S.K H a vs ∧ RVs S ow io H xs vs := by
  unfold RV at h
  obtain ⟨a, vs, e, r, q⟩ := h
  exact ⟨a, vs, e, r.imp (fun z => z.1) id, q⟩
theorem RV.of_dct {ks : List Key} {xs : List D} (h : RV S ow io H (.dct ks xs) v) : ∃ a kvs, v = .ref a ∧ H a = some (.dK kvs) ∧ kvs.map (·.1) = ks ∧ RVs S ow io H xs (kvs.map (·.2)) := by
  unfold RV at h
  obtain ⟨a, vs, e, r, q⟩ := h
  exact ⟨a, vs, e, r.1, q⟩
theorem RV.of_ins {C : Nat} {ns : List Nat} {xs : List D} (h : RV S ow io H (.ins C ns xs) v) : ∃ a dx fs, v = .ref a ∧ H a = some (.ins (S.ca C) dx fs) ∧ RFs S ow io H ns xs fs := by
  unfold RV at h
  obtain ⟨a, dx, fs, e, r, q1, q⟩ := h
  exact ⟨a, dx, fs, e, r.1, q1, q⟩
theorem RV.of_ref {m : MH} {n : Nat} (h : RV S ow io H (.ref n) v) (r : RH S ow io H m) {o : MO} (e : m[n]? = some o) : ∃ a, v = .ref a ∧ io[n]? = some a ∧ RO S ow io H a o := by
  unfold RV at h
  obtain ⟨a, e1, e2⟩ := h
  obtain ⟨b, q1, q2, _⟩ := r.at_ n o e
  rw [e2] at q1
  cases q1
  exact ⟨a, e1, e2, q2⟩
theorem notOwned {m : MH} {fr : Fr} {σ : L2.St} (r : Rp S ow io H fr m σ) {p : Addr} (hp : H p = none) : p ∉ io ∧ ¬ ow p := ⟨fun z => (r.h.mem z).1 (.of hp), fun z => r.o p z (.of hp)⟩
theorem RV.mk_tup {xs : List D} {vs : List V} {p : Addr} (hp : H p = none) (n : p ∉ io ∧ ¬ ow p) (h : RVs S ow io H xs vs) : RV S ow io (upd H p (.tup vs)) (.tup xs) (.ref p) := by
  unfold RV
  exact ⟨p, vs, rfl, .inl ⟨.inl upd_same, n⟩, h.ex (.fresh hp)⟩
theorem RV.mk_lst {xs : List D} {vs : List V} {p : Addr} (hp : H p = none) (n : p ∉ io ∧ ¬ ow p) (h : RVs S ow io H xs vs) : RV S ow io (upd H p (.lst vs)) (.lst xs) (.ref p) := by
  unfold RV
  exact ⟨p, vs, rfl, ⟨upd_same, n⟩, h.ex (.fresh hp)⟩
theorem RVs.isEmpty {xs : List D} {vs : List V} (h : RVs S ow io H xs vs) : (!xs.isEmpty) = !vs.isEmpty := by
  cases xs with
  | nil => unfold RVs at h; subst h; rfl
  | cons d ds => unfold RVs at h; obtain ⟨v, r, rfl, _⟩ := h; rfl
theorem RV.tru {d : D} {b : Bool} (h : RV S ow io H d v) (e : truD d = some b) : TruV S.K v H b := by
  cases d with
  | non => cases h.of_non; cases e; rfl
  | bl x => cases h.of_bl; cases e; rfl
  | int i => cases h.of_int; cases e; rfl
  | str x =>
    cases h.of_str
    simp only [truD] at e
    split at e
    · rename_i hl
      exact ⟨hl, (Option.some.inj e).symm⟩
    · cases e
  | tup xs =>
    obtain ⟨a, vs, rfl, r, q⟩ := h.of_tup
    cases e
    exact .inr (.inl ⟨vs, r, q.isEmpty⟩)
  | lst xs =>
    obtain ⟨a, vs, rfl, r, q⟩ := h.of_lst
    cases e
    exact .inl ⟨vs, .of r, q.isEmpty⟩
  | dct ks xs =>
    obtain ⟨a, kvs, rfl, r, e1, q⟩ := h.of_dct
    cases e
    refine .inr (.inr ⟨kvs, r, ?_⟩)
    rw [← e1]
    cases kvs <;> rfl
  | fz xs => cases e
  | ins C ns ds => cases e
  | ref n => cases e
/-- an item -/
theorem atI_rv {xs : List D} {vs : List V} {i : Int} {d : D} (h : RVs S ow io H xs vs) (e : atI xs i = some d) : ∃ v, atI vs i = some v ∧ RV S ow io H d v := by
  unfold atI at e ⊢
  rw [← h.length]
  cases q : ixN xs.length i with
  | none => rw [q] at e; cases e
  | some j =>
    rw [q] at e
    exact h.get e
theorem RVs.rep {xs : List D} {vs : List V} (h : RVs S ow io H xs vs) : ∀ k : Nat, RVs S ow io H (List.replicate k xs).flatten (List.replicate k vs).flatten
  | 0 => .nil
  | k + 1 => by
    rw [List.replicate_succ, List.replicate_succ, List.flatten_cons, List.flatten_cons]
    exact h.append (RVs.rep h k)
theorem cutD_rv {xs : List D} {vs : List V} {lo hi : Option Int} (h : RVs S ow io H xs vs) : RVs S ow io H (cutD xs lo hi) (cutV vs lo hi) := by
  unfold cutD cutV
  rw [h.length]
  exact (h.drop _).take _
end

/-! ### expressions -/
section
variable {X : Cx} {S : Sta} {W : WX} {a b c : Expr} {fa fb fc : Fe} {pos : Pos}
/-- X stands over S -/
structure Ov (S : Sta) (X : Cx) : Prop where
  P : X.prog = S.P
  w : X.w = S.w
  K : X.K = S.K
  mg : X.mg = S.mg
  base : X.base = S.base
abbrev SE (X : Cx) (S : Sta) (W : WX) (e : Expr) (f : Fe) : Prop := PE X e (tR S W f)
theorem se_k_int {i : Int} {j : Nat} : SE X S W (.Constant (.int i) j pos) (fun _ m => .ok (.int i) m) :=
  PE.imp pe_int fun σ H Q ⟨ow, io, fr, m, r, p⟩ => p.here r.h .mk_int
theorem se_k_bl {i : Bool} {j : Nat} : SE X S W (.Constant (.bool i) j pos) (fun _ m => .ok (.bl i) m) :=
  PE.imp pe_bl fun σ H Q ⟨ow, io, fr, m, r, p⟩ => p.here r.h .mk_bl
theorem se_k_str {i : Str} {j : Nat} : SE X S W (.Constant (.str i) j pos) (fun _ m => .ok (.str i) m) :=
  PE.imp pe_str fun σ H Q ⟨ow, io, fr, m, r, p⟩ => p.here r.h .mk_str
theorem se_k_non {j : Nat} : SE X S W (.Constant .none j pos) (fun _ m => .ok .non m) :=
  PE.imp pe_non fun σ H Q ⟨ow, io, fr, m, r, p⟩ => p.here r.h .mk_non
theorem se_loc {i : Nat} {x : Str} (hN : X.N[i]? = some x) (hv : Vis X.env.scope x) (hd : (x == ("__debug__" : Str)) = false) (hcd : (x == ("__classdict__" : Str)) = false) :
    SE X S W (.Name x pos) (fun fr m => match fr[i]? with | some (some (.val d)) => .ok d m | _ => .bad) := by
  refine PE.imp (pe_var hN hv hd hcd) fun σ H Q ⟨ow, io, fr, m, r, p⟩ => ?_
  dsimp only at p
  split at p
  · rename_i d e
    obtain ⟨v, e1, q⟩ := r.f.2 i _ e
    exact ⟨v, e1, p.here r.h q⟩
  · exact p.elim
theorem op2i {g : D → D → MH → R D} {r : R2}
    (hg : ∀ ow io H fr m σ x y v u Q, Rp S ow io H fr m σ → RV S ow io H x v → RV S ow io H y u → Post S W ow io H σ Q (g x y m) → r v u H Q) {σ : L2.St} {H : Hp} {Q : VK}
    (h : tR S W (fun fr m => (fa fr m).bind fun x m1 => (fb fr m1).bind fun y m2 => g x y m2) σ H Q) : tOp r (tR S W fa) (tR S W fb) σ H Q := by
  obtain ⟨ow, io, fr, m, rp, p⟩ := h
  refine ⟨ow, io, fr, m, rp, p.seq fun x m1 io1 H1 v x1 h1 v1 p1 => ?_⟩
  refine ⟨ow, io1, fr, m1, rp.ex x1 h1, p1.seq fun y m2 io2 H2 u x2 h2 u2 p2 => ?_⟩
  exact hg ow io2 H2 fr m2 σ x y v u Q ((rp.ex x1 h1).ex x2 h2) (v1.ex x2) u2 p2
/-- two parts and an operator -/
theorem op2 {g : D → D → MH → R D} {r : R2} {e : Expr} (h : PE X e (tOp r (tR S W fa) (tR S W fb)))
    (hg : ∀ ow io H fr m σ x y v u Q, Rp S ow io H fr m σ → RV S ow io H x v → RV S ow io H y u → Post S W ow io H σ Q (g x y m) → r v u H Q) :
    SE X S W e (fun fr m => (fa fr m).bind fun x m1 => (fb fr m1).bind fun y m2 => g x y m2) := PE.imp h fun σ H Q q => op2i hg q
/-- one part -/
theorem op1 {g : D → MH → R D} {r : V → Hp → VK → Prop} {e : Expr} (h : PE X e (tUn r (tR S W fa)))
    (hg : ∀ ow io H fr m σ x v Q, Rp S ow io H fr m σ → RV S ow io H x v → Post S W ow io H σ Q (g x m) → r v H Q) :
    SE X S W e (fun fr m => (fa fr m).bind fun x m1 => g x m1) := by
  refine PE.imp h fun σ H Q ⟨ow, io, fr, m, rp, p⟩ => ?_
  refine ⟨ow, io, fr, m, rp, p.seq fun x m1 io1 H1 v x1 h1 v1 p1 => ?_⟩
  exact hg ow io1 H1 fr m1 σ x v Q (rp.ex x1 h1) v1 p1
def boOp : BO → Operator
  | .add => .Add | .sub => .Sub | .mul => .Mult | .fdiv => .FloorDiv | .mod => .Mod | .pow => .Pow
/-- the operators by values -/
theorem bo_ok (o : BO) : ∃ r, OpR X (binaryOp (boOp o)) r ∧
    ∀ ow io H fr m σ x y v u Q, Rp S ow io H fr m σ → RV S ow io H x v → RV S ow io H y u → Post S W ow io H σ Q (optR (binD o x y) m) → r v u H Q := by
  cases o with
  | add =>
    refine ⟨_, op_add.or (op_add_str.or op_cat), fun ow io H fr m σ x y v u Q rp hx hy p => ?_⟩
    simp only [binD] at p
    unfold addD at p
    split at p
    · cases hx.of_int; cases hy.of_int
      exact .inl ⟨_, _, rfl, rfl, p.here rp.h .mk_int⟩
    · split at p
      · rename_i hl
        cases hx.of_str; cases hy.of_str
        exact .inr (.inl ⟨_, _, rfl, rfl, hl, p.here rp.h .mk_str⟩)
      · exact p.elim
    · split at p
      · rename_i hl
        obtain ⟨a, vs, rfl, ha, qa⟩ := hx.of_lst
        obtain ⟨b, us, rfl, hb, qb⟩ := hy.of_lst
        rw [qa.length, qb.length] at hl
        exact .inr (.inr ⟨a, b, vs, us, rfl, rfl, ha, hb, hl, fun q hq => p.laid rp.h hq (.mk_lst hq (notOwned rp hq) (qa.append qb))⟩)
      · exact p.elim
    · exact p.elim
  | sub =>
    refine ⟨_, op_sub, fun ow io H fr m σ x y v u Q rp hx hy p => ?_⟩
    simp only [binD] at p
    unfold subD at p
    split at p
    · cases hx.of_int; cases hy.of_int
      exact ⟨_, _, rfl, rfl, p.here rp.h .mk_int⟩
    · exact p.elim
  | mul =>
    refine ⟨_, op_mulW.or op_rep, fun ow io H fr m σ x y v u Q rp hx hy p => ?_⟩
    simp only [binD] at p
    unfold mulD at p
    split at p
    · split at p
      · rename_i hl
        cases hx.of_int; cases hy.of_int
        unfold mulOk at hl
        rw [decide_eq_true_eq] at hl
        exact .inl ⟨_, _, rfl, rfl, hl, p.here rp.h .mk_int⟩
      · exact p.elim
    · split at p
      · rename_i hl
        obtain ⟨a, vs, rfl, ha, qa⟩ := hx.of_lst
        cases hy.of_int
        obtain ⟨h1, h2, h3⟩ := hl
        rw [qa.length] at h3
        exact .inr ⟨a, _, vs, rfl, rfl, ha, h1, h2, h3, fun q hq => p.laid rp.h hq (.mk_lst hq (notOwned rp hq) (qa.rep _))⟩
      · exact p.elim
    · exact p.elim
  | fdiv =>
    refine ⟨_, op_fdivW, fun ow io H fr m σ x y v u Q rp hx hy p => ?_⟩
    simp only [binD] at p
    unfold fdivD at p
    split at p
    · split at p
      · rename_i hl
        cases hx.of_int; cases hy.of_int
        unfold divOk at hl
        rw [Bool.and_eq_true, decide_eq_true_eq, decide_eq_true_eq] at hl
        exact ⟨_, _, rfl, rfl, hl, p.here rp.h .mk_int⟩
      · exact p.elim
    · exact p.elim
  | mod =>
    refine ⟨_, op_mod, fun ow io H fr m σ x y v u Q rp hx hy p => ?_⟩
    simp only [binD] at p
    unfold modD at p
    split at p
    · split at p
      · rename_i hl
        cases hx.of_int; cases hy.of_int
        exact ⟨_, _, rfl, rfl, hl, p.here rp.h .mk_int⟩
      · exact p.elim
    · exact p.elim
  | pow =>
    refine ⟨_, op_pow, fun ow io H fr m σ x y v u Q rp hx hy p => ?_⟩
    simp only [binD] at p
    unfold powD at p
    split at p
    · split at p
      · rename_i hl
        cases hx.of_int; cases hy.of_int
        exact ⟨_, _, rfl, rfl, hl, p.here rp.h .mk_int⟩
      · exact p.elim
    · exact p.elim
theorem se_bin (o : BO) (ha : SE X S W a fa) (hb : SE X S W b fb) : SE X S W (.BinOp a (boOp o) b pos) (fun fr m => (fa fr m).bind fun x m1 => (fb fr m1).bind fun y m2 => optR (binD o x y) m2) := by
  obtain ⟨r, h, g⟩ := bo_ok (S := S) (W := W) (X := X) o
  exact op2 (pe_op h ha hb) g
theorem se_neg (ha : SE X S W a fa) : SE X S W (.UnaryOp .USub a pos) (fun fr m => (fa fr m).bind fun x m1 => match x with | .int i => .ok (.int (-i)) m1 | _ => .bad) := by
  refine op1 (g := fun x m1 => match x with | .int i => .ok (.int (-i)) m1 | _ => .bad) (pe_un un_neg ha) fun ow io H fr m σ x v Q rp hx p => ?_
  split at p
  · cases hx.of_int
    exact ⟨_, rfl, p.here rp.h .mk_int⟩
  · exact p.elim
def coOp : CO → CmpOp
  | .eq => .Eq | .ne => .NotEq | .lt => .Lt | .le => .LtE | .gt => .Gt | .ge => .GtE | .mem => .In | .nmem => .NotIn
/-- equality of scalars -/
theorem eqS_ok {ow : Addr → Prop} {io : List Addr} {H : Hp} {x y : D} {v u : V} {z : Bool} (hx : RV S ow io H x v) (hy : RV S ow io H y u) (e : eqS x y = some z) : scal v u = true ∧ decide (v = u) = z := by
  unfold eqS at e
  split at e
  · cases hx.of_int; cases hy.of_int; cases e
    exact ⟨rfl, by rw [dec_int]; rfl⟩
  · cases hx.of_bl; cases hy.of_bl; cases e
    exact ⟨rfl, by rw [dec_bl]; exact (Bool.beq_eq_decide_eq _ _)⟩
  · cases hx.of_str; cases hy.of_str; cases e
    exact ⟨rfl, by rw [dec_str]; rfl⟩
  · cases e
theorem OpR.or {f : Value → Value → Sem Value} {r r' : R2} (a : OpR X f r) (b : OpR X f r') : OpR X f (fun x y H Q => r x y H Q ∨ r' x y H Q) := fun pins s σ H x y v u Q I rx ry h =>
  h.elim (a pins s σ H x y v u Q I rx ry) (b pins s σ H x y v u Q I rx ry)
mutual
theorem RV.dp {ow : Addr → Prop} {io : List Addr} {H : Hp} : ∀ {x : D} {v : V} {d : PyData}, RV S ow io H x v → pdOf x = some d → Dp S.K H v d
  | .non, _, _, h, e => by unfold pdOf at e; cases e; cases h.of_non; exact .non
  | .bl b, _, _, h, e => by unfold pdOf at e; cases e; cases h.of_bl; exact .bl b
  | .int i, _, _, h, e => by unfold pdOf at e; cases e; cases h.of_int; exact .int i
  | .str i, _, _, h, e => by unfold pdOf at e; cases e; cases h.of_str; exact .str i
  | .tup xs, _, _, h, e => by
    unfold pdOf at e
    obtain ⟨ds, e1, rfl⟩ := Option.map_eq_some_iff.mp e
    obtain ⟨a, vs, rfl, q1, q2⟩ := h.of_tup
    exact .tup q1 (RVs.dp q2 e1)
  | .lst xs, _, _, h, e => by
    unfold pdOf at e
    obtain ⟨ds, e1, rfl⟩ := Option.map_eq_some_iff.mp e
    obtain ⟨a, vs, rfl, q1, q2⟩ := h.of_lst
    exact .lst (.inl (.inl q1)) (RVs.dp q2 e1)
  | .fz xs, _, _, h, e => by
    unfold pdOf at e
    obtain ⟨ds, e1, rfl⟩ := Option.map_eq_some_iff.mp e
    obtain ⟨a, vs, rfl, q1, q2⟩ := h.of_fz
    exact .lst q1 (RVs.dp q2 e1)
  | .dct _ _, _, _, _, e => by unfold pdOf at e; cases e
  | .ins _ _ _, _, _, _, e => by unfold pdOf at e; cases e
  | .ref _, _, _, _, e => by unfold pdOf at e; cases e
theorem RVs.dp {ow : Addr → Prop} {io : List Addr} {H : Hp} : ∀ {xs : List D} {vs : List V} {ds : List PyData}, RVs S ow io H xs vs → pdAll xs = some ds → DpAll S.K H vs ds
  | [], _, _, h, e => by
    unfold RVs at h
    unfold pdAll at e
    cases e
    subst h
    exact .nil
  | x :: xs, _, _, h, e => by
    unfold RVs at h
    obtain ⟨v, r, rfl, q1, q2⟩ := h
    unfold pdAll at e
    split at e
    · rename_i d ds e1 e2
      cases e
      exact .cons (RV.dp q1 e1) (RVs.dp q2 e2)
    · cases e
end
theorem eqDeep_ok {ow : Addr → Prop} {io : List Addr} {H : Hp} {x y : D} {v u : V} {z : Bool} (hx : RV S ow io H x v) (hy : RV S ow io H y u) (e : eqDeep x y = some z) : ∃ d d', Dp S.K H v d ∧ Dp S.K H u d' ∧ SeqAt.shaped d = true ∧ SeqAt.shaped d' = true ∧ PyData.eqv d d' = z := by
  unfold eqDeep at e
  split at e
  · rename_i d d' e1 e2
    split at e
    · rename_i h
      rw [Bool.and_eq_true] at h
      cases e
      exact ⟨d, d', hx.dp e1, hy.dp e2, h.1, h.2, rfl⟩
    · cases e
  · cases e
theorem flat_rv {ow : Addr → Prop} {io : List Addr} {H : Hp} {x : D} {v : V} (h : RV S ow io H x v) (f : flatD x = true) : flatV v = true := by
  cases x with
  | non => cases h.of_non; rfl
  | bl b => cases h.of_bl; rfl
  | int b => cases h.of_int; rfl
  | str b => cases h.of_str; rfl
  | _ => cases f
theorem flats_rv {ow : Addr → Prop} {io : List Addr} {H : Hp} : ∀ {xs : List D} {vs : List V}, RVs S ow io H xs vs → xs.all flatD = true → vs.all flatV = true
  | [], _, h, _ => by unfold RVs at h; subst h; rfl
  | x :: xs, _, h, f => by
    unfold RVs at h
    obtain ⟨v, r, rfl, q1, q2⟩ := h
    rw [List.all_cons, Bool.and_eq_true] at f ⊢
    exact ⟨flat_rv q1 f.1, flats_rv q2 f.2⟩
theorem eqF_rv {ow : Addr → Prop} {io : List Addr} {H : Hp} {x y : D} {v u : V} (h : RV S ow io H x v) (k : RV S ow io H y u) (f : flatD x = true) (g : flatD y = true) : eqV v u = eqF x y := by
  cases x with
  | non => cases h.of_non; cases y with
    | non => cases k.of_non; rfl
    | bl b => cases k.of_bl; rfl
    | int b => cases k.of_int; rfl
    | str b => cases k.of_str; rfl
    | _ => cases g
  | bl b => cases h.of_bl; cases y with
    | non => cases k.of_non; rfl
    | bl b => cases k.of_bl; rfl
    | int b => cases k.of_int; rfl
    | str b => cases k.of_str; rfl
    | _ => cases g
  | int b => cases h.of_int; cases y with
    | non => cases k.of_non; rfl
    | bl b => cases k.of_bl; rfl
    | int b => cases k.of_int; rfl
    | str b => cases k.of_str; rfl
    | _ => cases g
  | str b => cases h.of_str; cases y with
    | non => cases k.of_non; rfl
    | bl b => cases k.of_bl; rfl
    | int b => cases k.of_int; rfl
    | str b => cases k.of_str; rfl
    | _ => cases g
  | _ => cases f
theorem inV_rv {ow : Addr → Prop} {io : List Addr} {H : Hp} {x : D} {v : V} (h : RV S ow io H x v) (f : flatD x = true) : ∀ {ys : List D} {us : List V}, RVs S ow io H ys us → ys.all flatD = true → inV v us = ys.any fun y => eqF y x
  | [], _, q, _ => by unfold RVs at q; subst q; rfl
  | y :: ys, _, q, g => by
    unfold RVs at q
    obtain ⟨u, r, rfl, q1, q2⟩ := q
    rw [List.all_cons, Bool.and_eq_true] at g
    have ih := inV_rv h f q2 g.2
    unfold inV at ih ⊢
    rw [List.any_cons, List.any_cons, ih, eqF_rv q1 h g.1 f]
theorem memF_ok {ow : Addr → Prop} {io : List Addr} {H : Hp} {x : D} {v : V} {ys : List D} {us : List V} {z : Bool} (h : RV S ow io H x v) (q : RVs S ow io H ys us) (e : memF x ys = some z) : flatV v = true ∧ us.all flatV = true ∧ inV v us = z := by
  unfold memF at e
  split at e
  · rename_i c
    rw [Bool.and_eq_true] at c
    cases e
    exact ⟨flat_rv h c.1, flats_rv q c.2, inV_rv h c.1 q c.2⟩
  · cases e
theorem memDeep_ok {ow : Addr → Prop} {io : List Addr} {H : Hp} {x : D} {v : V} {ys : List D} {us : List V} {a : Addr} {z : Bool} (h : RV S ow io H x v) (ha : SqL S.K H a us) (q : RVs S ow io H ys us) (e : memDeep x ys = some z) :
    ∃ d ds, Dp S.K H v d ∧ Dp S.K H (.ref a) (.list ds) ∧ SeqAt.shaped d = true ∧ SeqAt.shaped (.list ds) = true ∧ (ds.any fun z => PyData.eqv z d) = z := by
  unfold memDeep at e
  split at e
  · rename_i d ds e1 e2
    split at e
    · rename_i c
      rw [Bool.and_eq_true] at c
      cases e
      exact ⟨d, ds, h.dp e1, .lst ha (q.dp e2), c.1, c.2, rfl⟩
    · cases e
  · cases e
theorem mem_ok {ow : Addr → Prop} {io : List Addr} {H : Hp} {x y : D} {v u : V} {z : Bool} (hx : RV S ow io H x v) (hy : RV S ow io H y u) (e : memD x y = some z) :
    (∃ i j, v = .str i ∧ u = .str j ∧ (!(Builtin.Str.occurrences j i 0 j.length 1).isEmpty) = z) ∨ (∃ p xs, u = .ref p ∧ (SqL S.K H p xs ∨ SqT S.K H p xs) ∧ flatV v = true ∧ xs.all flatV = true ∧ inV v xs = z) ∨
      ∃ d ds, Dp S.K H v d ∧ Dp S.K H u (.list ds) ∧ SeqAt.shaped d = true ∧ SeqAt.shaped (.list ds) = true ∧ (ds.any fun z => PyData.eqv z d) = z := by
  unfold memD at e
  split at e
  · split at e
    · cases hx.of_str; cases hy.of_str; cases e
      exact .inl ⟨_, _, rfl, rfl, rfl⟩
    · cases e
  · rename_i ys
    obtain ⟨a, vs, rfl, q1, q2⟩ := hy.of_lst
    have q1 : SqL S.K H a vs := .inl (.inl q1)
    split at e
    · rename_i b e1
      cases e
      obtain ⟨h1, h2, h3⟩ := memF_ok hx q2 e1
      exact .inr (.inl ⟨a, vs, rfl, .inl q1, h1, h2, h3⟩)
    · exact .inr (.inr (memDeep_ok hx q1 q2 e))
  · rename_i ys
    obtain ⟨a, vs, rfl, q1, q2⟩ := hy.of_fz
    split at e
    · rename_i b e1
      cases e
      obtain ⟨h1, h2, h3⟩ := memF_ok hx q2 e1
      exact .inr (.inl ⟨a, vs, rfl, .inl q1, h1, h2, h3⟩)
    · exact .inr (.inr (memDeep_ok hx q1 q2 e))
  · rename_i ys
    obtain ⟨a, vs, rfl, q1, q2⟩ := hy.of_tup
    obtain ⟨h1, h2, h3⟩ := memF_ok hx q2 e
    exact .inr (.inl ⟨a, vs, rfl, .inr q1, h1, h2, h3⟩)
  · cases e
theorem co_ok (hu : X.A.units + 65 < cLine) (ov : Ov S X) (o : CO) : ∃ r, OpR X (compareOp (coOp o)) r ∧
    ∀ ow io H fr m σ x y v u Q, Rp S ow io H fr m σ → RV S ow io H x v → RV S ow io H y u → Post S W ow io H σ Q (optR (cmpD o x y) m) → r v u H Q := by
  cases o with
  | eq =>
    refine ⟨_, OpR.or op_eq (op_eqD (by omega)), fun ow io H fr m σ x y v u Q rp hx hy p => ?_⟩
    simp only [cmpD, eqD] at p
    cases e : eqS x y with
    | none =>
      rw [e] at p
      dsimp only at p
      cases e2 : eqDeep x y with
      | none => rw [e2] at p; exact p.elim
      | some z =>
        rw [e2] at p
        obtain ⟨d, d', h1, h2, h3, h4, h5⟩ := eqDeep_ok hx hy e2
        refine .inr ⟨d, d', by rw [ov.K]; exact h1, by rw [ov.K]; exact h2, h3, h4, ?_⟩
        rw [h5]
        exact p.here rp.h .mk_bl
    | some z =>
      rw [e] at p
      obtain ⟨h1, h2⟩ := eqS_ok hx hy e
      refine .inl ⟨h1, ?_⟩
      rw [h2]
      exact p.here rp.h .mk_bl
  | ne =>
    refine ⟨_, OpR.or op_ne (op_neD (by omega)), fun ow io H fr m σ x y v u Q rp hx hy p => ?_⟩
    simp only [cmpD, eqD] at p
    cases e : eqS x y with
    | none =>
      rw [e] at p
      dsimp only at p
      cases e2 : eqDeep x y with
      | none => rw [e2] at p; exact p.elim
      | some z =>
        rw [e2] at p
        obtain ⟨d, d', h1, h2, h3, h4, h5⟩ := eqDeep_ok hx hy e2
        refine .inr ⟨d, d', by rw [ov.K]; exact h1, by rw [ov.K]; exact h2, h3, h4, ?_⟩
        rw [h5]
        exact p.here rp.h .mk_bl
    | some z =>
      rw [e] at p
      obtain ⟨h1, h2⟩ := eqS_ok hx hy e
      refine .inl ⟨h1, ?_⟩
      rw [h2]
      exact p.here rp.h .mk_bl
  | lt =>
    refine ⟨_, op_lt, fun ow io H fr m σ x y v u Q rp hx hy p => ?_⟩
    simp only [cmpD] at p
    unfold ltD at p
    split at p
    · cases hx.of_int; cases hy.of_int
      exact ⟨_, _, rfl, rfl, p.here rp.h .mk_bl⟩
    · exact p.elim
  | le =>
    refine ⟨_, op_le, fun ow io H fr m σ x y v u Q rp hx hy p => ?_⟩
    simp only [cmpD] at p
    unfold leD at p
    split at p
    · cases hx.of_int; cases hy.of_int
      exact ⟨_, _, rfl, rfl, p.here rp.h .mk_bl⟩
    · exact p.elim
  | gt =>
    refine ⟨_, op_gt, fun ow io H fr m σ x y v u Q rp hx hy p => ?_⟩
    simp only [cmpD] at p
    unfold ltD at p
    split at p
    · cases hx.of_int; cases hy.of_int
      exact ⟨_, _, rfl, rfl, p.here rp.h .mk_bl⟩
    · exact p.elim
  | ge =>
    refine ⟨_, op_ge, fun ow io H fr m σ x y v u Q rp hx hy p => ?_⟩
    simp only [cmpD] at p
    unfold leD at p
    split at p
    · cases hx.of_int; cases hy.of_int
      exact ⟨_, _, rfl, rfl, p.here rp.h .mk_bl⟩
    · exact p.elim
  | mem =>
    refine ⟨_, OpR.or op_in_str (OpR.or op_in_seq (op_inD hu)), fun ow io H fr m σ x y v u Q rp hx hy p => ?_⟩
    simp only [cmpD] at p
    cases e : memD x y with
    | none => rw [e] at p; exact p.elim
    | some z =>
      rw [e] at p
      have q := p.here rp.h .mk_bl
      rcases mem_ok hx hy e with ⟨i, j, h1, h2, h3⟩ | ⟨p, xs, h1, h2, h3, h4, h5⟩ | ⟨d, ds, h1, h2, h3, h4, h5⟩
      · exact .inl ⟨i, j, h1, h2, by rw [h3]; exact q⟩
      · exact .inr (.inl ⟨p, xs, h1, by rw [ov.K]; exact h2, h3, h4, by rw [if_neg (by decide), h5]; exact q⟩)
      · exact .inr (.inr ⟨d, ds, by rw [ov.K]; exact h1, by rw [ov.K]; exact h2, h3, h4, by rw [h5]; exact q⟩)
  | nmem =>
    refine ⟨_, OpR.or op_notin_str (OpR.or op_notIn_seq (op_notInD hu)), fun ow io H fr m σ x y v u Q rp hx hy p => ?_⟩
    simp only [cmpD] at p
    cases e : memD x y with
    | none => rw [e] at p; exact p.elim
    | some z =>
      rw [e] at p
      have q := p.here rp.h .mk_bl
      rcases mem_ok hx hy e with ⟨i, j, h1, h2, h3⟩ | ⟨p, xs, h1, h2, h3, h4, h5⟩ | ⟨d, ds, h1, h2, h3, h4, h5⟩
      · exact .inl ⟨i, j, h1, h2, by rw [h3]; exact q⟩
      · exact .inr (.inl ⟨p, xs, h1, by rw [ov.K]; exact h2, h3, h4, by rw [if_pos rfl, h5]; exact q⟩)
      · exact .inr (.inr ⟨d, ds, by rw [ov.K]; exact h1, by rw [ov.K]; exact h2, h3, h4, by rw [h5]; exact q⟩)
theorem se_cmp (hu : X.A.units + 65 < cLine) (ov : Ov S X) (o : CO) (ha : SE X S W a fa) (hb : SE X S W b fb) (hm : behindInMarks (coOp o) b = false) :
    SE X S W (.Compare a [coOp o] [b] pos) (fun fr m => (fa fr m).bind fun x m1 => (fb fr m1).bind fun y m2 => optR (cmpD o x y) m2) := by
  obtain ⟨r, h, g⟩ := co_ok (S := S) (W := W) (X := X) hu ov o
  exact op2 (pe_cmpR h ha hb hm) g
/-- a test by its value -/
theorem isN_rv {ow : Addr → Prop} {io : List Addr} {H : Hp} {x : D} {v : V} (h : RV S ow io H x v) : decide (v = .non) = isNonD x := by
  cases x with
  | non => cases h.of_non; rfl
  | bl _ => cases h.of_bl; rfl
  | int _ => cases h.of_int; rfl
  | str _ => cases h.of_str; rfl
  | tup _ => obtain ⟨a, vs, rfl, _⟩ := h.of_tup; rfl
  | lst _ => obtain ⟨a, vs, rfl, _⟩ := h.of_lst; rfl
  | fz _ => obtain ⟨a, vs, rfl, _⟩ := h.of_fz; rfl
  | dct _ _ => obtain ⟨a, vs, rfl, _⟩ := h.of_dct; rfl
  | ins _ _ _ => obtain ⟨a, dx, vs, rfl, _⟩ := h.of_ins; rfl
  | ref _ => unfold RV at h; obtain ⟨a, rfl, _⟩ := h; rfl
theorem se_isN {j : Nat} {p2 : Pos} (ha : SE X S W a fa) : SE X S W (.Compare a [.Is] [.Constant .none j p2] pos) (fun fr m => (fa fr m).bind fun x m1 => .ok (.bl (isNonD x)) m1) := by
  refine op1 (g := fun x m1 => .ok (.bl (isNonD x)) m1) (r := fun x H1 Q => Q (.bl (decide (x = .non))) H1) (pe_cmp (pc_isN ha)) fun ow io H fr m σ x v Q rp hx p => ?_
  rw [isN_rv hx]
  exact p.here rp.h .mk_bl
theorem se_notN {j : Nat} {p2 : Pos} (ha : SE X S W a fa) : SE X S W (.Compare a [.IsNot] [.Constant .none j p2] pos) (fun fr m => (fa fr m).bind fun x m1 => .ok (.bl (!isNonD x)) m1) := by
  refine op1 (g := fun x m1 => .ok (.bl (!isNonD x)) m1) (r := fun x H1 Q => Q (.bl (!decide (x = .non))) H1) (pe_cmp (pc_notN ha)) fun ow io H fr m σ x v Q rp hx p => ?_
  rw [isN_rv hx]
  exact p.here rp.h .mk_bl
def chF (o q : CO) (fa fb fc : Fe) : Fe := fun fr m => (fa fr m).bind fun x m1 => (fb fr m1).bind fun y m2 => match cmpD o x y with
      | some (.bl true) => (fc fr m2).bind fun z m3 => optR (cmpD q y z) m3
      | some (.bl false) => .ok (.bl false) m2
      | _ => .bad
theorem chain_i (o q : CO) {r r' : R2}
    (g : ∀ ow io H fr m σ x y v u Q, Rp S ow io H fr m σ → RV S ow io H x v → RV S ow io H y u → Post S W ow io H σ Q (optR (cmpD o x y) m) → r v u H Q)
    (g' : ∀ ow io H fr m σ x y v u Q, Rp S ow io H fr m σ → RV S ow io H x v → RV S ow io H y u → Post S W ow io H σ Q (optR (cmpD q x y) m) → r' v u H Q)
    {σ : L2.St} {H : Hp} {Q : VK} (h : tR S W (chF o q fa fb fc) σ H Q) : tChain r r' (tR S W fa) (tR S W fb) (tR S W fc) σ H Q := by
  obtain ⟨ow, io, fr, m, rp, p⟩ := h
  unfold chF at p
  refine ⟨ow, io, fr, m, rp, p.seq fun x m1 io1 H1 v x1 r1 v1 p1 => ?_⟩
  refine ⟨ow, io1, fr, m1, rp.ex x1 r1, p1.seq fun y m2 io2 H2 u x2 r2 u2 p2 => ?_⟩
  have rp2 := (rp.ex x1 r1).ex x2 r2
  refine g ow io2 H2 fr m2 σ x y v u _ rp2 (v1.ex x2) u2 ?_
  split at p2
  · rename_i e
    rw [e]
    intro io3 H3 z x3 r3 z3
    cases z3.of_bl
    refine ⟨true, rfl, ?_⟩
    rw [if_pos rfl]
    refine ⟨ow, io3, fr, m2, rp2.ex x3 r3, (p2.move x3).seq fun z m4 io4 H4 w x4 r4 w4 p4 => ?_⟩
    exact g' ow io4 H4 fr m4 σ y z u w Q ((rp2.ex x3 r3).ex x4 r4) ((u2.ex x3).ex x4) w4 p4
  · rename_i e
    rw [e]
    intro io3 H3 z x3 r3 z3
    cases z3.of_bl
    refine ⟨false, rfl, ?_⟩
    rw [if_neg (by decide)]
    exact (p2.move x3).here r3 .mk_bl
  · exact p2.elim
theorem se_chain (hu : X.A.units + 65 < cLine) (ov : Ov S X) (o q : CO) (ha : SE X S W a fa) (hb : SE X S W b fb) (hc : SE X S W c fc) (hm : lastMarks [coOp o, coOp q] [b, c] = false) :
    SE X S W (.Compare a [coOp o, coOp q] [b, c] pos) (chF o q fa fb fc) := by
  obtain ⟨r, h, g⟩ := co_ok (S := S) (W := W) (X := X) hu ov o
  obtain ⟨r', h', g'⟩ := co_ok (S := S) (W := W) (X := X) hu ov q
  exact PE.imp (pe_chain h h' ha hb hc hm) fun σ H Q q => chain_i _ _ g g' q
/-! and, or, not, if: by truth -/
theorem se_one {op : PySem.BoolOp} (ha : SE X S W a fa) : SE X S W (.BoolOp op [a] pos) fa := pe_one ha
theorem se_and {rest : List Expr} (ov : Ov S X) (ha : SE X S W a fa) (hb : SE X S W (.BoolOp .And (b :: rest) pos) fb) :
    SE X S W (.BoolOp .And (a :: b :: rest) pos) (fun fr m => (fa fr m).bind fun x m1 => match truD x with | some true => fb fr m1 | some false => .ok x m1 | none => .bad) := by
  refine PE.imp (pe_andT ha hb) fun σ H Q ⟨ow, io, fr, m, rp, p⟩ => ?_
  refine ⟨ow, io, fr, m, rp, p.seq fun x m1 io1 H1 v x1 r1 v1 p1 => ?_⟩
  rw [ov.K]
  split at p1
  · rename_i e
    refine ⟨true, v1.tru e, ?_⟩
    rw [if_pos rfl]
    exact ⟨ow, io1, fr, m1, rp.ex x1 r1, p1⟩
  · rename_i e
    refine ⟨false, v1.tru e, ?_⟩
    rw [if_neg (by decide)]
    exact p1.here r1 v1
  · exact p1.elim
theorem se_or {rest : List Expr} (ov : Ov S X) (ha : SE X S W a fa) (hb : SE X S W (.BoolOp .Or (b :: rest) pos) fb) :
    SE X S W (.BoolOp .Or (a :: b :: rest) pos) (fun fr m => (fa fr m).bind fun x m1 => match truD x with | some true => .ok x m1 | some false => fb fr m1 | none => .bad) := by
  refine PE.imp (pe_orT ha hb) fun σ H Q ⟨ow, io, fr, m, rp, p⟩ => ?_
  refine ⟨ow, io, fr, m, rp, p.seq fun x m1 io1 H1 v x1 r1 v1 p1 => ?_⟩
  rw [ov.K]
  split at p1
  · rename_i e
    refine ⟨true, v1.tru e, ?_⟩
    rw [if_pos rfl]
    exact p1.here r1 v1
  · rename_i e
    refine ⟨false, v1.tru e, ?_⟩
    rw [if_neg (by decide)]
    exact ⟨ow, io1, fr, m1, rp.ex x1 r1, p1⟩
  · exact p1.elim
theorem se_not (ov : Ov S X) (ha : SE X S W a fa) : SE X S W (.UnaryOp .Not a pos) (fun fr m => (fa fr m).bind fun x m1 => match truD x with | some t => .ok (.bl (!t)) m1 | none => .bad) := by
  refine PE.imp (pe_notT ha) fun σ H Q ⟨ow, io, fr, m, rp, p⟩ => ?_
  refine ⟨ow, io, fr, m, rp, p.seq fun x m1 io1 H1 v x1 r1 v1 p1 => ?_⟩
  rw [ov.K]
  split at p1
  · rename_i t e
    exact ⟨t, v1.tru e, p1.here r1 .mk_bl⟩
  · exact p1.elim
/-! tests -/
/-- a test's meaning from a value's -/
def tst (f : Fe) (fr : Fr) (m : MH) : R Bool := (f fr m).bind fun x m1 => match truD x with | some b => .ok b m1 | none => .bad
def PostB (S : Sta) (W : WX) (ow : Addr → Prop) (io : List Addr) (H : Hp) (σ : L2.St) (Q : Bool → Hp → Prop) : R Bool → Prop
  | .ok b m' => ∀ io' H', Ex io H io' H' → RH S ow io' H' m' → Q b H'
  | .exc x m' => ∀ io' H' dx fs, Ex io H io' H' → RH S ow io' H' m' → H' dx = some (.xd fs) → dx ∉ io' → ¬ ow dx → RFs S ow io' H' x.ns x.ds fs → W (.ref (S.ca x.c)) (some dx) σ H'
  | .bad => False
def tT (S : Sta) (W : WX) (f : Fr → MH → R Bool) : TT := fun σ H Q => ∃ ow io fr m, Rp S ow io H fr m σ ∧ PostB S W ow io H σ Q (f fr m)
abbrev STt (X : Cx) (S : Sta) (W : WX) (e : Expr) (f : Fe) : Prop := PT X e (tT S W (tst f))
theorem PostB.move {ow : Addr → Prop} {io io1 : List Addr} {H H1 : Hp} {σ : L2.St} {Q : Bool → Hp → Prop} {r : R Bool} (p : PostB S W ow io H σ Q r) (x : Ex io H io1 H1) : PostB S W ow io1 H1 σ Q r := by
  cases r with
  | ok d m' => exact fun io' H' y h => p io' H' (x.trans y) h
  | exc e m' => exact fun io' H' dx fs y h a b c d => p io' H' dx fs (x.trans y) h a b c d
  | bad => exact p
theorem PostB.here {ow : Addr → Prop} {io : List Addr} {H : Hp} {σ : L2.St} {Q : Bool → Hp → Prop} {b : Bool} {m : MH} (p : PostB S W ow io H σ Q (.ok b m)) (h : RH S ow io H m) : Q b H := p io H (.refl _ _) h
theorem PostB.seq {ow : Addr → Prop} {io : List Addr} {H : Hp} {σ : L2.St} {Q : Bool → Hp → Prop} {r : R D} {k : D → MH → R Bool} {Q1 : VK} (p : PostB S W ow io H σ Q (r.bind k))
    (st : ∀ x m1 io1 H1 v, Ex io H io1 H1 → RH S ow io1 H1 m1 → RV S ow io1 H1 x v → PostB S W ow io1 H1 σ Q (k x m1) → Q1 v H1) : Post S W ow io H σ Q1 r := by
  cases r with
  | ok d m' => exact fun io' H' v y h q => st d m' io' H' v y h q (p.move y)
  | exc e m' => exact p
  | bad => exact p
theorem PostB.seqB {ow : Addr → Prop} {io : List Addr} {H : Hp} {σ : L2.St} {Q Q1 : Bool → Hp → Prop} {r : R Bool} {k : Bool → MH → R Bool} (p : PostB S W ow io H σ Q (r.bind k))
    (st : ∀ x m1 io1 H1, Ex io H io1 H1 → RH S ow io1 H1 m1 → PostB S W ow io1 H1 σ Q (k x m1) → Q1 x H1) : PostB S W ow io H σ Q1 r := by
  cases r with
  | ok d m' => exact fun io' H' y h => st d m' io' H' y h (p.move y)
  | exc e m' => exact p
  | bad => exact p
/-- of a plain value -/
theorem st_val (ov : Ov S X) (ha : SE X S W a fa) (he : ∀ whole, isTrue a X.env whole = (do let v ← whole; standAt a.pos; holding [v] (truthy v))) : STt X S W a fa := by
  refine PT.imp (pt_truth ha he) fun σ H Q ⟨ow, io, fr, m, rp, p⟩ => ?_
  refine ⟨ow, io, fr, m, rp, p.seq fun x m1 io1 H1 v x1 r1 v1 p1 => ?_⟩
  rw [ov.K]
  split at p1
  · rename_i t e
    exact ⟨t, v1.tru e, p1.here r1⟩
  · exact p1.elim
theorem tst_not (f : Fe) (fr : Fr) (m : MH) : tst (fun fr m => (f fr m).bind fun x m1 => match truD x with | some t => .ok (.bl (!t)) m1 | none => .bad) fr m = (tst f fr m).bind fun b m1 => .ok (!b) m1 := by
  simp only [tst]
  cases f fr m with
  | ok d m1 => simp only [R.ok_bind]; cases truD d <;> rfl
  | exc x m1 => rfl
  | bad => rfl
theorem st_not (ha : STt X S W a fa) : STt X S W (.UnaryOp .Not a pos) (fun fr m => (fa fr m).bind fun x m1 => match truD x with | some t => .ok (.bl (!t)) m1 | none => .bad) := by
  refine PT.imp (pt_not ha) fun σ H Q ⟨ow, io, fr, m, rp, p⟩ => ?_
  rw [tst_not] at p
  exact ⟨ow, io, fr, m, rp, p.seqB fun x m1 io1 H1 x1 r1 p1 => p1.here r1⟩
theorem tst_and (f g : Fe) (fr : Fr) (m : MH) : tst (fun fr m => (f fr m).bind fun x m1 => match truD x with | some true => g fr m1 | some false => .ok x m1 | none => .bad) fr m =
    (tst f fr m).bind fun b m1 => if b then tst g fr m1 else .ok false m1 := by
  simp only [tst]
  cases f fr m with
  | ok d m1 =>
    simp only [R.ok_bind]
    cases e : truD d with
    | none => rfl
    | some t =>
      cases t with
      | true => rfl
      | false => simp [e]
  | exc x m1 => rfl
  | bad => rfl
theorem tst_or (f g : Fe) (fr : Fr) (m : MH) : tst (fun fr m => (f fr m).bind fun x m1 => match truD x with | some true => .ok x m1 | some false => g fr m1 | none => .bad) fr m =
    (tst f fr m).bind fun b m1 => if b then .ok true m1 else tst g fr m1 := by
  simp only [tst]
  cases f fr m with
  | ok d m1 =>
    simp only [R.ok_bind]
    cases e : truD d with
    | none => rfl
    | some t =>
      cases t with
      | true => simp [e]
      | false => rfl
  | exc x m1 => rfl
  | bad => rfl
theorem st_and {rest : List Expr} (ha : STt X S W a fa) (hb : PW X (.BoolOp .And (b :: rest) pos) (tT S W (tst fb))) :
    PW X (.BoolOp .And (a :: b :: rest) pos) (tT S W (tst fun fr m => (fa fr m).bind fun x m1 => match truD x with | some true => fb fr m1 | some false => .ok x m1 | none => .bad)) := by
  refine ⟨fun whole pins s σ H Q I h => (pw_and ha hb).run whole pins s σ H Q I ?_⟩
  obtain ⟨ow, io, fr, m, rp, p⟩ := h
  rw [tst_and] at p
  refine ⟨ow, io, fr, m, rp, p.seqB fun x m1 io1 H1 x1 r1 p1 => ?_⟩
  cases x with
  | true => exact ⟨ow, io1, fr, m1, rp.ex x1 r1, p1⟩
  | false => exact p1.here r1
theorem st_or {rest : List Expr} (ha : STt X S W a fa) (hb : PW X (.BoolOp .Or (b :: rest) pos) (tT S W (tst fb))) :
    PW X (.BoolOp .Or (a :: b :: rest) pos) (tT S W (tst fun fr m => (fa fr m).bind fun x m1 => match truD x with | some true => .ok x m1 | some false => fb fr m1 | none => .bad)) := by
  refine ⟨fun whole pins s σ H Q I h => (pw_or ha hb).run whole pins s σ H Q I ?_⟩
  obtain ⟨ow, io, fr, m, rp, p⟩ := h
  rw [tst_or] at p
  refine ⟨ow, io, fr, m, rp, p.seqB fun x m1 io1 H1 x1 r1 p1 => ?_⟩
  cases x with
  | true => exact p1.here r1
  | false => exact ⟨ow, io1, fr, m1, rp.ex x1 r1, p1⟩
/-- it gives truth values alone -/
def IsB (f : Fe) : Prop := ∀ fr m d m', f fr m = .ok d m' → ∃ b, d = .bl b
theorem post_of_tst {f : Fe} (hB : IsB f) {ow : Addr → Prop} {io : List Addr} {H : Hp} {σ : L2.St} {Q : Bool → Hp → Prop} {fr : Fr} {m : MH} (p : PostB S W ow io H σ Q (tst f fr m)) :
    Post S W ow io H σ (fun v H' => ∃ k, v = .bl k ∧ Q k H') (f fr m) := by
  unfold tst at p
  cases q : f fr m with
  | ok d m' =>
    obtain ⟨b, rfl⟩ := hB _ _ _ _ q
    rw [q] at p
    exact fun io' H' v x h hv => ⟨b, hv.of_bl, p io' H' x h⟩
  | exc x m' => rw [q] at p; exact p
  | bad => rw [q] at p; exact p
theorem cmpD_bl {o : CO} {x y z : D} (e : cmpD o x y = some z) : ∃ b, z = .bl b := by
  cases o with
  | eq => simp only [cmpD, Option.map_eq_some_iff] at e; obtain ⟨b, _, rfl⟩ := e; exact ⟨_, rfl⟩
  | ne => simp only [cmpD, Option.map_eq_some_iff] at e; obtain ⟨b, _, rfl⟩ := e; exact ⟨_, rfl⟩
  | lt => simp only [cmpD] at e; unfold ltD at e; split at e <;> cases e; exact ⟨_, rfl⟩
  | le => simp only [cmpD] at e; unfold leD at e; split at e <;> cases e; exact ⟨_, rfl⟩
  | gt => simp only [cmpD] at e; unfold ltD at e; split at e <;> cases e; exact ⟨_, rfl⟩
  | ge => simp only [cmpD] at e; unfold leD at e; split at e <;> cases e; exact ⟨_, rfl⟩
  | mem => simp only [cmpD, Option.map_eq_some_iff] at e; obtain ⟨b, _, rfl⟩ := e; exact ⟨_, rfl⟩
  | nmem => simp only [cmpD, Option.map_eq_some_iff] at e; obtain ⟨b, _, rfl⟩ := e; exact ⟨_, rfl⟩
theorem isB_cmp (o : CO) (fa fb : Fe) : IsB (fun fr m => (fa fr m).bind fun x m1 => (fb fr m1).bind fun y m2 => optR (cmpD o x y) m2) := by
  intro fr m d m' e
  cases q : fa fr m with
  | ok x m1 =>
    simp only [q, R.ok_bind] at e
    cases q2 : fb fr m1 with
    | ok y m2 =>
      simp only [q2, R.ok_bind] at e
      cases q3 : cmpD o x y with
      | none => rw [q3] at e; cases e
      | some z => rw [q3] at e; cases e; exact cmpD_bl q3
    | exc x m1 => simp only [q2, R.exc_bind] at e; cases e
    | bad => simp only [q2, R.bad_bind] at e; cases e
  | exc x m1 => simp only [q, R.exc_bind] at e; cases e
  | bad => simp only [q, R.bad_bind] at e; cases e
theorem isB_ch (o q : CO) (fa fb fc : Fe) : IsB (chF o q fa fb fc) := by
  intro fr m d m' e
  unfold chF at e
  cases q1 : fa fr m with
  | ok x m1 =>
    simp only [q1, R.ok_bind] at e
    cases q2 : fb fr m1 with
    | ok y m2 =>
      simp only [q2, R.ok_bind] at e
      split at e
      · cases q3 : fc fr m2 with
        | ok z m3 =>
          simp only [q3, R.ok_bind] at e
          cases q4 : cmpD q y z with
          | none => rw [q4] at e; cases e
          | some z => rw [q4] at e; cases e; exact cmpD_bl q4
        | exc x m1 => simp only [q3, R.exc_bind] at e; cases e
        | bad => simp only [q3, R.bad_bind] at e; cases e
      · cases e; exact ⟨_, rfl⟩
      · cases e
    | exc x m1 => simp only [q2, R.exc_bind] at e; cases e
    | bad => simp only [q2, R.bad_bind] at e; cases e
  | exc x m1 => simp only [q1, R.exc_bind] at e; cases e
  | bad => simp only [q1, R.bad_bind] at e; cases e
/-- a comparison as a test is its value's truth -/
theorem st_cmp (hu : X.A.units + 65 < cLine) (ov : Ov S X) (o : CO) (ha : SE X S W a fa) (hb : SE X S W b fb) (hm : behindInMarks (coOp o) b = false) :
    STt X S W (.Compare a [coOp o] [b] pos) (fun fr m => (fa fr m).bind fun x m1 => (fb fr m1).bind fun y m2 => optR (cmpD o x y) m2) := by
  obtain ⟨r, h, g⟩ := co_ok (S := S) (W := W) (X := X) hu ov o
  exact PT.imp (pt_cmpR h ha hb hm) fun σ H Q ⟨ow, io, fr, m, rp, p⟩ => op2i g ⟨ow, io, fr, m, rp, post_of_tst (isB_cmp o fa fb) p⟩
theorem st_chain (hu : X.A.units + 65 < cLine) (ov : Ov S X) (o q : CO) (ha : SE X S W a fa) (hb : SE X S W b fb) (hc : SE X S W c fc) (hm : lastMarks [coOp o, coOp q] [b, c] = false) :
    STt X S W (.Compare a [coOp o, coOp q] [b, c] pos) (chF o q fa fb fc) := by
  obtain ⟨r, h, g⟩ := co_ok (S := S) (W := W) (X := X) hu ov o
  obtain ⟨r', h', g'⟩ := co_ok (S := S) (W := W) (X := X) hu ov q
  exact PT.imp (pt_chain h h' ha hb hc hm) fun σ H Q ⟨ow, io, fr, m, rp, p⟩ => chain_i _ _ g g' ⟨ow, io, fr, m, rp, post_of_tst (isB_ch o q fa fb fc) p⟩
def isNF (fa : Fe) : Fe := fun fr m => (fa fr m).bind fun x m1 => .ok (.bl (isNonD x)) m1
def notNF (fa : Fe) : Fe := fun fr m => (fa fr m).bind fun x m1 => .ok (.bl (!isNonD x)) m1
theorem isB_isN (fa : Fe) : IsB (isNF fa) := by
  intro fr m d m' e
  unfold isNF at e
  cases q : fa fr m with
  | ok x m1 => simp only [q, R.ok_bind] at e; cases e; exact ⟨_, rfl⟩
  | exc x m1 => simp only [q, R.exc_bind] at e; cases e
  | bad => simp only [q, R.bad_bind] at e; cases e
theorem isB_notN (fa : Fe) : IsB (notNF fa) := by
  intro fr m d m' e
  unfold notNF at e
  cases q : fa fr m with
  | ok x m1 => simp only [q, R.ok_bind] at e; cases e; exact ⟨_, rfl⟩
  | exc x m1 => simp only [q, R.exc_bind] at e; cases e
  | bad => simp only [q, R.bad_bind] at e; cases e
theorem st_isN {j : Nat} {p2 : Pos} (ha : SE X S W a fa) : STt X S W (.Compare a [.Is] [.Constant .none j p2] pos) (isNF fa) := by
  refine PT.imp (pt_cmp (pc_isN ha)) fun σ H Q ⟨ow, io, fr, m, rp, p⟩ => ?_
  have p' := post_of_tst (isB_isN fa) p
  unfold isNF at p'
  refine ⟨ow, io, fr, m, rp, p'.seq fun x m1 io1 H1 v x1 r1 v1 p1 => ?_⟩
  have p2 := p1.here r1 .mk_bl
  rw [← isN_rv v1] at p2
  exact p2
theorem st_notN {j : Nat} {p2 : Pos} (ha : SE X S W a fa) : STt X S W (.Compare a [.IsNot] [.Constant .none j p2] pos) (notNF fa) := by
  refine PT.imp (pt_cmp (pc_notN ha)) fun σ H Q ⟨ow, io, fr, m, rp, p⟩ => ?_
  have p' := post_of_tst (isB_notN fa) p
  unfold notNF at p'
  refine ⟨ow, io, fr, m, rp, p'.seq fun x m1 io1 H1 v x1 r1 v1 p1 => ?_⟩
  have p2 := p1.here r1 .mk_bl
  rw [← isN_rv v1] at p2
  exact p2
/-! if: a value, a test -/
def iteF' (fc fa fb : Fe) : Fe := fun fr m => (fc fr m).bind fun x m1 => match truD x with | some true => fa fr m1 | some false => fb fr m1 | none => .bad
theorem se_ite (hc : STt X S W c fc) (ha : SE X S W a fa) (hb : SE X S W b fb) : SE X S W (.IfExp c a b pos) (iteF' fc fa fb) := by
  refine PE.imp (pe_ifExp hc ha hb) fun σ H Q ⟨ow, io, fr, m, rp, p⟩ => ?_
  refine ⟨ow, io, fr, m, rp, ?_⟩
  unfold iteF' at p
  unfold tst
  cases q : fc fr m with
  | ok x m1 =>
    rw [q] at p
    simp only [R.ok_bind] at p ⊢
    cases e : truD x with
    | none => rw [e] at p; exact p.elim
    | some t =>
      rw [e] at p
      intro io1 H1 x1 r1
      cases t with
      | true => rw [if_pos rfl]; exact ⟨ow, io1, fr, m1, rp.ex x1 r1, p.move x1⟩
      | false => rw [if_neg (by decide)]; exact ⟨ow, io1, fr, m1, rp.ex x1 r1, p.move x1⟩
  | exc x m1 => rw [q] at p; exact p
  | bad => rw [q] at p; exact p
/-! argument lists, displays -/
def evsF : List Fe → Fes
  | [] => fun _ m => .ok [] m
  | f :: fs => fun fr m => (f fr m).bind fun x m1 => (evsF fs fr m1).bind fun xs m2 => .ok (x :: xs) m2
theorem sa_nil : PA X [] (tRs S W (evsF [])) := PA.imp pa_nil fun σ H Q ⟨ow, io, fr, m, rp, p⟩ => p io H [] (.refl _ _) rp.h .nil
theorem sa_cons {e : Expr} {es : List Expr} {f : Fe} {fs : List Fe} (h : SE X S W e f) (t : PA X es (tRs S W (evsF fs))) (hs : starEach (e :: es) X.env = (false, eval e X.env) :: starEach es X.env) :
    PA X (e :: es) (tRs S W (evsF (f :: fs))) := by
  refine PA.imp (pa_cons h t hs) fun σ H Q ⟨ow, io, fr, m, rp, p⟩ => ?_
  have p : Posts S W ow io H σ Q ((f fr m).bind fun x m1 => (evsF fs fr m1).bind fun xs m2 => .ok (x :: xs) m2) := p
  refine ⟨ow, io, fr, m, rp, p.seq fun x m1 io1 H1 v x1 r1 v1 p1 => ?_⟩
  refine ⟨ow, io1, fr, m1, rp.ex x1 r1, p1.seqs fun xs m2 io2 H2 vs x2 r2 v2 p2 => ?_⟩
  exact p2 io2 H2 _ (.refl _ _) r2 (.cons (v1.ex x2) v2)
theorem se_tup {es : List Expr} {k : Nat} {fs : Fes} (h : PA X es (tRs S W fs)) : SE X S W (.Tuple es k pos) (fun fr m => (fs fr m).bind fun ds m1 => if ds.length ≤ sizeLine then .ok (.tup ds) m1 else .bad) := by
  refine PE.imp (pe_tup h) fun σ H Q ⟨ow, io, fr, m, rp, p⟩ => ?_
  refine ⟨ow, io, fr, m, rp, p.seqs fun ds m1 io1 H1 vs x1 r1 v1 p1 => ?_⟩
  split at p1
  · rename_i hl
    rw [v1.length] at hl
    exact ⟨hl, fun q hq => p1.laid r1 hq (.mk_tup hq (notOwned (rp.ex x1 r1) hq) v1)⟩
  · exact p1.elim
theorem se_lst {es : List Expr} {fs : Fes} (h : PA X es (tRs S W fs)) : SE X S W (.List es pos) (fun fr m => (fs fr m).bind fun ds m1 => if ds.length ≤ sizeLine then .ok (.lst ds) m1 else .bad) := by
  refine PE.imp (pe_lst h) fun σ H Q ⟨ow, io, fr, m, rp, p⟩ => ?_
  refine ⟨ow, io, fr, m, rp, p.seqs fun ds m1 io1 H1 vs x1 r1 v1 p1 => ?_⟩
  split at p1
  · rename_i hl
    rw [v1.length] at hl
    exact ⟨hl, fun q hq => p1.laid r1 hq (.mk_lst hq (notOwned (rp.ex x1 r1) hq) v1)⟩
  · exact p1.elim
/-! items, slices, fields -/
theorem seqD_ok {ow : Addr → Prop} {io : List Addr} {H : Hp} {m : MH} {x : D} {v : V} {xs : List D} (h : RH S ow io H m) (hx : RV S ow io H x v) (e : seqD x m = some xs) :
    ∃ a vs, v = .ref a ∧ (SqL S.K H a vs ∨ SqT S.K H a vs) ∧ RVs S ow io H xs vs := by
  unfold seqD at e
  split at e
  · cases e
    obtain ⟨p1, vs, rfl, h1, q1⟩ := hx.of_tup
    exact ⟨p1, vs, rfl, .inr h1, q1⟩
  · cases e
    obtain ⟨p1, vs, rfl, h1, q1⟩ := hx.of_lst
    exact ⟨p1, vs, rfl, .inl (.of h1), q1⟩
  · cases e
    obtain ⟨p1, vs, rfl, h1, q1⟩ := hx.of_fz
    exact ⟨p1, vs, rfl, .inl h1, q1⟩
  · split at e
    · rename_i em
      cases e
      obtain ⟨p1, rfl, e0, vs, h1, q1⟩ := hx.of_ref h em
      exact ⟨p1, vs, rfl, .inl (.of h1), q1⟩
    · cases e
  · cases e
theorem se_idx (ov : Ov S X) (ha : SE X S W a fa) (hb : SE X S W b fb) (hs : PlainIx b) : SE X S W (.Subscript a b pos) (fun fr m => (fa fr m).bind fun x m1 => (fb fr m1).bind fun y m2 => optR (idxD x y m2) m2) := by
  refine op2 (g := fun x y m2 => optR (idxD x y m2) m2) (pe_ix (ix_seq) ha hb hs) fun ow io H fr m σ x y v u Q rp hx hy p => ?_
  rw [ov.K]
  unfold idxD at p
  split at p
  · rename_i i
    cases hy.of_int
    split at p
    · rename_i z
      cases hx.of_str
      split at p
      · rename_i hz
        cases e : atI z.cps.toList i with
        | none => rw [e] at p; exact p.elim
        | some c =>
          rw [e] at p
          exact .inr (.inr ⟨z, i, c, rfl, rfl, hz, e, p.here rp.h .mk_str⟩)
      · exact p.elim
    · cases e : seqD x m with
      | none => rw [e] at p; exact p.elim
      | some xs =>
      rw [e] at p
      dsimp only at p
      obtain ⟨a, vs, rfl, hs, q1⟩ := seqD_ok rp.h hx e
      cases e : atI xs i with
      | none => rw [e] at p; exact p.elim
      | some d =>
        rw [e] at p
        obtain ⟨w, e1, q2⟩ := atI_rv q1 e
        rcases hs with hs | hs
        · exact .inl ⟨a, vs, i, w, rfl, rfl, hs, e1, p.here rp.h q2⟩
        · exact .inr (.inl ⟨a, vs, i, w, rfl, rfl, hs, e1, p.here rp.h q2⟩)
  · exact p.elim
end
end Mp
end
section
set_option Elab.async false
set_option linter.all false
set_option maxRecDepth 100000
set_option maxHeartbeats 1000000
/-! MpCalls: calls of defs and of built-ins. -/
namespace Mp
open PySem PySem.Spec PyProof.Rows L2

/-! ### no star -/
def nst : Expr → Bool
  | .Starred .. => false
  | _ => true
theorem starEach_ns {e : Expr} {es : List Expr} {env : Env} (h : nst e = true) : starEach (e :: es) env = (false, eval e env) :: starEach es env := by
  cases e <;> first | rfl | cases h
theorem stars_any {pos : Pos} {env : Env} : ∀ {es : List Expr}, es.all nst = true → (backTo pos (starEach es env)).any (·.1) = false
  | [], _ => rfl
  | e :: es, h => by
    rw [List.all_cons, Bool.and_eq_true] at h
    rw [starEach_ns h.1]
    show (false || (backTo pos (starEach es env)).any (·.1)) = false
    rw [stars_any h.2]
    rfl
theorem kws_some {pos : Pos} {env : Env} : ∀ {kws : List Keyword} {ks : List Str}, kws.map (·.arg) = ks.map some → (backToKw pos (keywordEach kws env)).all (·.1.isSome) = true ∧ (backToKw pos (keywordEach kws env)).filterMap (·.1) = ks ∧ (backToKw pos (keywordEach kws env)).any (·.1.isNone) = false
  | [], [], _ => ⟨rfl, rfl, rfl⟩
  | [], _ :: _, h => by cases h
  | _ :: _, [], h => by cases h
  | ⟨nm, e, p⟩ :: kws, k :: ks, h => by
    rw [List.map_cons, List.map_cons, List.cons.injEq] at h
    obtain ⟨h1, h2⟩ := h
    have h1 : nm = some k := h1
    subst h1
    obtain ⟨a1, a2, a3⟩ := kws_some (pos := pos) (env := env) h2
    refine ⟨?_, ?_, ?_⟩
    · show (true && (backToKw pos (keywordEach kws env)).all (·.1.isSome)) = true
      rw [a1]; rfl
    · show k :: (backToKw pos (keywordEach kws env)).filterMap (·.1) = k :: ks
      rw [a2]
    · show (false || (backToKw pos (keywordEach kws env)).any (·.1.isNone)) = false
      rw [a3]; rfl

/-! ### a def's promise from its meaning -/
def spOf (S : Sta) (n : Nat) (f : List D → MH → R D) : Sp := fun vs H Q E => ∃ ow io ds m, RH S ow io H m ∧ (∀ a, ow a → ¬ NT H a) ∧ RVs S ow io H ds vs ∧ ds.length = n ∧ Post S (fun c d _ H' => E c d H') ow io H [] Q (f ds m)
/-- the def called x, n parameters, keeps f's promise at level k -/
def CalOk (S : Sta) (k : Nat) (x : Str) (n : Nat) (f : List D → MH → R D) : Prop :=
  ∃ (fa : Addr) (fd : FuncData) (ps : List Str), S.mg x = some (.ref fa) ∧ PySem.W.keepIn S.K (.ref fa) = true ∧ ps.length = n ∧ Binds S.K fd ps [] ∧ FnOk S.P S.w S.K S.mg S.base (L2.CX S.P S.w) k fa fd ps (spOf S n f)
/-- .. with n values by place and the keywords ks, put in place by b -/
def CalKOk (S : Sta) (k : Nat) (x : Str) (n : Nat) (ks : List Str) (b : List D → List D → Option (List D)) (f : List D → MH → R D) : Prop :=
  ∃ (fa : Addr) (fd : FuncData) (ps : List Str) (g : List Value → List Value → List Value) (gV : List V → List V → List V), S.mg x = some (.ref fa) ∧ PySem.W.keepIn S.K (.ref fa) = true ∧ KBn S.K fd ps n ks g gV ∧
    (∀ ow io H ds zs vs us as, RVs S ow io H ds vs → RVs S ow io H zs us → b ds zs = some as → ds.length = n ∧ zs.length = ks.length ∧ RVs S ow io H as (gV vs us)) ∧ (∀ ds zs as, b ds zs = some as → as.length = ps.length) ∧ FnOk S.P S.w S.K S.mg S.base (L2.CX S.P S.w) k fa fd ps (spOf S ps.length f)
theorem Post.wish {S : Sta} {W : WX} {ow : Addr → Prop} {io : List Addr} {H : Hp} {σ : L2.St} {Q : VK} {r : R D} (p : Post S W ow io H σ Q r) : Post S (fun c d _ H' => W c d σ H') ow io H [] Q r := by
  cases r with
  | ok d m => exact p
  | exc x m => exact p
  | bad => exact p
section
variable {X : Cx} {S : Sta} {W : WX} {x : Str} {p pos : Pos} {es : List Expr} {fs : Fes}
theorem fnok_over {k fa : Nat} {fd : FuncData} {ps : List Str} {sp : Sp} (ov : Ov S X) (F : FnOk S.P S.w S.K S.mg S.base (L2.CX S.P S.w) k fa fd ps sp) : FnOk X.prog X.w X.K X.mg X.base (L2.CX X.prog X.w) k fa fd ps sp := by
  rw [ov.P, ov.w, ov.K, ov.mg, ov.base]; exact F
theorem key_call {k n : Nat} {f : List D → MH → R D} {σ : L2.St} {H : Hp} {Q : VK} {ow : Addr → Prop} {io : List Addr} {fr : Fr} {m : MH} (rp : Rp S ow io H fr m σ) (hl : ∀ fr m ds m', fs fr m = .ok ds m' → ds.length = n)
    (pp : Post S W ow io H σ Q ((fs fr m).bind fun ds m1 => f ds m1)) : Posts S W ow io H σ (fun vs H1 => spOf S n f vs H1 Q (fun c d H' => W c d σ H')) (fs fr m) := by
  cases q : fs fr m with
  | ok ds m1 =>
    rw [q] at pp
    have pp : Post S W ow io H σ Q (f ds m1) := pp
    exact fun io1 H1 vs x1 r1 v1 => ⟨ow, io1, ds, m1, r1, (rp.ex x1 r1).o, v1, hl _ _ _ _ q, (pp.move x1).wish⟩
  | exc y m1 => rw [q] at pp; exact pp
  | bad => rw [q] at pp; exact pp
theorem se_call0 {k : Nat} {f : List D → MH → R D} (ov : Ov S X) (C : CalOk S k x 0 f) (hr : Room k X.A) (tk : Takes X W) (hg : Gl X x) (hdb : (x == ("__debug__" : Str)) = false) :
    SE X S W (.Call (.Name x p) [] [] pos) (fun _ m => f [] m) := by
  obtain ⟨fa, fd, ps, hm, hk, hps, hb, F⟩ := C
  have F := fnok_over ov F
  rw [← ov.mg] at hm
  rw [← ov.K] at hk hb
  refine ⟨fun pins s σ H Q I h => ?_⟩
  refine wpAny_Call_Name_kw (ld_glob I hg hm ?_ hdb)
  obtain ⟨ow, io, fr, m, rp, pp⟩ := h
  exact PySem.W.callWith_K0 I.kIn hk (run_fnS (us := []) F hr hb (passAt tk σ) I .nil ⟨ow, io, [], m, rp.h, rp.o, .nil, rfl, pp.wish⟩)
theorem se_call {k n : Nat} {f : List D → MH → R D} {e : Expr} (ov : Ov S X) (C : CalOk S k x n f) (hr : Room k X.A) (tk : Takes X W) (hg : Gl X x) (ha : PA X (e :: es) (tRs S W fs)) (hn : (e :: es).all nst = true)
    (hdb : (x == ("__debug__" : Str)) = false) (hl : ∀ fr m ds m', fs fr m = .ok ds m' → ds.length = n) :
    SE X S W (.Call (.Name x p) (e :: es) [] pos) (fun fr m => (fs fr m).bind fun ds m1 => f ds m1) := by
  obtain ⟨fa, fd, ps, hm, hk, hps, hb, F⟩ := C
  have F := fnok_over ov F
  rw [← ov.mg] at hm
  rw [← ov.K] at hk hb
  refine ⟨fun pins s σ H Q I h => ?_⟩
  refine wpAny_Call_Name_kw (ld_glob I hg hm ?_ hdb)
  obtain ⟨ow, io, fr, m, rp, pp⟩ := h
  rw [List.all_cons, Bool.and_eq_true] at hn
  refine PySem.W.callWith_K (h₀ := X.base) I.ok.mod.kin hk (thn (ha.run pos pins s σ H _ I ⟨ow, io, fr, m, rp, key_call (k := k) rp hl pp⟩) fun us s1 ⟨vs, H1, I1, r, q⟩ => ⟨I1.kIn, ?_⟩) (starEach_ns hn.1) (stars_any hn.2)
  exact run_fnS F hr hb (passAt tk σ) I1 r q
/-! with keywords -/
theorem key_callK {k n : Nat} {ks : List Str} {ps : List Str} {b : List D → List D → Option (List D)} {gV : List V → List V → List V} {f : List D → MH → R D} {σ : L2.St} {H : Hp} {Q : VK} {ow : Addr → Prop} {io : List Addr} {fr : Fr} {m : MH} {ds : List D} {vs : List V} {gs : Fes}
    (hB : ∀ ow io H ds zs vs us as, RVs S ow io H ds vs → RVs S ow io H zs us → b ds zs = some as → ds.length = n ∧ zs.length = ks.length ∧ RVs S ow io H as (gV vs us))
    (hps : ∀ ds zs as, b ds zs = some as → as.length = ps.length)
    (rp : Rp S ow io H fr m σ) (hv : RVs S ow io H ds vs) (pp : Post S W ow io H σ Q ((gs fr m).bind fun zs m2 => match b ds zs with | some as => f as m2 | none => .bad)) :
    Posts S W ow io H σ (fun us H1 => vs.length = n ∧ us.length = ks.length ∧ spOf S ps.length f (gV vs us) H1 Q (fun c d H' => W c d σ H')) (gs fr m) := by
  cases q : gs fr m with
  | ok zs m1 =>
    rw [q] at pp
    have pp : Post S W ow io H σ Q (match b ds zs with | some as => f as m1 | none => .bad) := pp
    intro io1 H1 us x1 r1 v1
    cases e : b ds zs with
    | none => rw [e] at pp; exact pp.elim
    | some as =>
      rw [e] at pp
      obtain ⟨l1, l2, q1⟩ := hB ow io1 H1 ds zs vs us as (hv.ex x1) v1 e
      refine ⟨by rw [← (hv.ex x1).length]; exact l1, by rw [← v1.length]; exact l2, ow, io1, as, m1, r1, (rp.ex x1 r1).o, q1, hps _ _ _ e, (pp.move x1).wish⟩
  | exc y m1 => rw [q] at pp; exact pp
  | bad => rw [q] at pp; exact pp
theorem run_fnNS {k n fa : Nat} {fd : FuncData} {ps ks : List Str} {sp : Sp} {g : List Value → List Value → List Value} {gV : List V → List V → List V} {E : L2.St → XK} {pins : List (Addr × Obj)} {s : Shared} {σ : L2.St} {H : Hp} {Q : VK} {us ws : List Value} {vs zs : List V}
    (F : FnOk X.prog X.w X.K X.mg X.base (L2.CX X.prog X.w) k fa fd ps sp) (hr : Room k X.A) (hb : KBn X.K fd ps n ks g gV) (hx : PassesAt (L2.CX X.prog X.w) X σ (E σ))
    (I : Inv X pins σ H s) (r : Vals vs us) (rz : Vals zs ws) (l1 : vs.length = n) (l2 : zs.length = ks.length) (h : sp (gV vs zs) H Q (E σ)) : wpAny (model X.prog X.w) X.A (call (.ref fa) us (ks.zip ws)) (EP X pins σ Q) X.xe s := by
  have r2 := hb.rel r rz
  refine wpAny_call (codeAny_mono (F.run X.A X.stack s H ⟨us, ks.zip ws⟩ (g us ws) (gV vs zs) Q (E σ) hr I.env0 (hb.to s us ws I.kIn (r.length.symm.trans l1) (rz.length.symm.trans l2)) r2 h) fun r s' hq => ?_)
  cases r with
  | error e => exact hx pins H s e s' I hq
  | ok fl =>
    cases fl with
    | ret u => exact I.after hq
    | next => exact False.elim hq
    | brk => exact False.elim hq
    | cont => exact False.elim hq
/-- the keywords' values -/
theorem sk_nil : PK X [] (tRs S W (evsF [])) := ⟨fun pos pins s σ H Q I ⟨ow, io, fr, m, rp, p⟩ => pk_nil.run pos pins s σ H Q I (p io H [] (.refl _ _) rp.h .nil)⟩
theorem sk_cons {nm : Option Str} {kp : Pos} {e : Expr} {kws : List Keyword} {f : Fe} {gs : List Fe} (h : SE X S W e f) (t : PK X kws (tRs S W (evsF gs))) : PK X (⟨nm, e, kp⟩ :: kws) (tRs S W (evsF (f :: gs))) := by
  refine ⟨fun pos pins s σ H Q I ⟨ow, io, fr, m, rp, p⟩ => (pk_cons h t).run pos pins s σ H Q I ?_⟩
  have p : Posts S W ow io H σ Q ((f fr m).bind fun x m1 => (evsF gs fr m1).bind fun xs m2 => .ok (x :: xs) m2) := p
  refine ⟨ow, io, fr, m, rp, p.seq fun x m1 io1 H1 v x1 r1 v1 p1 => ?_⟩
  refine ⟨ow, io1, fr, m1, rp.ex x1 r1, p1.seqs fun xs m2 io2 H2 vs x2 r2 v2 p2 => ?_⟩
  exact p2 io2 H2 _ (.refl _ _) r2 (.cons (v1.ex x2) v2)
theorem se_callK {k n : Nat} {ks : List Str} {b : List D → List D → Option (List D)} {f : List D → MH → R D} {gs : Fes} {kws : List Keyword} (ov : Ov S X) (C : CalKOk S k x n ks b f) (hr : Room k X.A) (tk : Takes X W) (hg : Gl X x)
    (ha : PA X es (tRs S W fs)) (hkw : PK X kws (tRs S W gs)) (hks : kws.map (·.arg) = ks.map some) (hn : es.all nst = true) (hdb : (x == ("__debug__" : Str)) = false) (h0 : es = [] → fs = fun _ m => .ok [] m) :
    SE X S W (.Call (.Name x p) es kws pos) (fun fr m => (fs fr m).bind fun ds m1 => (gs fr m1).bind fun zs m2 => match b ds zs with | some as => f as m2 | none => .bad) := by
  obtain ⟨fa, fd, ps, g, gV, hm, hk, hb, hB, hps, F⟩ := C
  have F := fnok_over ov F
  rw [← ov.mg] at hm
  rw [← ov.K] at hk hb
  obtain ⟨a1, a2, a3⟩ := kws_some (pos := pos) (env := X.env) hks
  refine ⟨fun pins s σ H Q I h => ?_⟩
  refine wpAny_Call_Name_kw (ld_glob I hg hm ?_ hdb)
  obtain ⟨ow, io, fr, m, rp, pp⟩ := h
  cases es with
  | nil =>
    rw [h0 rfl] at pp
    have pp : Post S W ow io H σ Q ((gs fr m).bind fun zs m2 => match b [] zs with | some as => f as m2 | none => .bad) := pp
    have key := key_callK (ps := ps) (k := k) hB hps rp RVs.nil pp
    refine PySem.W.callWith_KW0 (h₀ := X.base) I.ok.mod.kin hk a1 (thn (hkw.run pos pins s σ H _ I ⟨ow, io, fr, m, rp, key⟩) fun ws s1 ⟨zs, H1, I1, rz, l1, l2, q⟩ => ⟨I1.kIn, ?_⟩) (by rw [a3]; rfl)
    rw [a2]
    exact run_fnNS (us := []) (vs := []) (E := fun σ c d H' => W c d σ H') F hr hb (passAt tk σ) I1 .nil rz l1 l2 q
  | cons e es =>
    rw [List.all_cons, Bool.and_eq_true] at hn
    have key : Posts S W ow io H σ (fun vs H1 => tRs S W gs σ H1 (fun us H2 => vs.length = n ∧ us.length = ks.length ∧ spOf S ps.length f (gV vs us) H2 Q (fun c d H' => W c d σ H'))) (fs fr m) :=
      pp.seqs fun ds m1 io1 H1 vs x1 r1 v1 p1 => ⟨ow, io1, fr, m1, rp.ex x1 r1, key_callK (ps := ps) (k := k) hB hps (rp.ex x1 r1) v1 p1⟩
    refine PySem.W.callWith_KW (h₀ := X.base) I.ok.mod.kin hk a1 (thn (ha.run pos pins s σ H _ I ⟨ow, io, fr, m, rp, key⟩) fun us s1 ⟨vs, H1, I1, r, q⟩ => thn (hkw.run pos pins s1 σ H1 _ I1 q) fun ws s2 ⟨zs, H2, I2, rz, l1, l2, q2⟩ => ⟨I2.kIn, ?_⟩)
      (by rw [a3, starEach_ns hn.1]; show ((false || (backTo pos (starEach es X.env)).any (·.1)) || false) = false; rw [stars_any hn.2]; rfl) (starEach_ns hn.1)
    rw [a2]
    exact run_fnNS (E := fun σ c d H' => W c d σ H') F hr hb (passAt tk σ) I2 r rz l1 l2 q2
/-! ### built-ins -/
def blName : Bl → Str
  | .len => "len" | .int_ => "int" | .abs => "abs" | .all => "all" | .any => "any" | .list => "list" | .tuple => "tuple" | .str => "str" | .sum => "sum" | .max2 => "max" | .min2 => "min"
theorem blsD_rv {ow : Addr → Prop} {io : List Addr} {H : Hp} : ∀ {ds : List D} {bs : List Bool} {vs : List V}, blsD ds = some bs → RVs S ow io H ds vs → vs = bs.map V.bl
  | [], _, _, e, h => by unfold blsD at e; cases e; unfold RVs at h; exact h
  | d :: ds, _, _, e, h => by
    unfold RVs at h
    obtain ⟨v, r, rfl, h1, h2⟩ := h
    cases d with
    | bl b =>
      simp only [blsD, Option.map_eq_some_iff] at e
      obtain ⟨bs, e1, rfl⟩ := e
      rw [h1.of_bl, blsD_rv e1 h2]
      rfl
    | _ => cases e
/-- what a built-in asks and gives -/
def BlR (X : Cx) (S : Sta) (W : WX) (b : Bl) (r : List V → Hp → VK → Prop) : Prop :=
  ∀ ow io H fr m σ ds vs Q, Rp S ow io H fr m σ → RVs S ow io H ds vs → Post S W ow io H σ Q (optR (bltD b ds m) m) → r vs H Q
theorem RVs.one {ow : Addr → Prop} {io : List Addr} {H : Hp} {x : D} {vs : List V} (h : RVs S ow io H [x] vs) : ∃ v, vs = [v] ∧ RV S ow io H x v := by
  unfold RVs at h
  obtain ⟨v, r, rfl, h1, h2⟩ := h
  unfold RVs at h2
  subst h2
  exact ⟨v, rfl, h1⟩
inductive BlK (X : Cx) (S : Sta) (W : WX) (b : Bl) : Prop where
  | fn (id : String) (r : List V → Hp → VK → Prop) (hc : CallR X (.builtin id) r) (hv : bootBuiltins (blName b) = some (.builtin id)) (h : BlR X S W b r)
  | ty (T : String) (r : List V → Hp → VK → Prop) (hc : CallR X (.type T) r) (hv : bootBuiltins (blName b) = some (.type T)) (h : BlR X S W b r)
theorem intsD_rv {ow : Addr → Prop} {io : List Addr} {H : Hp} : ∀ {ds : List D} {ns : List Int} {vs : List V}, intsD ds = some ns → RVs S ow io H ds vs → vs = ns.map V.int
  | [], _, _, e, h => by unfold intsD at e; cases e; unfold RVs at h; exact h
  | d :: ds, _, _, e, h => by
    unfold RVs at h
    obtain ⟨v, r, rfl, h1, h2⟩ := h
    cases d with
    | int b =>
      simp only [intsD, Option.map_eq_some_iff] at e
      obtain ⟨bs, e1, rfl⟩ := e
      rw [h1.of_int, intsD_rv e1 h2]
      rfl
    | _ => cases e
theorem RVs.two {ow : Addr → Prop} {io : List Addr} {H : Hp} {x y : D} {vs : List V} (h : RVs S ow io H [x, y] vs) : ∃ v u, vs = [v, u] ∧ RV S ow io H x v ∧ RV S ow io H y u := by
  unfold RVs at h
  obtain ⟨v, r, rfl, h1, h2⟩ := h
  obtain ⟨u, rfl, h3⟩ := h2.one
  exact ⟨v, u, rfl, h1, h3⟩
theorem bl_ok (ov : Ov S X) (hc : X.calm = true) (b : Bl) : BlK X S W b := by
  cases b with
  | len =>
    refine .fn "len" _ (call_len_seq.or call_len_str) (by decide +kernel) fun ow io H fr m σ ds vs Q rp hv p => ?_
    simp only [bltD] at p
    unfold lenB at p
    split at p
    · rename_i x
      obtain ⟨v, rfl, h1⟩ := hv.one
      cases e : lenD x m with
      | none => rw [e] at p; exact p.elim
      | some n =>
        rw [e] at p
        have q := p.here rp.h .mk_int
        unfold lenD at e
        split at e
        · split at e
          · cases e
            rename_i hl
            cases h1.of_str
            exact .inr ⟨_, rfl, hl, q⟩
          · cases e
        · rw [Option.map_eq_some_iff] at e
          obtain ⟨xs, e1, e2⟩ := e
          obtain ⟨a, us, rfl, hs, q1⟩ := seqD_ok rp.h h1 e1
          refine .inl ⟨a, us, rfl, by rw [ov.K]; exact hs, ?_⟩
          rw [← q1.length, e2]
          exact q
    · exact p.elim
  | int_ =>
    refine .ty "int" _ call_int1 (by decide +kernel) fun ow io H fr m σ ds vs Q rp hv p => ?_
    simp only [bltD] at p
    unfold intB at p
    split at p
    · obtain ⟨v, rfl, h1⟩ := hv.one
      cases h1.of_int
      exact .inl ⟨_, rfl, p.here rp.h .mk_int⟩
    · obtain ⟨v, rfl, h1⟩ := hv.one
      cases h1.of_bl
      exact .inr ⟨_, rfl, p.here rp.h .mk_int⟩
    · exact p.elim
  | abs =>
    refine .fn "abs" _ call_abs (by decide +kernel) fun ow io H fr m σ ds vs Q rp hv p => ?_
    simp only [bltD] at p
    unfold absB at p
    split at p
    · obtain ⟨v, rfl, h1⟩ := hv.one
      cases h1.of_int
      exact ⟨_, rfl, p.here rp.h .mk_int⟩
    · exact p.elim
  | all =>
    refine .fn "all" _ (cr_all hc) (by decide +kernel) fun ow io H fr m σ ds vs Q rp hv p => ?_
    simp only [bltD] at p
    unfold allB at p
    split at p
    · rename_i xs
      obtain ⟨v, rfl, h1⟩ := hv.one
      obtain ⟨a, us, rfl, ha, q1⟩ := h1.of_lst
      cases e : blsD xs with
      | none => rw [e] at p; exact p.elim
      | some bs =>
        rw [e] at p
        rw [blsD_rv e q1] at ha
        exact ⟨a, bs, rfl, .of ha, p.here rp.h .mk_bl⟩
    · exact p.elim
  | any =>
    refine .fn "any" _ (cr_any hc) (by decide +kernel) fun ow io H fr m σ ds vs Q rp hv p => ?_
    simp only [bltD] at p
    unfold anyB at p
    split at p
    · rename_i xs
      obtain ⟨v, rfl, h1⟩ := hv.one
      obtain ⟨a, us, rfl, ha, q1⟩ := h1.of_lst
      cases e : blsD xs with
      | none => rw [e] at p; exact p.elim
      | some bs =>
        rw [e] at p
        rw [blsD_rv e q1] at ha
        exact ⟨a, bs, rfl, .of ha, p.here rp.h .mk_bl⟩
    · exact p.elim
  | list =>
    refine .ty "list" _ call_list_of (by decide +kernel) fun ow io H fr m σ ds vs Q rp hv p => ?_
    simp only [bltD] at p
    unfold listB at p
    split at p
    · rename_i x
      obtain ⟨v, rfl, h1⟩ := hv.one
      cases e : seqD x m with
      | none => rw [e] at p; exact p.elim
      | some xs =>
        rw [e] at p
        obtain ⟨a, us, rfl, hs, q1⟩ := seqD_ok rp.h h1 e
        exact ⟨a, us, rfl, by rw [ov.K]; exact hs, fun l hl => p.laid rp.h hl (.mk_lst hl (notOwned rp hl) q1)⟩
    · exact p.elim
  | tuple =>
    refine .ty "tuple" _ call_tuple_of (by decide +kernel) fun ow io H fr m σ ds vs Q rp hv p => ?_
    simp only [bltD] at p
    unfold tupleB at p
    split at p
    · obtain ⟨v, rfl, h1⟩ := hv.one
      have h2 := h1
      obtain ⟨a, us, rfl, ha, q1⟩ := h1.of_tup
      exact ⟨a, us, rfl, .inr ⟨by rw [ov.K]; exact ha, p.here rp.h h2⟩⟩
    · obtain ⟨v, rfl, h1⟩ := hv.one
      obtain ⟨a, us, rfl, ha, q1⟩ := h1.of_lst
      exact ⟨a, us, rfl, .inl ⟨.of ha, fun l hl => p.laid rp.h hl (.mk_tup hl (notOwned rp hl) q1)⟩⟩
    · exact p.elim
  | str =>
    refine .ty "str" _ call_str_int (by decide +kernel) fun ow io H fr m σ ds vs Q rp hv p => ?_
    simp only [bltD] at p
    unfold strB at p
    split at p
    · split at p
      · rename_i hl
        obtain ⟨v, rfl, h1⟩ := hv.one
        cases h1.of_int
        exact ⟨_, rfl, hl, p.here rp.h .mk_str⟩
      · exact p.elim
    · exact p.elim
  | sum =>
    refine .fn "sum" _ (cr_sum hc) (by decide +kernel) fun ow io H fr m σ ds vs Q rp hv p => ?_
    simp only [bltD] at p
    unfold sumB at p
    split at p
    · rename_i xs
      obtain ⟨v, rfl, h1⟩ := hv.one
      obtain ⟨a, us, rfl, ha, q1⟩ := h1.of_lst
      cases e : intsD xs with
      | none => rw [e] at p; exact p.elim
      | some bs =>
        rw [e] at p
        rw [intsD_rv e q1] at ha
        exact ⟨a, bs, rfl, .of ha, p.here rp.h .mk_int⟩
    · exact p.elim
  | max2 =>
    refine .fn "max" _ (call_max2 hc) (by decide +kernel) fun ow io H fr m σ ds vs Q rp hv p => ?_
    simp only [bltD] at p
    unfold maxB at p
    split at p
    · obtain ⟨v, u, rfl, h1, h2⟩ := hv.two
      cases h1.of_int; cases h2.of_int
      exact ⟨_, _, rfl, p.here rp.h .mk_int⟩
    · exact p.elim
  | min2 =>
    refine .fn "min" _ (call_min2 hc) (by decide +kernel) fun ow io H fr m σ ds vs Q rp hv p => ?_
    simp only [bltD] at p
    unfold minB at p
    split at p
    · obtain ⟨v, u, rfl, h1, h2⟩ := hv.two
      cases h1.of_int; cases h2.of_int
      exact ⟨_, _, rfl, p.here rp.h .mk_int⟩
    · exact p.elim
theorem se_blt {b : Bl} {e : Expr} (ov : Ov S X) (hc : X.calm = true) (hg : Gl X (blName b)) (hm : S.mg (blName b) = none) (ha : PA X (e :: es) (tRs S W fs)) (hn : (e :: es).all nst = true) (hd : (blName b == ("__debug__" : Str)) = false) (hnm : blName b ≠ "__name__") :
    SE X S W (.Call (.Name (blName b) p) (e :: es) [] pos) (fun fr m => (fs fr m).bind fun ds m1 => optR (bltD b ds m1) m1) := by
  rw [List.all_cons, Bool.and_eq_true] at hn
  rw [← ov.mg] at hm
  cases bl_ok (W := W) ov hc b with
  | fn id r hr hv h =>
    refine PE.imp (pe_callB hr hg hm hv ha hnm hd (starEach_ns hn.1) (stars_any hn.2)) fun σ H Q ⟨ow, io, fr, m, rp, p⟩ => ?_
    exact ⟨ow, io, fr, m, rp, p.seqs fun ds m1 io1 H1 vs x1 r1 v1 p1 => h ow io1 H1 fr m1 σ ds vs Q (rp.ex x1 r1) v1 p1⟩
  | ty T r hr hv h =>
    refine PE.imp (pe_callTy hr hg hm hv ha hnm hd (starEach_ns hn.1) (stars_any hn.2)) fun σ H Q ⟨ow, io, fr, m, rp, p⟩ => ?_
    exact ⟨ow, io, fr, m, rp, p.seqs fun ds m1 io1 H1 vs x1 r1 v1 p1 => h ow io1 H1 fr m1 σ ds vs Q (rp.ex x1 r1) v1 p1⟩
end
end Mp
end
section
set_option Elab.async false
set_option linter.all false
set_option maxRecDepth 100000
set_option maxHeartbeats 1000000
/-! MpLoops: targets, what is walked, comprehensions. -/
namespace Mp
open PySem PySem.Spec PyProof.Rows L2

section
variable {S : Sta} {ow : Addr → Prop} {io : List Addr} {H : Hp} {fr fr' : Fr} {σ σ' : L2.St}
theorem RF.set {i : Nat} {d : Sl} {v : V} (h : RF S ow io H fr σ) (q : RSl S ow io H d v) : RF S ow io H (fr.set i (some d)) (σ.set i (some v)) := by
  refine ⟨by rw [List.length_set, List.length_set]; exact h.1, fun j e hj => ?_⟩
  by_cases hij : i = j
  · subst hij
    by_cases hl : i < fr.length
    · rw [List.getElem?_set_self hl] at hj
      cases hj
      exact ⟨v, by rw [List.getElem?_set_self (Nat.lt_of_lt_of_le hl h.1)], q⟩
    · rw [List.getElem?_eq_none (by rw [List.length_set]; omega)] at hj
      cases hj
  · rw [List.getElem?_set_ne hij] at hj ⊢
    exact h.2 j e hj
/-- the slots outside are as they were -/
def Off (is : List Nat) (σ σ' : L2.St) : Prop := σ'.length = σ.length ∧ ∀ j, j ∉ is → σ'[j]? = σ[j]?
theorem Off.refl (is : List Nat) (σ : L2.St) : Off is σ σ := ⟨rfl, fun _ _ => rfl⟩
theorem Off.trans {is : List Nat} {σ σ1 σ2 : L2.St} (a : Off is σ σ1) (b : Off is σ1 σ2) : Off is σ σ2 := ⟨b.1.trans a.1, fun j h => (b.2 j h).trans (a.2 j h)⟩
theorem Off.mono {is js : List Nat} {σ σ1 : L2.St} (a : Off is σ σ1) (h : ∀ i ∈ is, i ∈ js) : Off js σ σ1 := ⟨a.1, fun j hj => a.2 j fun z => hj (h j z)⟩
theorem wipe_get {σ : L2.St} {j : Nat} : ∀ vs : List Nat, (wipe σ vs)[j]? = if j ∈ vs ∧ j < σ.length then some none else σ[j]?
  | [] => by simp [wipe]
  | v :: vs => by
    unfold wipe
    by_cases hv : v = j
    · subst hv
      by_cases hl : v < σ.length
      · rw [List.getElem?_set_self (by rw [wipe_length]; exact hl), if_pos ⟨List.mem_cons_self, hl⟩]
      · rw [List.getElem?_eq_none (by rw [List.length_set, wipe_length]; omega), if_neg (by omega), List.getElem?_eq_none (by omega)]
    · rw [List.getElem?_set_ne hv, wipe_get vs]
      have : (j ∈ v :: vs ∧ j < σ.length) ↔ (j ∈ vs ∧ j < σ.length) := by
        rw [List.mem_cons]
        constructor
        · rintro ⟨h | h, l⟩
          · exact absurd h.symm hv
          · exact ⟨h, l⟩
        · rintro ⟨h, l⟩; exact ⟨.inr h, l⟩
      simp only [this]
theorem Off.wipe {vs : List Nat} (h : Off vs σ σ') : L2.wipe σ' vs = L2.wipe σ vs := by
  apply List.ext_getElem?
  intro j
  rw [wipe_get, wipe_get, h.1]
  by_cases hj : j ∈ vs ∧ j < σ.length
  · rw [if_pos hj, if_pos hj]
  · rw [if_neg hj, if_neg hj]
    by_cases hv : j ∈ vs
    · have : ¬ j < σ.length := fun l => hj ⟨hv, l⟩
      rw [List.getElem?_eq_none (by rw [h.1]; omega), List.getElem?_eq_none (by omega)]
    · exact h.2 j hv
theorem RF.wipe {vs : List Nat} (h : RF S ow io H fr σ) : RF S ow io H (wipeF fr vs) (L2.wipe σ vs) := by
  induction vs with
  | nil => exact h
  | cons v vs ih =>
    refine ⟨by unfold wipeF L2.wipe; rw [List.length_set, List.length_set]; exact ih.1, fun j e hj => ?_⟩
    unfold wipeF at hj
    unfold L2.wipe
    by_cases hv : v = j
    · subst hv
      by_cases hl : v < (wipeF fr vs).length
      · rw [List.getElem?_set_self hl] at hj; cases hj
      · rw [List.getElem?_eq_none (by rw [List.length_set]; omega)] at hj; cases hj
    · rw [List.getElem?_set_ne hv] at hj ⊢
      exact ih.2 j e hj
end

/-! ### targets -/
def gR (S : Sta) (t : Tg) : TG := fun v σ H Q => ∃ ow io d fr fr', RV S ow io H d v ∧ RF S ow io H fr σ ∧ tgD t d fr = some fr' ∧ ∀ σ', RF S ow io H fr' σ' → Off (slots t) σ σ' → Q σ' H
def gRs (S : Sta) (ts : List Tg) : TGs := fun vs σ H Q => ∃ ow io ds fr fr', RVs S ow io H ds vs ∧ RF S ow io H fr σ ∧ tgDs ts ds fr = some fr' ∧ ∀ σ', RF S ow io H fr' σ' → Off (slotss ts) σ σ' → Q σ' H
theorem PG.imp {X : Cx} {e : Expr} {t t' : TG} (h : PG X e t) (i : ∀ v σ H Q, t' v σ H Q → t v σ H Q) : PG X e t' := ⟨fun pins s σ H v u Q I r q => h.run pins s σ H v u Q I r (i _ _ _ _ q)⟩
theorem PGs.imp {X : Cx} {e : List Expr} {t t' : TGs} (h : PGs X e t) (i : ∀ v σ H Q, t' v σ H Q → t v σ H Q) : PGs X e t' := ⟨fun pins s σ H v u Q I r q => h.run pins s σ H v u Q I r (i _ _ _ _ q)⟩
section
variable {X : Cx} {S : Sta} {pos : Pos}
theorem sg_name {i : Nat} {x : Str} (hN : X.N.Nodup) (hi : X.N[i]? = some x) (hx : Loc X.env.scope x) (hf : X.fn x = true ∨ X.env.scope.names.lookup x = some .local) : PG X (.Name x pos) (gR S (.nm i)) := by
  refine PG.imp (pg_name hN hi hx hf) fun v σ H Q ⟨ow, io, d, fr, fr', hv, hr, ht, q⟩ => ?_
  unfold tgD at ht
  cases ht
  refine q _ (hr.set (d := .val d) hv) ⟨List.length_set, fun j hj => ?_⟩
  unfold slots at hj
  rw [List.getElem?_set_ne (fun e => hj (by rw [e]; exact List.mem_singleton.mpr rfl))]
theorem sgs_nil : PGs X [] (gRs S []) := by
  refine PGs.imp pgs_nil fun vs σ H Q ⟨ow, io, ds, fr, fr', hv, hr, ht, q⟩ => ?_
  cases ds with
  | nil =>
    unfold tgDs at ht
    cases ht
    unfold RVs at hv
    exact ⟨hv, q σ hr (.refl _ _)⟩
  | cons d ds => unfold tgDs at ht; cases ht
theorem sgs_cons {e : Expr} {es : List Expr} {t : Tg} {ts : List Tg} (h1 : PG X e (gR S t)) (h2 : PGs X es (gRs S ts)) (hs : (assignEach (e :: es) X.env).map (·.2) = assign e X.env :: (assignEach es X.env).map (·.2)) : PGs X (e :: es) (gRs S (t :: ts)) := by
  refine PGs.imp (pgs_cons h1 h2 hs) fun vs σ H Q ⟨ow, io, ds, fr, fr', hv, hr, ht, q⟩ => ?_
  cases ds with
  | nil => unfold tgDs at ht; cases ht
  | cons d ds =>
    unfold RVs at hv
    obtain ⟨v, r, rfl, v1, v2⟩ := hv
    unfold tgDs at ht
    cases e1 : tgD t d fr with
    | none => rw [e1] at ht; cases ht
    | some fr1 =>
      rw [e1] at ht
      refine ⟨v, r, rfl, ow, io, d, fr, fr1, v1, hr, e1, fun σ1 hr1 o1 => ?_⟩
      refine ⟨ow, io, ds, fr1, fr', v2, hr1, ht, fun σ2 hr2 o2 => q σ2 hr2 ?_⟩
      unfold slotss
      exact (o1.mono fun i hi => List.mem_append_left _ hi).trans (o2.mono fun i hi => List.mem_append_right _ hi)
theorem tgDs_len : ∀ {ts : List Tg} {ds : List D} {fr fr' : Fr}, tgDs ts ds fr = some fr' → ds.length = ts.length
  | [], [], _, _, _ => rfl
  | [], _ :: _, _, _, h => by unfold tgDs at h; cases h
  | _ :: _, [], _, _, h => by unfold tgDs at h; cases h
  | t :: ts, d :: ds, fr, _, h => by
    unfold tgDs at h
    cases e : tgD t d fr with
    | none => rw [e] at h; cases h
    | some f1 => rw [e] at h; rw [List.length_cons, List.length_cons, tgDs_len h]
theorem sg_tup {es : List Expr} {k : Nat} {ts : List Tg} (ov : Ov S X) (hc : X.calm = true) (h : PGs X es (gRs S ts)) (hn : (assignEach es X.env).length = ts.length) (hst : (assignEach es X.env).findIdx? (·.1) = none) : PG X (.Tuple es k pos) (gR S (.tup ts)) := by
  refine ⟨fun pins s σ H v u Q I r ⟨ow, io, d, fr, fr', hv, hr, ht, q⟩ => ?_⟩
  cases d with
  | lst ds =>
    obtain ⟨a, vs, rfl, h1, h2⟩ := hv.of_lst
    unfold tgD at ht
    refine (L2.pg_lst hc h hn hst).run pins s σ H _ _ Q I r ⟨a, vs, rfl, .inl (.inl h1), by rw [← h2.length]; exact tgDs_len ht, ow, io, ds, fr, fr', h2, hr, ht, fun σ' h3 h4 => q σ' h3 ?_⟩
    unfold slots
    exact h4
  | tup ds =>
    obtain ⟨a, vs, rfl, h1, h2⟩ := hv.of_tup
    unfold tgD at ht
    refine (pg_tup hc h hn hst).run pins s σ H _ _ Q I r ⟨a, vs, rfl, by rw [ov.K]; exact h1, by rw [← h2.length]; exact tgDs_len ht, ow, io, ds, fr, fr', h2, hr, ht, fun σ' h3 h4 => q σ' h3 ?_⟩
    unfold slots
    exact h4
  | _ => unfold tgD at ht; cases ht
end

/-! ### what is walked -/
structure JOk (S : Sta) (ow : Addr → Prop) (io : List Addr) (H : Hp) (J : It) (xs : List D) : Prop where
  go : ∀ i ow' io' H', i < xs.length → Ey ow io H ow' io' H' → J.go i H'
  stop : ∀ ow' io' H', Ey ow io H ow' io' H' → J.stop xs.length H'
  yld : ∀ i ow' io' H' x H2, i < xs.length → Ey ow io H ow' io' H' → J.yld i H' x H2 → ∃ d, xs[i]? = some d ∧
    ((H2 = H' ∧ RV S ow' io' H' d x) ∨ ∃ T vs ds, H' T = none ∧ H2 = upd H' T (.tup vs) ∧ x = .ref T ∧ d = .tup ds ∧ RVs S ow' io' H' ds vs)
def PostI (S : Sta) (W : WX) (ow : Addr → Prop) (io : List Addr) (H : Hp) (σ : L2.St) (Q : It → Hp → Prop) : R (List D) → Prop
  | .ok xs m' => ∀ io' H' J, Ex io H io' H' → RH S ow io' H' m' → JOk S ow io' H' J xs → Q J H'
  | .exc x m' => ∀ io' H' dx fs, Ex io H io' H' → RH S ow io' H' m' → H' dx = some (.xd fs) → dx ∉ io' → ¬ ow dx → RFs S ow io' H' x.ns x.ds fs → W (.ref (S.ca x.c)) (some dx) σ H'
  | .bad => False
def tI (S : Sta) (W : WX) (f : Fes) : TI := fun σ H R => ∃ ow io fr m, Rp S ow io H fr m σ ∧ PostI S W ow io H σ R (f fr m)
theorem PI.imp {X : Cx} {tg e : Expr} {t t' : TI} (h : PI X tg e t) (i : ∀ σ H Q, t' σ H Q → t σ H Q) : PI X tg e t' := ⟨fun pins s σ H Q I q => h.run pins s σ H Q I (i _ _ _ q)⟩
/-- the items of a value -/
def itF (f : Fe) : Fes := fun fr m => (f fr m).bind fun x m1 => match itemsD x with | some xs => .ok xs m1 | none => .bad
section
variable {X : Cx} {S : Sta} {W : WX} {tg a b : Expr} {fa fb : Fe} {pos : Pos}
theorem PostI.seq {ow : Addr → Prop} {io : List Addr} {H : Hp} {σ : L2.St} {r : R D} {k : D → MH → R (List D)} {Q : It → Hp → Prop} {Q1 : VK} (p : PostI S W ow io H σ Q (r.bind k))
    (st : ∀ x m1 io1 H1 v, Ex io H io1 H1 → RH S ow io1 H1 m1 → RV S ow io1 H1 x v → PostI S W ow io1 H1 σ Q (k x m1) → Q1 v H1) : Post S W ow io H σ Q1 r := by
  cases r with
  | ok d m' =>
    intro io' H' v y h q
    refine st d m' io' H' v y h q ?_
    have p : PostI S W ow io H σ Q (k d m') := p
    cases e : k d m' with
    | ok xs m2 => rw [e] at p; exact fun io2 H2 J x1 => p io2 H2 J (y.trans x1)
    | exc z m2 => rw [e] at p; exact fun io2 H2 dx fs x1 => p io2 H2 dx fs (y.trans x1)
    | bad => rw [e] at p; exact p
  | exc e m' => exact p
  | bad => exact p
theorem SqL.ey {K : PySem.W.Frag} {ow ow' : Addr → Prop} {io io' : List Addr} {H H' : Hp} {a : Addr} {vs : List V} (x : Ey ow io H ow' io' H') (h : Sil ow io H a (.lst vs) ∨ KLst K a vs) : SqL K H' a vs := h.imp (fun z => (Sil.ey (o := .lst vs) x True.intro z).1) id
theorem SqT.ey {K : PySem.W.Frag} {ow ow' : Addr → Prop} {io io' : List Addr} {H H' : Hp} {a : Addr} {vs : List V} (x : Ey ow io H ow' io' H') (h : Sil ow io H a (.tup vs) ∨ KTup K a vs) : SqT K H' a vs := h.imp (fun z => (Sil.ey (o := .tup vs) x True.intro z).1) id
theorem jok_list {ow : Addr → Prop} {io : List Addr} {H : Hp} {a : Addr} {vs : List V} {xs : List D} (h : Sil ow io H a (.lst vs) ∨ KLst S.K a vs) (q : RVs S ow io H xs vs) : JOk S ow io H (Itl S.K a) xs where
  go := fun i ow' io' H' hi x => by
    rw [q.length] at hi
    exact ⟨vs, vs[i], SqL.ey x h, by simp [hi]⟩
  stop := fun ow' io' H' x => ⟨vs, SqL.ey x h, by rw [q.length]; exact Nat.le_refl _⟩
  yld := fun i ow' io' H' v H2 hi x y => by
    have e1 := y.2 vs (SqL.ey x h)
    obtain ⟨w, e2, q2⟩ := (q.ey x).get (List.getElem?_eq_getElem hi)
    rw [e1] at e2
    cases e2
    exact ⟨xs[i], List.getElem?_eq_getElem hi, .inl ⟨y.1, q2⟩⟩
theorem jok_tup {ow : Addr → Prop} {io : List Addr} {H : Hp} {a : Addr} {vs : List V} {xs : List D} (h : Sil ow io H a (.tup vs) ∨ KTup S.K a vs) (q : RVs S ow io H xs vs) : JOk S ow io H (Itt S.K a) xs where
  go := fun i ow' io' H' hi x => by
    rw [q.length] at hi
    exact ⟨vs, vs[i], SqT.ey x h, by simp [hi]⟩
  stop := fun ow' io' H' x => ⟨vs, SqT.ey x h, by rw [q.length]; exact Nat.le_refl _⟩
  yld := fun i ow' io' H' v H2 hi x y => by
    have e1 := y.2 vs (SqT.ey x h)
    obtain ⟨w, e2, q2⟩ := (q.ey x).get (List.getElem?_eq_getElem hi)
    rw [e1] at e2
    cases e2
    exact ⟨xs[i], List.getElem?_eq_getElem hi, .inl ⟨y.1, q2⟩⟩
theorem jok_range {ow : Addr → Prop} {io : List Addr} {H : Hp} {lo : Int} {n : Nat} : JOk S ow io H (Itr lo n) ((List.range n).map fun (k : Nat) => .int (lo + (k : Int))) where
  go := fun i ow' io' H' hi x => by
    rw [List.length_map, List.length_range] at hi
    exact hi
  stop := fun ow' io' H' x => by
    rw [List.length_map, List.length_range]
    exact Nat.le_refl n
  yld := fun i ow' io' H' v H2 hi x y => by
    rw [List.length_map, List.length_range] at hi
    refine ⟨.int (lo + (i : Int)), by simp [hi], .inl ⟨y.1, ?_⟩⟩
    rw [y.2]
    exact .mk_int
theorem jok_str {ow : Addr → Prop} {io : List Addr} {H : Hp} {z : Str} : JOk S ow io H (Its z) (z.cps.toList.map fun c => .str ⟨#[c]⟩) where
  go := fun i ow' io' H' hi x => by
    rw [List.length_map, Array.length_toList] at hi
    exact hi
  stop := fun ow' io' H' x => by
    rw [List.length_map, Array.length_toList]
    exact Nat.le_refl _
  yld := fun i ow' io' H' v H2 hi x y => by
    obtain ⟨e, c, e1, e2⟩ := y
    refine ⟨.str ⟨#[c]⟩, by simp [e1], .inl ⟨e, ?_⟩⟩
    rw [e2]
    exact .mk_str
/-- a list, a tuple, a text -/
def iAny (K : PySem.W.Frag) (tl : TE) : TI := fun σ H R => tl σ H fun x H1 => (∃ a, x = .ref a ∧ (∃ xs, SqL K H1 a xs) ∧ R (Itl K a) H1) ∨ (∃ a, x = .ref a ∧ (∃ xs, SqT K H1 a xs) ∧ R (Itt K a) H1) ∨ (∃ z, x = .str z ∧ R (Its z) H1)
theorem pi_any {X : Cx} {tg l : Expr} {tl : TE} (hl : PE X l tl) : PI X tg l (iAny X.K tl) := by
  refine ⟨fun pins s σ H R I h => ?_⟩
  refine thn (hl.run pins s σ H _ I h) fun v s1 ⟨y, H1, I1, r1, q⟩ => ?_
  rcases q with ⟨a, rfl, ⟨xs, hq⟩, q⟩ | ⟨a, rfl, ⟨xs, hq⟩, q⟩ | ⟨x, rfl, q⟩
  · cases r1
    obtain ⟨its, rv, p, hz⟩ := I1.list hq
    refine wpAny_pyIter_list p.isList ?_
    refine ⟨s1.heap.objs.size, [s1.heap.objs.size], _, _, H1, rfl, I1.kept (t' := s1.toks) fun b o e => Heap.get?_push_of_some _ e, turn_list a _, ⟨_, Heap.get?_push_size _ rfl, rfl, rfl⟩, fun b hb => ?_, q⟩
    have e : b = s1.heap.objs.size := by simpa using hb
    subst e
    exact I1.fpOk (Nat.le_refl _) (I1.hok.fresh (Nat.le_refl _))
  · cases r1
    obtain ⟨its, rv, p, hz⟩ := I1.tuple hq
    refine wpAny_pyIter_tuple (show s1.heap.IsTuple a its.toArray from p) ?_
    refine ⟨s1.heap.objs.size, [s1.heap.objs.size], _, _, H1, rfl, I1.kept (t' := s1.toks) fun b o e => Heap.get?_push_of_some _ e, turn_tuple a _, ⟨_, Heap.get?_push_size _ rfl, rfl, rfl⟩, fun b hb => ?_, q⟩
    have e : b = s1.heap.objs.size := by simpa using hb
    subst e
    exact I1.fpOk (Nat.le_refl _) (I1.hok.fresh (Nat.le_refl _))
  · obtain ⟨t, rfl⟩ := r1
    cases ha : x.cps.all (· < 128)
    · exact wpAny_pyIter_wide ha (pi_one (tk := s1.toks) I1 _ (turn_str _ x t "str_iterator" (.inr rfl)) ⟨_, Heap.get?_push_size _ rfl, rfl, rfl⟩ q)
    · exact wpAny_pyIter_ascii ha (pi_one (tk := s1.toks) I1 _ (turn_str _ x t "str_ascii_iterator" (.inl rfl)) ⟨_, Heap.get?_push_size _ rfl, rfl, rfl⟩ q)
/-- what the items of a value stand on -/
theorem items_rv {ow : Addr → Prop} {io : List Addr} {H : Hp} {x : D} {v : V} {xs : List D} (hx : RV S ow io H x v) (e : itemsD x = some xs) :
    (∃ a vs, v = .ref a ∧ (Sil ow io H a (.lst vs) ∨ KLst S.K a vs) ∧ RVs S ow io H xs vs) ∨ (∃ a vs, v = .ref a ∧ (Sil ow io H a (.tup vs) ∨ KTup S.K a vs) ∧ RVs S ow io H xs vs) ∨ ∃ z, v = .str z ∧ xs = z.cps.toList.map fun c => .str ⟨#[c]⟩ := by
  cases x with
  | str z => cases e; cases hx.of_str; exact .inr (.inr ⟨z, rfl, rfl⟩)
  | tup ys =>
    cases e
    unfold RV at hx
    obtain ⟨a, vs, e, r, q⟩ := hx
    exact .inr (.inl ⟨a, vs, e, r, q⟩)
  | lst ys =>
    cases e
    unfold RV at hx
    obtain ⟨a, vs, e, r, q⟩ := hx
    exact .inl ⟨a, vs, e, .inl ⟨.inl r.1, r.2⟩, q⟩
  | fz ys =>
    cases e
    unfold RV at hx
    obtain ⟨a, vs, e, r, q⟩ := hx
    exact .inl ⟨a, vs, e, r, q⟩
  | _ => cases e
theorem si_val (ov : Ov S X) (h : SE X S W a fa) : PI X tg a (tI S W (itF fa)) := by
  refine PI.imp (pi_any h) fun σ H Q ⟨ow, io, fr, m, rp, p⟩ => ?_
  refine ⟨ow, io, fr, m, rp, p.seq fun x m1 io1 H1 v x1 r1 v1 p1 => ?_⟩
  cases e : itemsD x with
  | none => rw [e] at p1; exact p1.elim
  | some xs =>
    rw [e] at p1
    rw [ov.K]
    rcases items_rv v1 e with ⟨b, vs, rfl, h1, q1⟩ | ⟨b, vs, rfl, h1, q1⟩ | ⟨z, rfl, rfl⟩
    · exact .inl ⟨b, rfl, ⟨vs, SqL.ey (.refl _ _ _) h1⟩, p1 io1 H1 _ (.refl _ _) r1 (jok_list h1 q1)⟩
    · exact .inr (.inl ⟨b, rfl, ⟨vs, SqT.ey (.refl _ _ _) h1⟩, p1 io1 H1 _ (.refl _ _) r1 (jok_tup h1 q1)⟩)
    · exact .inr (.inr ⟨z, rfl, p1 io1 H1 _ (.refl _ _) r1 jok_str⟩)
/-! range -/
def rng1F (fb : Fe) : Fes := fun fr m => (fb fr m).bind fun y m1 => match rngD (.int 0) y with | some xs => .ok xs m1 | none => .bad
def rng2F (fa fb : Fe) : Fes := fun fr m => (fa fr m).bind fun x m1 => (fb fr m1).bind fun y m2 => match rngD x y with | some xs => .ok xs m2 | none => .bad
theorem rngD_ok {x y : D} {xs : List D} (e : rngD x y = some xs) : ∃ i j, x = .int i ∧ y = .int j ∧ (-(2 ^ 62) ≤ i ∧ i < 2 ^ 62 ∧ -(2 ^ 62) ≤ j ∧ j < 2 ^ 62) ∧ xs = (List.range (j - i).toNat).map fun (n : Nat) => .int (i + (n : Int)) := by
  unfold rngD at e
  split at e
  · unfold rngI at e
    split at e
    · rename_i h
      cases e
      exact ⟨_, _, rfl, rfl, h, rfl⟩
    · cases e
  · cases e
theorem si_rng1 {p : Pos} (hg : Gl X "range") (hm : X.mg "range" = none) (h : SE X S W b fb) (hn : nst b = true) : PI X tg (.Call (.Name "range" p) [b] [] pos) (tI S W (rng1F fb)) := by
  refine PI.imp (pi_range1 hg hm (pa_cons h pa_nil (starEach_ns hn)) (starEach_ns hn)) fun σ H Q ⟨ow, io, fr, m, rp, p⟩ => ?_
  refine ⟨ow, io, fr, m, rp, p.seq fun y m1 io1 H1 v x1 r1 v1 p1 => ?_⟩
  cases e : rngD (.int 0) y with
  | none => rw [e] at p1; exact p1.elim
  | some xs =>
    rw [e] at p1
    obtain ⟨i, j, e1, rfl, h4, rfl⟩ := rngD_ok e
    cases e1
    cases v1.of_int
    refine ⟨j, rfl, h4.2.2.1, h4.2.2.2, p1 io1 H1 _ (.refl _ _) r1 ?_⟩
    have z := jok_range (S := S) (ow := ow) (io := io1) (H := H1) (lo := 0) (n := j.toNat)
    rw [Int.sub_zero]
    exact z
theorem si_rng2 {p : Pos} (hg : Gl X "range") (hm : X.mg "range" = none) (ha : SE X S W a fa) (hb : SE X S W b fb) (hn : nst a = true) (hn2 : nst b = true) : PI X tg (.Call (.Name "range" p) [a, b] [] pos) (tI S W (rng2F fa fb)) := by
  refine PI.imp (pi_range2 hg hm (pa_cons ha (pa_cons hb pa_nil (starEach_ns hn2)) (starEach_ns hn)) (by rw [starEach_ns hn, starEach_ns hn2]; rfl) (starEach_ns hn2)) fun σ H Q ⟨ow, io, fr, m, rp, p⟩ => ?_
  refine ⟨ow, io, fr, m, rp, p.seq fun x m1 io1 H1 v x1 r1 v1 p1 => ?_⟩
  refine ⟨ow, io1, fr, m1, rp.ex x1 r1, p1.seq fun y m2 io2 H2 u x2 r2 u2 p2 => ?_⟩
  cases e : rngD x y with
  | none => rw [e] at p2; exact p2.elim
  | some xs =>
    rw [e] at p2
    obtain ⟨i, j, rfl, rfl, h4, rfl⟩ := rngD_ok e
    cases v1.of_int
    cases u2.of_int
    exact ⟨i, j, rfl, h4, p2 io2 H2 _ (.refl _ _) r2 jok_range⟩
def zipF (fa fb : Fe) : Fes := fun fr m => (fa fr m).bind fun x m1 => (fb fr m1).bind fun y m2 => match zipD x y with | some xs => .ok xs m2 | none => .bad
theorem si_zip {p tpos : Pos} {elts : List Expr} {kk : Nat} (ov : Ov S X) (hg : Gl X "zip") (hm : X.mg "zip" = none) (ha : SE X S W a fa) (hb : SE X S W b fb) (hn : nst a = true) (hn2 : nst b = true) :
    PI X (.Tuple elts kk tpos) (.Call (.Name "zip" p) [a, b] [] pos) (tI S W (zipF fa fb)) := by
  refine PI.imp (RZ.pi_zipA hg hm (pa_cons ha (pa_cons hb pa_nil (starEach_ns hn2)) (starEach_ns hn)) (starEach_ns hn) (by rw [starEach_ns hn2]; rfl)) fun σ H Q ⟨ow, io, fr, m, rp, p⟩ => ?_
  refine ⟨ow, io, fr, m, rp, p.seq fun x m1 io1 H1 v x1 r1 v1 p1 => ?_⟩
  refine ⟨ow, io1, fr, m1, rp.ex x1 r1, p1.seq fun y m2 io2 H2 u x2 r2 u2 p2 => ?_⟩
  rw [ov.K]
  have v1 := v1.ex x2
  cases e : zipD x y with
  | none => rw [e] at p2; exact p2.elim
  | some zs =>
    rw [e] at p2
    have fin : ∀ {J}, JOk S ow io2 H2 J zs → Q J H2 := fun j => p2 io2 H2 _ (.refl _ _) r2 j
    cases x with
    | tup xs =>
      cases y with
      | tup ys =>
        cases e
        unfold RV at v1 u2
        obtain ⟨p1, vs, rfl, h1, q1⟩ := v1
        obtain ⟨p2, us, rfl, h2, q2⟩ := u2
        refine ⟨p1, p2, vs, us, rfl, .inr ⟨SqT.ey (.refl _ _ _) h1, SqT.ey (.refl _ _ _) h2, fin ⟨fun i ow' io' H' hi x => ?_, fun ow' io' H' x => ?_, fun i ow' io' H' w H3 hi x y => ?_⟩⟩⟩
        · rw [List.length_map, List.length_zip, q1.length, q2.length] at hi
          exact ⟨vs, us, vs[i]'(by omega), us[i]'(by omega), SqT.ey x h1, SqT.ey x h2, by simp, by simp⟩
        · refine ⟨vs, us, SqT.ey x h1, SqT.ey x h2, ?_⟩
          rw [List.length_map, List.length_zip, q1.length, q2.length]
          omega
        · obtain ⟨T, a, b, rfl, hT, rfl, h5, h6⟩ := y
          have e1 := h5 vs (SqT.ey x h1)
          have e2 := h6 us (SqT.ey x h2)
          rw [List.length_map, List.length_zip] at hi
          obtain ⟨w1, f1, g1⟩ := (q1.ey x).get (List.getElem?_eq_getElem (show i < xs.length by omega))
          obtain ⟨w2, f2, g2⟩ := (q2.ey x).get (List.getElem?_eq_getElem (show i < ys.length by omega))
          rw [e1] at f1
          rw [e2] at f2
          cases f1
          cases f2
          exact ⟨pairD (xs[i]'(by omega), ys[i]'(by omega)), by
            rw [List.getElem?_map, List.getElem?_eq_getElem (show i < (xs.zip ys).length by rw [List.length_zip]; omega), List.getElem_zip]
            rfl, .inr ⟨T, _, _, hT, rfl, rfl, rfl, .cons g1 (.cons g2 .nil)⟩⟩
      | _ => cases e
    | lst xs =>
      cases y with
      | lst ys =>
        cases e
        unfold RV at v1 u2
        obtain ⟨p1, vs, rfl, h1, q1⟩ := v1
        obtain ⟨p2, us, rfl, h2, q2⟩ := u2
        have h1 : Sil ow io2 H2 p1 (.lst vs) ∨ KLst S.K p1 vs := .inl ⟨.inl h1.1, h1.2⟩
        have h2 : Sil ow io2 H2 p2 (.lst us) ∨ KLst S.K p2 us := .inl ⟨.inl h2.1, h2.2⟩
        refine ⟨p1, p2, vs, us, rfl, .inl ⟨SqL.ey (.refl _ _ _) h1, SqL.ey (.refl _ _ _) h2, fin ⟨fun i ow' io' H' hi x => ?_, fun ow' io' H' x => ?_, fun i ow' io' H' w H3 hi x y => ?_⟩⟩⟩
        · rw [List.length_map, List.length_zip, q1.length, q2.length] at hi
          exact ⟨vs, us, vs[i]'(by omega), us[i]'(by omega), SqL.ey x h1, SqL.ey x h2, by simp, by simp⟩
        · refine ⟨vs, us, SqL.ey x h1, SqL.ey x h2, ?_⟩
          rw [List.length_map, List.length_zip, q1.length, q2.length]
          omega
        · obtain ⟨T, a, b, rfl, hT, rfl, h5, h6⟩ := y
          have e1 := h5 vs (SqL.ey x h1)
          have e2 := h6 us (SqL.ey x h2)
          rw [List.length_map, List.length_zip] at hi
          obtain ⟨w1, f1, g1⟩ := (q1.ey x).get (List.getElem?_eq_getElem (show i < xs.length by omega))
          obtain ⟨w2, f2, g2⟩ := (q2.ey x).get (List.getElem?_eq_getElem (show i < ys.length by omega))
          rw [e1] at f1
          rw [e2] at f2
          cases f1
          cases f2
          exact ⟨pairD (xs[i]'(by omega), ys[i]'(by omega)), by
            rw [List.getElem?_map, List.getElem?_eq_getElem (show i < (xs.zip ys).length by rw [List.length_zip]; omega), List.getElem_zip]
            rfl, .inr ⟨T, _, _, hT, rfl, rfl, rfl, .cons g1 (.cons g2 .nil)⟩⟩
      | _ => cases e
    | _ => cases e
end
/-! ### comprehensions -/
theorem Ey.wider {o o2 : Addr → Prop} {io io' : List Addr} {H H' : Hp} (x : Ey o io H o io' H') (h : ∀ a, o a → o2 a) : Ey o2 io H o2 io' H' :=
  ⟨x.pre, x.new, fun _ p n => absurd p n, fun a u p s n w => x.keep a u p s n fun z => w (h a z), x.dom⟩
theorem Ey.outD {io io' : List Addr} {H H' : Hp} {D : Addr} {o : HO} (hD : H D = none) (x : Ey (fun a => a = D) io (upd H D o) (fun a => a = D) io' H') : Ex io H io' H' where
  pre := x.pre
  new := fun a h n => (x.new a h n).upd fun e => .of (e ▸ hD)
  keep := fun a u h s n => by
    have e : a ≠ D := ne_of_none h hD
    exact x.keep a u (by rw [upd_ne e]; exact h) s n e
  dom := fun a h => (x.dom a h).upd fun e => .of (e ▸ hD)
abbrev W0 : WX := fun _ _ _ _ => False
section
variable {X : Cx} {S : Sta} {W : WX} {pos : Pos}
theorem RSl.ey2 {ow ow' : Addr → Prop} {io io' : List Addr} {H H' : Hp} {s : Sl} {v : V} (x : Ey ow io H ow' io' H') (kp : ∀ a, ow a → ow' a ∧ H' a = H a ∧ a ∉ io') (h : RSl S ow io H s v) : RSl S ow' io' H' s v := by
  cases s with
  | val d => exact RV.ey x h
  | olst xs =>
    obtain ⟨a, vs, rfl, g1, g2, g3, g4⟩ := h
    obtain ⟨k1, k2, k3⟩ := kp a g3
    exact ⟨a, vs, rfl, k2.trans g1, g2.ey x, k1, k3⟩
theorem Rp.ey {ow ow' : Addr → Prop} {io io' : List Addr} {H H' : Hp} {fr : Fr} {m m' : MH} {σ : L2.St} (r : Rp S ow io H fr m σ) (x : Ey ow io H ow' io' H') (h : RH S ow' io' H' m') (o : ∀ a, ow' a → ¬ NT H' a) (kp : ∀ a, ow a → ow' a ∧ H' a = H a ∧ a ∉ io') : Rp S ow' io' H' fr m' σ :=
  ⟨h, ⟨r.f.1, fun i d e => let ⟨v, e1, q⟩ := r.f.2 i d e; ⟨v, e1, q.ey2 x kp⟩⟩, o⟩
theorem isOk_post {ow : Addr → Prop} {io : List Addr} {H : Hp} {σ : L2.St} {Q Q' : VK} {r : R D} {k : D → MH → Prop} (h : ∀ d m, r = .ok d m → ∀ io' H' v, Ex io H io' H' → RH S ow io' H' m → RV S ow io' H' d v → Q v H') (hr : ∃ d m, r = .ok d m) : Post S W0 ow io H σ Q r := by
  obtain ⟨d, m, rfl⟩ := hr
  exact fun io' H' v x h1 q => h d m rfl io' H' v x h1 q
def compF (vs : List Nat) (tg : Tg) (fi : Fes) (cs : List Fe) (fe : Fe) : Fe := fun fr m => (fi fr m).bind fun xs m1 => (compGo vs tg cs fe fr xs [] m1).bind fun ys m2 => .ok (.lst ys) m2
theorem Ey.ownew {ow : Addr → Prop} {io : List Addr} {H : Hp} {D : Addr} {o : HO} (hD : H D = none) : Ey ow io H (fun a => ow a ∨ a = D) io (upd H D o) where
  pre := List.prefix_refl _
  new := fun _ h n => absurd h n
  now := fun a h n => by
    rcases h with h | h
    · exact absurd h n
    · exact .of (h ▸ hD)
  keep := fun a u h _ _ _ => by rw [upd_ne (ne_of_none h hD)]; exact h
  dom := fun a h => h.upd fun e => .of (e ▸ hD)
theorem RO.ey {ow ow' : Addr → Prop} {io io' : List Addr} {H H' : Hp} {a : Addr} {o : MO} (x : Ey ow io H ow' io' H') (hk : H' a = H a) (h : RO S ow io H a o) : RO S ow' io' H' a o := by
  cases o with
  | lst xs => obtain ⟨vs, e, q⟩ := h; exact ⟨vs, hk.trans e, q.ey x⟩
  | dct ks xs => obtain ⟨kvs, e, q1, q⟩ := h; exact ⟨kvs, hk.trans e, q1, q.ey x⟩
  | ins C ns ds => obtain ⟨dx, fs, e, q1, q⟩ := h; exact ⟨dx, fs, hk.trans e, q1, q.ey x⟩
theorem RH.ownew {ow : Addr → Prop} {io : List Addr} {H : Hp} {m : MH} {D : Addr} {o : HO} (h : RH S ow io H m) (hD : H D = none) : RH S (fun a => ow a ∨ a = D) io (upd H D o) m where
  tab := tabs_fresh h.tab hD
  len := h.len
  nd := h.nd
  at_ := fun n u e => by
    obtain ⟨a, e1, e2, e3⟩ := h.at_ n u e
    have hm := (h.mem (List.mem_of_getElem? e1)).1
    have ne : a ≠ D := NT.ne hm hD
    exact ⟨a, e1, e2.ey (.ownew hD) (upd_ne ne), fun z => z.elim e3 ne⟩
theorem wipe_wipe (σ : L2.St) (vs : List Nat) : wipe (wipe σ vs) vs = wipe σ vs := by
  apply List.ext_getElem?
  intro j
  rw [wipe_get, wipe_length]
  by_cases hj : j ∈ vs ∧ j < σ.length
  · rw [if_pos hj, wipe_get, if_pos hj]
  · rw [if_neg hj]
theorem isOk_ok {α : Type} {r : R α} {β : Type} {k : α → MH → R β} {b : β} {m' : MH} (h : (isOk r).bind k = .ok b m') : ∃ a m, r = .ok a m ∧ k a m = .ok b m' := by
  cases r with
  | ok a m => exact ⟨a, m, rfl, h⟩
  | exc x m => cases h
  | bad => cases h
theorem bind_ok {α β : Type} {r : R α} {k : α → MH → R β} {b : β} {m' : MH} (h : r.bind k = .ok b m') : ∃ a m, r = .ok a m ∧ k a m = .ok b m' := by
  cases r with
  | ok a m => exact ⟨a, m, rfl, h⟩
  | exc x m => cases h
  | bad => cases h
/-- the comprehension makes no exception -/
theorem condGo_noexc : ∀ {cs : List Fe} {fr : Fr} {m : MH} {x : Exn} {m' : MH}, condGo cs fr m ≠ .exc x m'
  | [], _, _, _, _, h => by cases h
  | c :: cs, fr, m, x, m', h => by
    unfold condGo at h
    cases e : c fr m with
    | ok d m1 =>
      rw [e] at h
      simp only [isOk, R.ok_bind] at h
      split at h
      · exact condGo_noexc h
      · cases h
      · cases h
    | exc y m1 => rw [e] at h; cases h
    | bad => rw [e] at h; cases h
theorem compGo_noexc {vs : List Nat} {tg : Tg} {cs : List Fe} {el : Fe} {fr : Fr} : ∀ {ds acc : List D} {m : MH} {x : Exn} {m' : MH}, compGo vs tg cs el fr ds acc m ≠ .exc x m'
  | [], _, _, _, _, h => by unfold compGo at h; cases h
  | d :: ds, acc, m, x, m', h => by
    unfold compGo at h
    split at h
    · cases h
    · cases e : condGo cs ‹Fr› m with
      | ok b m1 =>
        rw [e] at h
        simp only [R.ok_bind] at h
        split at h
        · cases e2 : el ‹Fr› m1 with
          | ok y m2 =>
            rw [e2] at h
            simp only [isOk, R.ok_bind] at h
            split at h
            · exact compGo_noexc h
            · cases h
          | exc y m2 => rw [e2] at h; cases h
          | bad => rw [e2] at h; cases h
        · exact compGo_noexc h
      | exc y m1 => exact condGo_noexc e
      | bad => rw [e] at h; cases h
theorem comp_imp {own : List (Str × Nat)} {tg : Tg} {fi : Fes} {cs : List Fe} {fe : Fe} (hsl : ∀ i ∈ slots tg, i ∈ own.map (·.2)) {σ : L2.St} {H : Hp} {Q : VK} (h : tR S W (compF (own.map (·.2)) tg fi cs fe) σ H Q) :
    tLc (tI S W fi) (gR S tg) (tT S W0 (condGo cs)) (tR S W0 fe) (own.map (·.2)) σ H Q := by
  obtain ⟨ow, io, fr, m, rp, p⟩ := h
  unfold compF at p
  refine ⟨ow, io, fr, m, rp, ?_⟩
  cases q0 : fi fr m with
  | exc x m1 => rw [q0] at p; exact p
  | bad => rw [q0] at p; exact p
  | ok xs m1 =>
  rw [q0] at p
  have p : Post S W ow io H σ Q ((compGo (own.map (·.2)) tg cs fe fr xs [] m1).bind fun ys m2 => .ok (.lst ys) m2) := p
  intro io1 H1 J x1 r1 jok D hD
  have p := p.move x1
  have rp1 := rp.ex x1 r1
  cases q1 : compGo (own.map (·.2)) tg cs fe fr xs [] m1 with
  | exc x m2 => exact absurd q1 compGo_noexc
  | bad => rw [q1] at p; exact p.elim
  | ok ys m2 =>
  rw [q1] at p
  have p : Post S W ow io1 H1 σ Q (.ok (.lst ys) m2) := p
  have Pv : ∃ Pv : Nat → Hp → Prop, Pv = fun i H' => ∃ io' m' acc vs, Ey (fun a => a = D) io1 (upd H1 D (.lst [])) (fun a => a = D) io' H' ∧ RH S (fun a => ow a ∨ a = D) io' H' m' ∧ (∀ a, ow a ∨ a = D → ¬ NT H' a) ∧
      H' D = some (.lst vs) ∧ RVs S (fun a => ow a ∨ a = D) io' H' acc vs ∧ compGo (own.map (·.2)) tg cs fe fr (xs.drop i) acc m' = .ok ys m2 := ⟨_, rfl⟩
  obtain ⟨Pv, hPv⟩ := Pv
  have back : ∀ {io' H'}, Ey (fun a => a = D) io1 (upd H1 D (.lst [])) (fun a => a = D) io' H' → Ey ow io1 H1 (fun a => ow a ∨ a = D) io' H' := fun x => (Ey.ownew hD).trans (x.wider fun a h => .inr h)
  have kpo : ∀ {io' H' m'}, Ey (fun a => a = D) io1 (upd H1 D (.lst [])) (fun a => a = D) io' H' → RH S (fun a => ow a ∨ a = D) io' H' m' → ∀ a, ow a → (ow a ∨ a = D) ∧ H' a = H1 a ∧ a ∉ io' := fun {io' H' m'} x rh a h => by
    have h1 : ¬ NT H1 a := rp1.o a h
    have ne : a ≠ D := NT.ne h1 hD
    refine ⟨.inl h, ?_, fun z => (rh.mem z).2 (.inl h)⟩
    obtain ⟨u, e, so⟩ := NT.ex h1
    rw [e]
    exact x.keep a u (by rw [upd_ne ne]; exact e) so (fun z => (r1.mem z).2 h) ne
  refine ⟨fun i k H' => k = xs.length - i ∧ i ≤ xs.length ∧ Pv i H', ⟨xs.length, by simp, Nat.zero_le _, ?_⟩, ?_⟩
  · rw [hPv]
    refine ⟨io1, m1, [], [], .refl _ _ _, r1.ownew hD, fun a h => ?_, upd_same, .nil, q1⟩
    rcases h with h | h
    · exact fun z => rp1.o a h ((Ey.ownew (ow := ow) (io := io1) hD).dom a z)
    · rw [h]; exact fun z => z _ upd_same True.intro
  · rintro i k H' ⟨rfl, hi', pv⟩
    rw [hPv] at pv
    obtain ⟨io', m', acc, vs, xy, rh, od, hDv, rvs, go⟩ := pv
    have bk := back xy
    have nDio : D ∉ io' := fun z => (rh.mem z).2 (.inr rfl)
    by_cases hlt : i < xs.length
    · refine .inr ⟨jok.go i _ io' H' hlt bk, fun H'' => Pv (i + 1) H'', fun H'' pv' => ⟨xs.length - (i + 1), by omega, rfl, hlt, pv'⟩, fun x H2 y => ?_⟩
      obtain ⟨d, hd, alt⟩ := jok.yld i _ io' H' x H2 hlt bk y
      have hdrop : xs.drop i = d :: xs.drop (i + 1) := by
        rw [List.drop_eq_getElem_cons hlt]
        rw [List.getElem?_eq_getElem hlt] at hd
        rw [Option.some.inj hd]
      rw [hdrop] at go
      unfold compGo at go
      -- the item
      have item : ∃ xy2 : Ey (fun a => a = D) io1 (upd H1 D (.lst [])) (fun a => a = D) io' H2, RH S (fun a => ow a ∨ a = D) io' H2 m' ∧ (∀ a, ow a ∨ a = D → ¬ NT H2 a) ∧ H2 D = some (.lst vs) ∧ RVs S (fun a => ow a ∨ a = D) io' H2 acc vs ∧ RV S (fun a => ow a ∨ a = D) io' H2 d x := by
        rcases alt with ⟨rfl, q⟩ | ⟨T, us, ds, hT, rfl, rfl, rfl, q⟩
        · exact ⟨xy, rh, od, hDv, rvs, q⟩
        · have nT : T ∉ io' ∧ ¬ (ow T ∨ T = D) := ⟨fun z => (rh.mem z).1 (.of hT), fun z => od T z (.of hT)⟩
          have xf : Ex io' H' io' (upd H' T (.tup us)) := .fresh hT
          refine ⟨xy.trans xf.ey, rh.fresh hT, fun a h z => od a h (xf.dom a z), ?_, rvs.ex xf, .mk_tup hT nT q⟩
          rw [upd_ne (ne_of_none hDv hT)]
          exact hDv
      obtain ⟨xy2, rh2, od2, hD2, rvs2, rv2⟩ := item
      have bk2 := back xy2
      have rf2 : RF S (fun a => ow a ∨ a = D) io' H2 (wipeF fr (own.map (·.2))) (wipe σ (own.map (·.2))) := RF.wipe (rp1.ey bk2 rh2 od2 (kpo xy2 rh2)).f
      split at go
      · cases go
      · rename_i fr2 e2
        refine ⟨fun a => ow a ∨ a = D, io', d, _, fr2, rv2, rf2, e2, fun σ2 hr2 off => ⟨?_, ?_⟩⟩
        · rw [(off.mono hsl).wipe, wipe_wipe]
        · obtain ⟨b, m3, c1, c2⟩ := bind_ok go
          refine ⟨fun a => ow a ∨ a = D, io', fr2, m', ⟨rh2, hr2, od2⟩, ?_⟩
          rw [c1]
          intro io3 H3 x3 r3
          have hD3 : H3 D = some (.lst vs) := x3.keep D _ hD2 True.intro nDio
          have od3 : ∀ a, ow a ∨ a = D → ¬ NT H3 a := fun a h z => od2 a h (x3.dom a z)
          cases b with
          | false =>
            rw [if_neg (by decide)]
            rw [if_neg (by decide)] at c2
            rw [hPv]
            exact ⟨io3, m3, acc, vs, xy2.trans x3.ey, r3, od3, hD3, rvs2.ex x3, c2⟩
          | true =>
            rw [if_pos rfl]
            rw [if_pos rfl] at c2
            obtain ⟨y, m4, c3, c4⟩ := isOk_ok c2
            refine ⟨fun a => ow a ∨ a = D, io3, fr2, m3, ⟨r3, ⟨hr2.1, fun i e h => let ⟨v, a1, a2⟩ := hr2.2 i e h; ⟨v, a1, a2.ex x3 od2⟩⟩, od3⟩, ?_⟩
            rw [c3]
            intro io4 H4 w x4 r4 w4
            have nD3 : D ∉ io3 := fun z => (r3.mem z).2 (.inr rfl)
            have hD4 : H4 D = some (.lst vs) := x4.keep D _ hD3 True.intro nD3
            split at c4
            · rename_i hl
              have rvs4 : RVs S (fun a => ow a ∨ a = D) io4 H4 acc vs := (rvs2.ex x3).ex x4
              refine ⟨vs, hD4, by rw [← rvs4.length]; exact hl, ?_⟩
              rw [hPv]
              have own4 : Ey (fun a => a = D) io4 H4 (fun a => a = D) io4 (upd H4 D (.lst (vs ++ [w]))) := .own rfl True.intro
              refine ⟨io4, m4, acc ++ [y], vs ++ [w], ((xy2.trans x3.ey).trans x4.ey).trans own4, r4.own (.inr rfl) True.intro hD4 True.intro, fun a h z => od3 a h (x4.dom a (own4.dom a z)), upd_same, RVs.own (o := .lst (vs ++ [w])) (.inr rfl) True.intro (rvs4.append (.cons w4 .nil)), c4⟩
            · cases c4
    · have e : i = xs.length := by omega
      subst e
      refine .inl ⟨jok.stop _ io' H' bk, ?_⟩
      rw [List.drop_length] at go
      unfold compGo at go
      cases go
      refine p io' H' (.ref D) (xy.outD hD) (rh.less fun a h => .inl h) ?_
      unfold RV
      refine ⟨D, vs, rfl, ⟨hDv, nDio, fun z => rp1.o D z (.of hD)⟩, ?_⟩
      exact rvs.less fun a h => .inl h
theorem se_comp {elt tgE iterE : Expr} {ifs : List Expr} {scope : Scope} {own : List (Str × Nat)} {tg : Tg} {fi : Fes} {cs : List Fe} {fe : Fe} (hc : X.calm = true) (hN : X.N.Nodup) (hi : PI X tgE iterE (tI S W fi)) (ok : BlkOk X.N X.env.scope scope own)
    (hg : ∀ (s : Shared) (H : Hp) (C : Addr) (cl : List (Str × Addr)) (fp : List Addr), PG (X.blk s H scope (compEnvC scope cl C X.env) fp) tgE (gR S tg))
    (ht : ∀ (s : Shared) (H : Hp) (C : Addr) (cl : List (Str × Addr)) (fp : List Addr), PTs (X.blk s H scope (compEnvC scope cl C X.env) fp) ifs (tT S W0 (condGo cs)))
    (he : ∀ (s : Shared) (H : Hp) (C : Addr) (cl : List (Str × Addr)) (fp : List Addr), PE (X.blk s H scope (compEnvC scope cl C X.env) fp) elt (tR S W0 fe))
    (hs : ∀ x, foldedSetIterable iterE X.env x = pure x) (hsl : ∀ i ∈ slots tg, i ∈ own.map (·.2)) :
    SE X S W (.ListComp elt [⟨tgE, iterE, ifs, 0⟩] scope pos) (compF (own.map (·.2)) tg fi cs fe) := by
  exact PE.imp (pe_lc hc hN hi ok hg ht he hs) fun σ H Q h => comp_imp hsl h
end
end Mp
end
section
set_option Elab.async false
set_option linter.all false
set_option maxRecDepth 100000
set_option maxHeartbeats 1000000
/-! MpStm: statements and what they mean. -/
namespace Mp
open PySem PySem.Spec PyProof.Rows L2

abbrev F := Fr
inductive SR where
  | nx (f : F) (m : MH) | rt (d : D) (m : MH) | ex (x : Exn) (f : F) (m : MH) | bk (f : F) (m : MH) | ct (f : F) (m : MH) | bad
/-- an answer, then the rest -/
def SR.of {α : Type} (r : R α) (f : F) (k : α → MH → SR) : SR := match r with
  | .ok a m => k a m
  | .exc x m => .ex x f m
  | .bad => .bad
@[simp] theorem SR.of_ok {α : Type} (a : α) (m : MH) (f : F) (k : α → MH → SR) : SR.of (.ok a m) f k = k a m := rfl
@[simp] theorem SR.of_exc {α : Type} (x : Exn) (m : MH) (f : F) (k : α → MH → SR) : SR.of (.exc x m : R α) f k = .ex x f m := rfl
@[simp] theorem SR.of_bad {α : Type} (f : F) (k : α → MH → SR) : SR.of (.bad : R α) f k = .bad := rfl
def SR.then_ (r : SR) (k : F → MH → SR) : SR := match r with
  | .nx f m => k f m
  | r => r
@[simp] theorem SR.then_nx (f : F) (m : MH) (k : F → MH → SR) : (SR.nx f m).then_ k = k f m := rfl
@[simp] theorem SR.then_rt (d : D) (m : MH) (k : F → MH → SR) : (SR.rt d m).then_ k = .rt d m := rfl
@[simp] theorem SR.then_ex (x : Exn) (f : F) (m : MH) (k : F → MH → SR) : (SR.ex x f m).then_ k = .ex x f m := rfl
@[simp] theorem SR.then_bk (f : F) (m : MH) (k : F → MH → SR) : (SR.bk f m).then_ k = .bk f m := rfl
@[simp] theorem SR.then_ct (f : F) (m : MH) (k : F → MH → SR) : (SR.ct f m).then_ k = .ct f m := rfl
@[simp] theorem SR.then_bad (k : F → MH → SR) : SR.bad.then_ k = .bad := rfl

inductive St where
  | asg (t : Tg) (e : E) | exp (e : E) | ret (e : E) | retN | retS (e : E)
  | ife (c : E) (a b : List St) | whl (c : E) (b : List St) | for_ (t : Tg) (it : E) (b : List St)
  | rais (C : Nat) (es : List E) | brk | cnt | pas
  | setX (a i e : E)
/-- a while, n turns at most -/
def whl (c : Fr → MH → R Bool) (b : F → MH → SR) : Nat → F → MH → SR
  | 0, _, _ => .bad
  | n + 1, f, m => SR.of (c f m) f fun t m1 => match t with
    | true => match b f m1 with
      | .nx f2 m2 => whl c b n f2 m2
      | .ct f2 m2 => whl c b n f2 m2
      | .bk f2 m2 => .nx f2 m2
      | r => r
    | false => .nx f m1
theorem whl_up (c : Fr → MH → R Bool) (b : F → MH → SR) : ∀ {n : Nat} {f : F} {m : MH}, whl c b n f m ≠ .bad → whl c b (n + 1) f m = whl c b n f m
  | 0, _, _, h => absurd rfl h
  | n + 1, f, m, h => by
    unfold whl at h ⊢
    cases e : c f m with
    | ok t m1 =>
      rw [e] at h
      simp only [SR.of_ok] at h ⊢
      cases t with
      | true =>
        dsimp only at h ⊢
        cases e2 : b f m1 with
        | nx f2 m2 => rw [e2] at h; exact whl_up c b h
        | ct f2 m2 => rw [e2] at h; exact whl_up c b h
        | bk f2 m2 => rfl
        | rt d m2 => rfl
        | ex x f2 m2 => rfl
        | bad => rfl
      | false => rfl
    | exc x m1 => rfl
    | bad => rfl
theorem whl_add (c : Fr → MH → R Bool) (b : F → MH → SR) {n : Nat} {f : F} {m : MH} (h : whl c b n f m ≠ .bad) : ∀ k, whl c b (n + k) f m = whl c b n f m
  | 0 => rfl
  | k + 1 => by
    have ih := whl_add c b h k
    rw [← Nat.add_assoc, whl_up c b (by rw [ih]; exact h), ih]
theorem whl_eq (c : Fr → MH → R Bool) (b : F → MH → SR) {n k : Nat} {f : F} {m : MH} (h : whl c b n f m ≠ .bad) (h' : whl c b k f m ≠ .bad) : whl c b n f m = whl c b k f m := by
  rcases Nat.le_total n k with l | l
  · obtain ⟨j, rfl⟩ := Nat.exists_eq_add_of_le l
    exact (whl_add c b h j).symm
  · obtain ⟨j, rfl⟩ := Nat.exists_eq_add_of_le l
    exact whl_add c b h' j
open Classical in
noncomputable def whileS (c : Fr → MH → R Bool) (b : F → MH → SR) (f : F) (m : MH) : SR :=
  if h : ∃ n, whl c b n f m ≠ .bad then whl c b h.choose f m else .bad
theorem whileS_of {c : Fr → MH → R Bool} {b : F → MH → SR} {n : Nat} {f : F} {m : MH} (h : whl c b n f m ≠ .bad) : whileS c b f m = whl c b n f m := by
  unfold whileS
  have hx : ∃ n, whl c b n f m ≠ .bad := ⟨n, h⟩
  rw [dif_pos hx]
  exact whl_eq c b hx.choose_spec h
theorem whileS_ex {c : Fr → MH → R Bool} {b : F → MH → SR} {f : F} {m : MH} (h : whileS c b f m ≠ .bad) : ∃ n, whl c b n f m = whileS c b f m := by
  unfold whileS at h ⊢
  split at h
  · rename_i hx
    rw [dif_pos hx]
    exact ⟨_, rfl⟩
  · exact absurd rfl h
/-- one turn -/
theorem whileS_eq (c : Fr → MH → R Bool) (b : F → MH → SR) (f : F) (m : MH) : whileS c b f m = SR.of (c f m) f fun t m1 => match t with
    | true => match b f m1 with
      | .nx f2 m2 => whileS c b f2 m2
      | .ct f2 m2 => whileS c b f2 m2
      | .bk f2 m2 => .nx f2 m2
      | r => r
    | false => .nx f m1 := by
  cases e : c f m with
  | exc x m1 =>
    have h : whl c b 1 f m = .ex x f m1 := by unfold whl; rw [e]; rfl
    rw [whileS_of (n := 1) (by rw [h]; exact fun z => nomatch z), h]; rfl
  | bad =>
    apply Classical.byContradiction
    intro hh
    have : whileS c b f m ≠ .bad := hh
    obtain ⟨n, hn⟩ := whileS_ex this
    cases n with
    | zero => exact this hn.symm
    | succ n => unfold whl at hn; rw [e] at hn; exact this hn.symm
  | ok t m1 =>
    simp only [SR.of_ok]
    cases t with
    | false =>
      have h : whl c b 1 f m = .nx f m1 := by unfold whl; rw [e]; rfl
      rw [whileS_of (n := 1) (by rw [h]; exact fun z => nomatch z), h]
    | true =>
      dsimp only
      cases e2 : b f m1 with
      | rt d m2 =>
        have h : whl c b 1 f m = .rt d m2 := by unfold whl; rw [e]; simp only [SR.of_ok, e2]
        rw [whileS_of (n := 1) (by rw [h]; exact fun z => nomatch z), h]
      | ex x f2 m2 =>
        have h : whl c b 1 f m = .ex x f2 m2 := by unfold whl; rw [e]; simp only [SR.of_ok, e2]
        rw [whileS_of (n := 1) (by rw [h]; exact fun z => nomatch z), h]
      | bk f2 m2 =>
        have h : whl c b 1 f m = .nx f2 m2 := by unfold whl; rw [e]; simp only [SR.of_ok, e2]
        rw [whileS_of (n := 1) (by rw [h]; exact fun z => nomatch z), h]
      | bad =>
        apply Classical.byContradiction
        intro hh
        have : whileS c b f m ≠ .bad := hh
        obtain ⟨n, hn⟩ := whileS_ex this
        cases n with
        | zero => exact this hn.symm
        | succ n => unfold whl at hn; rw [e] at hn; simp only [SR.of_ok, e2] at hn; exact this hn.symm
      | nx f2 m2 =>
        dsimp only
        have st : ∀ n, whl c b (n + 1) f m = whl c b n f2 m2 := fun n => by
          rw [whl.eq_2, e]; simp only [SR.of_ok, e2]
        by_cases hb : whileS c b f2 m2 = .bad
        · rw [hb]
          apply Classical.byContradiction
          intro hh
          obtain ⟨n, hn⟩ := whileS_ex hh
          cases n with
          | zero => exact hh hn.symm
          | succ n =>
            rw [st] at hn
            have : whl c b n f2 m2 ≠ .bad := by rw [hn]; exact hh
            rw [whileS_of this] at hb
            exact this hb
        · obtain ⟨n, hn⟩ := whileS_ex hb
          rw [← hn, ← st n]
          exact whileS_of (by rw [st, hn]; exact hb)
      | ct f2 m2 =>
        dsimp only
        have st : ∀ n, whl c b (n + 1) f m = whl c b n f2 m2 := fun n => by
          rw [whl.eq_2, e]; simp only [SR.of_ok, e2]
        by_cases hb : whileS c b f2 m2 = .bad
        · rw [hb]
          apply Classical.byContradiction
          intro hh
          obtain ⟨n, hn⟩ := whileS_ex hh
          cases n with
          | zero => exact hh hn.symm
          | succ n =>
            rw [st] at hn
            have : whl c b n f2 m2 ≠ .bad := by rw [hn]; exact hh
            rw [whileS_of this] at hb
            exact this hb
        · obtain ⟨n, hn⟩ := whileS_ex hb
          rw [← hn, ← st n]
          exact whileS_of (by rw [st, hn]; exact hb)
/-- a for over the items -/
def forS (t : Tg) (b : F → MH → SR) : List D → F → MH → SR
  | [], f, m => .nx f m
  | d :: ds, f, m => match tgD t d f with
    | none => .bad
    | some f1 => match b f1 m with
      | .nx f2 m2 => forS t b ds f2 m2
      | .ct f2 m2 => forS t b ds f2 m2
      | .bk f2 m2 => .nx f2 m2
      | r => r
def setXD (x y d : D) (m : MH) : Option MH := match x, y with
  | .ref n, .int k => match m[n]? with
    | some (.lst xs) => match ixN xs.length k with
      | some j => some (m.set n (.lst (xs.set j d)))
      | none => none
    | _ => none
  | _, _ => none
section
variable (G : Gt) (mkx : Nat → List D → Option Exn)
mutual
noncomputable def ex : St → F → MH → SR
  | .asg t e, f, m => SR.of (ev G e f m) f fun d m1 => match tgD t d f with
    | some f1 => .nx f1 m1
    | none => .bad
  | .exp e, f, m => SR.of (ev G e f m) f fun _ m1 => .nx f m1
  | .ret e, f, m => SR.of (ev G e f m) f fun d m1 => .rt d m1
  | .retN, _, m => .rt .non m
  | .retS e, f, m => SR.of (ev G e f m) f fun d m1 => match d with
    | .lst xs => .rt (.ref m1.length) (m1 ++ [.lst xs])
    | _ => .bad
  | .ife c a b, f, m => SR.of (tst (ev G c) f m) f fun t m1 => match t with
    | true => exs a f m1
    | false => exs b f m1
  | .whl c b, f, m => whileS (tst (ev G c)) (exs b) f m
  | .for_ t it b, f, m => SR.of (ev G it f m) f fun d m1 => match itemsD d with
    | some xs => forS t (exs b) xs f m1
    | none => .bad
  | .rais C es, f, m => SR.of (evs G es f m) f fun ds m1 => match mkx C ds with
    | some x => .ex x f m1
    | none => .bad
  | .brk, f, m => .bk f m
  | .cnt, f, m => .ct f m
  | .pas, f, m => .nx f m
  | .setX a i e, f, m => SR.of (ev G e f m) f fun d m1 => SR.of (ev G a f m1) f fun x m2 => SR.of (ev G i f m2) f fun y m3 => match setXD x y d m3 with
    | some m4 => .nx f m4
    | none => .bad
noncomputable def exs : List St → F → MH → SR
  | [], f, m => .nx f m
  | s :: ss, f, m => (ex s f m).then_ fun f1 m1 => exs ss f1 m1
end
end
/-- a def's body: n parameters, N names -/
noncomputable def runF (G : Gt) (mkx : Nat → List D → Option Exn) (n N : Nat) (b : List St) (ds : List D) (m : MH) : R D :=
  if ds.length = n then match exs G mkx b (ds.map (fun d => some (.val d)) ++ List.replicate (N - n) none) m with
    | .nx _ m1 => .ok .non m1
    | .rt d m1 => .ok d m1
    | .ex x _ m1 => .exc x m1
    | _ => .bad
  else .bad
end Mp
end
section
set_option Elab.async false
set_option linter.all false
set_option maxRecDepth 100000
set_option maxHeartbeats 1000000
/-! MpStmS: statements do what they mean; a def keeps its meaning's promise. -/
namespace Mp
open PySem PySem.Spec PyProof.Rows L2

structure Rs (S : Sta) (ow0 : Addr → Prop) (io0 : List Addr) (H0 : Hp) (ow : Addr → Prop) (io : List Addr) (H : Hp) (f : F) (m : MH) (σ : L2.St) : Prop where
  en : Ex io0 H0 io H
  r : Rp S ow io H f m σ
  s : ∀ a, ow0 a → ow a
  n : ∀ a, ow a → ¬ ow0 a → NT H0 a
  ap : ∀ (i j : Nat) (xs ys : List Mp.D) (a : Addr), f[i]? = some (some (.olst xs)) → f[j]? = some (some (.olst ys)) → σ[i]? = some (some (.ref a)) → σ[j]? = some (some (.ref a)) → i = j
def PostS (S : Sta) (W : WX) (ow0 : Addr → Prop) (io0 : List Addr) (H0 : Hp) (ow : Addr → Prop) (io : List Addr) (H : Hp) (D : Ends) : SR → Prop
  | .nx f m => ∀ ow' io' H' σ', Ey ow io H ow' io' H' → Rs S ow0 io0 H0 ow' io' H' f m σ' → D.nx σ' H'
  | .bk f m => ∀ ow' io' H' σ', Ey ow io H ow' io' H' → Rs S ow0 io0 H0 ow' io' H' f m σ' → D.bk σ' H'
  | .ct f m => ∀ ow' io' H' σ', Ey ow io H ow' io' H' → Rs S ow0 io0 H0 ow' io' H' f m σ' → D.ct σ' H'
  | .rt d m => ∀ io' H' v, Ex io0 H0 io' H' → RH S ow0 io' H' m → RV S ow0 io' H' d v → D.rt v H'
  | .ex x f m => ∀ ow' io' H' σ' dx fs, Ey ow io H ow' io' H' → Rs S ow0 io0 H0 ow' io' H' f m σ' → H' dx = some (.xd fs) → dx ∉ io' → ¬ ow' dx → RFs S ow' io' H' x.ns x.ds fs → W (.ref (S.ca x.c)) (some dx) σ' H'
  | .bad => False
abbrev Fs := F → MH → SR
def tS (S : Sta) (W : WX) (g : Fs) : TS := fun D σ H => ∃ ow0 io0 H0 ow io f m, Rs S ow0 io0 H0 ow io H f m σ ∧ PostS S W ow0 io0 H0 ow io H D (g f m)
section
variable {S : Sta} {W : WX} {ow0 ow ow' : Addr → Prop} {io0 io io' : List Addr} {H0 H H' : Hp} {f : F} {m m' : MH} {σ : L2.St} {D : Ends}
theorem PostS.move {r : SR} (p : PostS S W ow0 io0 H0 ow io H D r) (x : Ey ow io H ow' io' H') : PostS S W ow0 io0 H0 ow' io' H' D r := by
  cases r with
  | nx f m => exact fun ow2 io2 H2 σ2 y => p ow2 io2 H2 σ2 (x.trans y)
  | bk f m => exact fun ow2 io2 H2 σ2 y => p ow2 io2 H2 σ2 (x.trans y)
  | ct f m => exact fun ow2 io2 H2 σ2 y => p ow2 io2 H2 σ2 (x.trans y)
  | rt d m => exact p
  | ex e f m => exact fun ow2 io2 H2 σ2 dx fs y => p ow2 io2 H2 σ2 dx fs (x.trans y)
  | bad => exact p
/-- an expression has been evaluated -/
theorem Rs.ex (r : Rs S ow0 io0 H0 ow io H f m σ) (x : Ex io H io' H') (h : RH S ow io' H' m') : Rs S ow0 io0 H0 ow io' H' f m' σ :=
  ⟨r.en.trans x, r.r.ex x h, r.s, r.n, r.ap⟩
theorem Rs.exn {x : Exn} {f : F} {dx : Addr} {fs : List (Str × V)} (p : PostS S W ow0 io0 H0 ow io H D (.ex x f m)) (rs : Rs S ow0 io0 H0 ow io H f m σ) (y : Ex io H io' H') (h : RH S ow io' H' m) (e : H' dx = some (.xd fs)) (n : dx ∉ io') (w : ¬ ow dx) (q : RFs S ow io' H' x.ns x.ds fs) : W (.ref (S.ca x.c)) (some dx) σ H' :=
  p ow io' H' σ dx fs y.ey (rs.ex y h) e n w q
/-- an expression, then the rest -/
theorem PostS.seq {r : R Mp.D} {k : Mp.D → MH → SR} {Q1 : VK} (rs : Rs S ow0 io0 H0 ow io H f m σ) (p : PostS S W ow0 io0 H0 ow io H D (SR.of r f k))
    (st : ∀ x m1 io1 H1 v, Ex io H io1 H1 → Rs S ow0 io0 H0 ow io1 H1 f m1 σ → RV S ow io1 H1 x v → PostS S W ow0 io0 H0 ow io1 H1 D (k x m1) → Q1 v H1) : Post S W ow io H σ Q1 r := by
  cases r with
  | ok d m1 => exact fun io1 H1 v y h q => st d m1 io1 H1 v y (rs.ex y h) q (p.move y.ey)
  | exc x m1 => exact fun io1 H1 dx fs y h e n w q => p ow io1 H1 σ dx fs y.ey (rs.ex y h) e n w q
  | bad => exact p
theorem PostS.seqs {r : R (List Mp.D)} {k : List Mp.D → MH → SR} {Q1 : List V → Hp → Prop} (rs : Rs S ow0 io0 H0 ow io H f m σ) (p : PostS S W ow0 io0 H0 ow io H D (SR.of r f k))
    (st : ∀ x m1 io1 H1 v, Ex io H io1 H1 → Rs S ow0 io0 H0 ow io1 H1 f m1 σ → RVs S ow io1 H1 x v → PostS S W ow0 io0 H0 ow io1 H1 D (k x m1) → Q1 v H1) : Posts S W ow io H σ Q1 r := by
  cases r with
  | ok d m1 => exact fun io1 H1 v y h q => st d m1 io1 H1 v y (rs.ex y h) q (p.move y.ey)
  | exc x m1 => exact fun io1 H1 dx fs y h e n w q => p ow io1 H1 σ dx fs y.ey (rs.ex y h) e n w q
  | bad => exact p
theorem PostS.seqB {r : R Bool} {k : Bool → MH → SR} {Q1 : Bool → Hp → Prop} (rs : Rs S ow0 io0 H0 ow io H f m σ) (p : PostS S W ow0 io0 H0 ow io H D (SR.of r f k))
    (st : ∀ x m1 io1 H1, Ex io H io1 H1 → Rs S ow0 io0 H0 ow io1 H1 f m1 σ → PostS S W ow0 io0 H0 ow io1 H1 D (k x m1) → Q1 x H1) : PostB S W ow io H σ Q1 r := by
  cases r with
  | ok d m1 => exact fun io1 H1 y h => st d m1 io1 H1 y (rs.ex y h) (p.move y.ey)
  | exc x m1 => exact fun io1 H1 dx fs y h e n w q => p ow io1 H1 σ dx fs y.ey (rs.ex y h) e n w q
  | bad => exact p
theorem PostS.seqI {r : R (List Mp.D)} {k : List Mp.D → MH → SR} {Q1 : It → Hp → Prop} (rs : Rs S ow0 io0 H0 ow io H f m σ) (p : PostS S W ow0 io0 H0 ow io H D (SR.of r f k))
    (st : ∀ xs m1 io1 H1 J, Ex io H io1 H1 → Rs S ow0 io0 H0 ow io1 H1 f m1 σ → JOk S ow io1 H1 J xs → PostS S W ow0 io0 H0 ow io1 H1 D (k xs m1) → Q1 J H1) : PostI S W ow io H σ Q1 r := by
  cases r with
  | ok d m1 => exact fun io1 H1 v y h q => st d m1 io1 H1 v y (rs.ex y h) q (p.move y.ey)
  | exc x m1 => exact fun io1 H1 dx fs y h e n w q => p ow io1 H1 σ dx fs y.ey (rs.ex y h) e n w q
  | bad => exact p
/-- a value leaves the def -/
theorem PostS.ret {d : Mp.D} {v : V} (rs : Rs S ow0 io0 H0 ow io H f m σ) (p : PostS S W ow0 io0 H0 ow io H D (.rt d m)) (q : RV S ow io H d v) : D.rt v H := p io H v rs.en (rs.r.h.less rs.s) (q.less rs.s)
/-- slots are stored anew -/
theorem Rs.tg {t : Tg} {d : Mp.D} {f' : F} {σ' : L2.St} (rs : Rs S ow0 io0 H0 ow io H f m σ) (e : tgD t d f = some f') (h : RF S ow io H f' σ') (o : Off (slots t) σ σ') (hap : ∀ (i j : Nat) (xs ys : List Mp.D) (a : Addr), f'[i]? = some (some (.olst xs)) → f'[j]? = some (some (.olst ys)) → σ'[i]? = some (some (.ref a)) → σ'[j]? = some (some (.ref a)) → i = j) :
    Rs S ow0 io0 H0 ow io H f' m σ' := ⟨rs.en, ⟨rs.r.h, h, rs.r.o⟩, rs.s, rs.n, hap⟩
/-- what stands in a slot that the target does not name stays; what it names is a value -/
theorem tgD_own : (t : Tg) → ∀ {d : Mp.D} {f f' : F} {i : Nat} {xs : List Mp.D}, tgD t d f = some f' → f'[i]? = some (some (.olst xs)) → f[i]? = some (some (.olst xs)) ∧ i ∉ slots t
  | .nm k, d, f, f', i, xs, e, h => by
    unfold tgD at e
    cases e
    by_cases hk : k = i
    · subst hk
      by_cases hl : k < f.length
      · rw [List.getElem?_set_self hl] at h; cases h
      · rw [List.getElem?_eq_none (by rw [List.length_set]; omega)] at h; cases h
    · rw [List.getElem?_set_ne hk] at h
      exact ⟨h, fun z => by unfold slots at z; exact hk (List.mem_singleton.mp z).symm⟩
  | .tup ts, d, f, f', i, xs, e, h => by
    cases d with
    | tup ds =>
      unfold tgD at e
      have z := tgDs_own ts e h
      exact ⟨z.1, fun y => by unfold slots at y; exact z.2 y⟩
    | lst ds =>
      unfold tgD at e
      have z := tgDs_own ts e h
      exact ⟨z.1, fun y => by unfold slots at y; exact z.2 y⟩
    | _ => unfold tgD at e; cases e
where tgDs_own : (ts : List Tg) → ∀ {ds : List Mp.D} {f f' : F} {i : Nat} {xs : List Mp.D}, tgDs ts ds f = some f' → f'[i]? = some (some (.olst xs)) → f[i]? = some (some (.olst xs)) ∧ i ∉ slotss ts
  | [], ds, f, f', i, xs, e, h => by
    cases ds with
    | nil => unfold tgDs at e; cases e; exact ⟨h, fun y => by unfold slotss at y; cases y⟩
    | cons _ _ => unfold tgDs at e; cases e
  | t :: ts, ds, f, f', i, xs, e, h => by
    cases ds with
    | nil => unfold tgDs at e; cases e
    | cons d ds =>
      unfold tgDs at e
      cases e1 : tgD t d f with
      | none => rw [e1] at e; cases e
      | some f1 =>
        rw [e1] at e
        obtain ⟨a1, a2⟩ := tgDs_own ts e h
        obtain ⟨b1, b2⟩ := tgD_own t e1 a1
        refine ⟨b1, fun y => ?_⟩
        unfold slotss at y
        exact (List.mem_append.mp y).elim b2 a2
theorem Rs.asg {t : Tg} {d : Mp.D} {f' : F} {σ' : L2.St} (rs : Rs S ow0 io0 H0 ow io H f m σ) (e : tgD t d f = some f') (h : RF S ow io H f' σ') (o : Off (slots t) σ σ') : Rs S ow0 io0 H0 ow io H f' m σ' :=
  rs.tg e h o fun i j xs ys a e1 e2 h1 h2 => by
    obtain ⟨a1, a2⟩ := tgD_own t e e1
    obtain ⟨b1, b2⟩ := tgD_own t e e2
    exact rs.ap i j xs ys a a1 b1 (by rw [← o.2 i a2]; exact h1) (by rw [← o.2 j b2]; exact h2)
end

/-! ### statements -/
section
variable {X : Cx} {S : Sta} {W : WX} {e c : Expr} {fe fc : Fe} {pos : Pos} {st : Stmt} {rest a b : List Stmt} {g k ga gb : Fs} {G : Gt}
theorem ss_nil : PSs X [] (tS S W fun f m => .nx f m) := PSs.imp pss_nil fun D σ H ⟨ow0, io0, H0, ow, io, f, m, rs, p⟩ => p ow io H σ (.refl _ _ _) rs
theorem ss_cons (h1 : PS X st (tS S W g)) (h2 : PSs X rest (tS S W k)) : PSs X (st :: rest) (tS S W fun f m => (g f m).then_ k) := by
  refine PSs.imp (pss_cons h1 h2) fun D σ H ⟨ow0, io0, H0, ow, io, f, m, rs, p⟩ => ?_
  refine ⟨ow0, io0, H0, ow, io, f, m, rs, ?_⟩
  dsimp only at p
  cases q : g f m with
  | nx f1 m1 =>
    rw [q] at p
    exact fun ow' io' H' σ' x r => ⟨ow0, io0, H0, ow', io', f1, m1, r, PostS.move p x⟩
  | bk f1 m1 => rw [q] at p; exact p
  | ct f1 m1 => rw [q] at p; exact p
  | rt d m1 => rw [q] at p; exact p
  | ex x f1 m1 => rw [q] at p; exact p
  | bad => rw [q] at p; exact p
theorem ss_pass : PS X (.Pass pos) (tS S W fun f m => .nx f m) := PS.imp ps_pass fun D σ H ⟨ow0, io0, H0, ow, io, f, m, rs, p⟩ => p ow io H σ (.refl _ _ _) rs
theorem ss_break : PS X (.Break pos) (tS S W fun f m => .bk f m) := PS.imp ps_break fun D σ H ⟨ow0, io0, H0, ow, io, f, m, rs, p⟩ => p ow io H σ (.refl _ _ _) rs
theorem ss_cont : PS X (.Continue pos) (tS S W fun f m => .ct f m) := PS.imp ps_continue fun D σ H ⟨ow0, io0, H0, ow, io, f, m, rs, p⟩ => p ow io H σ (.refl _ _ _) rs
theorem ss_ret (he : SE X S W e fe) : PS X (.Return (some e) pos) (tS S W fun f m => SR.of (fe f m) f fun d m1 => .rt d m1) := by
  refine PS.imp (ps_ret he) fun D σ H ⟨ow0, io0, H0, ow, io, f, m, rs, p⟩ => ?_
  exact ⟨ow, io, f, m, rs.r, p.seq rs fun x m1 io1 H1 v x1 r1 v1 p1 => p1.ret r1 v1⟩
theorem ss_retN : PS X (.Return none pos) (tS S W fun _ m => .rt .non m) := PS.imp ps_retN fun D σ H ⟨ow0, io0, H0, ow, io, f, m, rs, p⟩ => p.ret rs .mk_non
theorem ss_exp (he : SE X S W e fe) (hs : swapsWith e none pos.line X.env = pure false) : PS X (.Expr e pos) (tS S W fun f m => SR.of (fe f m) f fun _ m1 => .nx f m1) := by
  refine PS.imp (ps_expr he hs) fun D σ H ⟨ow0, io0, H0, ow, io, f, m, rs, p⟩ => ?_
  exact ⟨ow, io, f, m, rs.r, p.seq rs fun x m1 io1 H1 v x1 r1 v1 p1 => p1 ow io1 H1 σ (.refl _ _ _) r1⟩
theorem ss_if (hc : STt X S W c fc) (ha : PSs X a (tS S W ga)) (hb : PSs X b (tS S W gb)) :
    PS X (.If c a b pos) (tS S W fun f m => SR.of (tst fc f m) f fun t m1 => match t with | true => ga f m1 | false => gb f m1) := by
  refine PS.imp (ps_if hc ha hb) fun D σ H ⟨ow0, io0, H0, ow, io, f, m, rs, p⟩ => ?_
  refine ⟨ow, io, f, m, rs.r, p.seqB rs fun t m1 io1 H1 x1 r1 p1 => ?_⟩
  cases t with
  | true => rw [if_pos rfl]; exact ⟨ow0, io0, H0, ow, io1, f, m1, r1, p1⟩
  | false => rw [if_neg (by decide)]; exact ⟨ow0, io0, H0, ow, io1, f, m1, r1, p1⟩
theorem ss_asg {tgE : Expr} {t : Tg} (he : SE X S W e fe) (hg : PG X tgE (gR S t)) (hs : swapsWithSole [tgE] e pos.line X.env = pure false) (hw : swappedStores [tgE] e X.env = pure none) (h1 : (assignEach [tgE] X.env).map (·.2) = [assign tgE X.env]) :
    PS X (.Assign [tgE] e pos) (tS S W fun f m => SR.of (fe f m) f fun d m1 => match tgD t d f with | some f1 => .nx f1 m1 | none => .bad) := by
  refine PS.imp (ps_asg he hg hs hw h1) fun D σ H ⟨ow0, io0, H0, ow, io, f, m, rs, p⟩ => ?_
  refine ⟨ow, io, f, m, rs.r, p.seq rs fun d m1 io1 H1 v x1 r1 v1 p1 => ?_⟩
  cases q : tgD t d f with
  | none => rw [q] at p1; exact p1.elim
  | some f1 =>
    rw [q] at p1
    exact ⟨ow, io1, d, f, f1, v1, r1.r.f, q, fun σ' h o => p1 ow io1 H1 σ' (.refl _ _ _) (r1.asg q h o)⟩
/-- a, b = x, y with swapped stores -/
theorem ss_par {i j : Nat} {x y : Str} {e1 e2 : Expr} {f1 f2 : Fe} {px py pt : Pos} {kt k2 : Nat} {pt2 : Pos} (hc : X.calm = true) (hN : X.N.Nodup) (hi : X.N[i]? = some x) (hj : X.N[j]? = some y) (hij : i ≠ j)
    (hx : X.env.scope.names.lookup x = some .local) (hy : X.env.scope.names.lookup y = some .local) (ha : PA X [e1, e2] (tRs S W (evsF [f1, f2])))
    (hw : swappedStores [.Tuple [.Name x px, .Name y py] kt pt] (.Tuple [e1, e2] k2 pt2) X.env = pure (some [x, y])) (hs : swapsWithSole [.Tuple [.Name x px, .Name y py] kt pt] (.Tuple [e1, e2] k2 pt2) pos.line X.env = pure false) :
    PS X (.Assign [.Tuple [.Name x px, .Name y py] kt pt] (.Tuple [e1, e2] k2 pt2) pos)
      (tS S W fun f m => SR.of ((evsF [f1, f2] f m).bind fun ds m1 => if ds.length ≤ sizeLine then .ok (.tup ds) m1 else .bad) f fun d m1 => match tgD (.tup [.nm i, .nm j]) d f with | some f1 => .nx f1 m1 | none => .bad) := by
  refine PS.imp (ps_par hc hN hi hj hij hx hy ha hw hs) fun D σ H ⟨ow0, io0, H0, ow, io, f, m, rs, p⟩ => ?_
  refine ⟨ow, io, f, m, rs.r, ?_⟩
  dsimp only at p
  cases q : evsF [f1, f2] f m with
  | exc x m1 => rw [q] at p; exact fun io1 H1 dx fs y h e n w q => p ow io1 H1 σ dx fs y.ey (rs.ex y h) e n w q
  | bad => rw [q] at p; exact p
  | ok ds m1 =>
    rw [q] at p
    intro io1 H1 vs x1 h1 v1
    have r1 := rs.ex x1 h1
    have hl : ds.length ≤ sizeLine := by
      rw [R.ok_bind] at p
      split at p
      · assumption
      · exact p.elim
    rw [R.ok_bind, if_pos hl, SR.of_ok] at p
    cases e : tgD (.tup [.nm i, .nm j]) (.tup ds) f with
    | none => rw [e] at p; exact p.elim
    | some f' =>
      rw [e] at p
      have e' := e
      cases ds with
      | nil => simp [tgD, tgDs] at e
      | cons d1 ds =>
        cases ds with
        | nil => simp [tgD, tgDs] at e
        | cons d2 ds =>
          cases ds with
          | cons d3 ds => simp [tgD, tgDs] at e
          | nil =>
            obtain ⟨v, u, rfl, q1, q2⟩ := v1.two
            simp [tgD, tgDs] at e
            subst e
            refine ⟨v, u, rfl, p ow io1 H1 _ x1.ey (r1.asg e' ((r1.r.f.set (d := .val d1) q1).set (d := .val d2) q2) ⟨by rw [List.length_set, List.length_set], fun k hk => ?_⟩)⟩
            simp [slots, slotss] at hk
            rw [List.getElem?_set_ne (fun z => hk.2 z.symm), List.getElem?_set_ne (fun z => hk.1 z.symm)]
/-- while -/
theorem ss_while (hp : PassesOwn (model X.prog X.w) X.A X.env X.xe) (hc : STt X S W c fc) (hb : PSs X b (tS S W gb)) : PS X (.While c b [] pos) (tS S W (whileS (tst fc) gb)) := by
  refine PS.imp (ps_while hp hc hb) fun D σ H ⟨ow0, io0, H0, ow, io, f, m, rs, p⟩ => ?_
  have hb : whileS (tst fc) gb f m ≠ .bad := fun z => by rw [z] at p; exact p
  obtain ⟨n, hn⟩ := whileS_ex hb
  rw [← hn] at p
  refine ⟨fun n σ H => ∃ ow io f m, Rs S ow0 io0 H0 ow io H f m σ ∧ PostS S W ow0 io0 H0 ow io H D (whl (tst fc) gb n f m), ⟨n, ow, io, f, m, rs, p⟩, ?_⟩
  rintro n σ H ⟨ow, io, f, m, rs, p⟩
  cases n with
  | zero => unfold whl at p; exact p.elim
  | succ n =>
    unfold whl at p
    refine ⟨ow, io, f, m, rs.r, p.seqB rs fun t m1 io1 H1 x1 r1 p1 => ?_⟩
    cases t with
    | false => rw [if_neg (by decide)]; exact p1 ow io1 H1 σ (.refl _ _ _) r1
    | true =>
      rw [if_pos rfl]
      refine ⟨fun σ' H' => ∃ ow io f m, Rs S ow0 io0 H0 ow io H' f m σ' ∧ PostS S W ow0 io0 H0 ow io H' D (whl (tst fc) gb n f m), fun σ' H' h => ⟨n, Nat.lt_succ_self n, h⟩, ow0, io0, H0, ow, io1, f, m1, r1, ?_⟩
      dsimp only at p1
      cases q : gb f m1 with
      | nx f2 m2 => rw [q] at p1; exact fun ow' io' H' σ' x r => ⟨ow', io', f2, m2, r, PostS.move p1 x⟩
      | ct f2 m2 => rw [q] at p1; exact fun ow' io' H' σ' x r => ⟨ow', io', f2, m2, r, PostS.move p1 x⟩
      | bk f2 m2 => rw [q] at p1; exact p1
      | rt d m2 => rw [q] at p1; exact p1
      | ex x f2 m2 => rw [q] at p1; exact p1
      | bad => rw [q] at p1; exact p1
/-- for -/
theorem ss_for {tgE iterE : Expr} {t : Tg} {fi : Fes} (hp : PassesOwn (model X.prog X.w) X.A X.env X.xe) (hc : X.calm = true) (hi : PI X tgE iterE (tI S W fi)) (hg : PG X tgE (gR S t)) (hb : PSs X b (tS S W gb)) (hs : ∀ x, foldedSetIterable iterE X.env x = pure x) :
    PS X (.For tgE iterE b [] pos) (tS S W fun f m => SR.of (fi f m) f fun xs m1 => forS t gb xs f m1) := by
  refine PS.imp (ps_for hp hc hi hg hb hs) fun D σ H ⟨ow0, io0, H0, ow, io, f, m, rs, p⟩ => ?_
  refine ⟨ow, io, f, m, rs.r, p.seqI rs fun xs m1 io1 H1 J x1 r1 jok p1 => ?_⟩
  refine ⟨fun i k σ H => k = xs.length - i ∧ i ≤ xs.length ∧ ∃ ow' io' f m, Ey ow io1 H1 ow' io' H ∧ Rs S ow0 io0 H0 ow' io' H f m σ ∧ PostS S W ow0 io0 H0 ow' io' H D (forS t gb (xs.drop i) f m), ⟨xs.length, by simp, Nat.zero_le _, ow, io1, f, m1, .refl _ _ _, r1, p1⟩, ?_⟩
  rintro i k σ H ⟨rfl, hi', ow', io', f, m, xy, rs, p⟩
  by_cases hlt : i < xs.length
  · refine .inr ⟨jok.go i ow' io' H hlt xy, fun σ2 H2 => ∃ ow' io' f m, Ey ow io1 H1 ow' io' H2 ∧ Rs S ow0 io0 H0 ow' io' H2 f m σ2 ∧ PostS S W ow0 io0 H0 ow' io' H2 D (forS t gb (xs.drop (i + 1)) f m), fun σ2 H2 h => ⟨xs.length - (i + 1), by omega, rfl, hlt, h⟩, fun x H2 y => ?_⟩
    obtain ⟨d, hd, alt⟩ := jok.yld i ow' io' H x H2 hlt xy y
    have hdrop : xs.drop i = d :: xs.drop (i + 1) := by
      rw [List.drop_eq_getElem_cons hlt]
      rw [List.getElem?_eq_getElem hlt] at hd
      rw [Option.some.inj hd]
    rw [hdrop] at p
    unfold forS at p
    have item : Ex io' H io' H2 ∧ RH S ow' io' H2 m ∧ RV S ow' io' H2 d x := by
      rcases alt with ⟨rfl, q⟩ | ⟨T, us, ds, hT, rfl, rfl, rfl, q⟩
      · exact ⟨.refl _ _, rs.r.h, q⟩
      · have nT : T ∉ io' ∧ ¬ ow' T := notOwned rs.r hT
        exact ⟨.fresh hT, rs.r.h.fresh hT, .mk_tup hT nT q⟩
    obtain ⟨x2, rh2, rv2⟩ := item
    have rs2 := rs.ex x2 rh2
    cases q : tgD t d f with
    | none => rw [q] at p; exact p.elim
    | some f1 =>
      rw [q] at p
      dsimp only at p
      refine ⟨ow', io', d, f, f1, rv2, rs2.r.f, q, fun σ3 h3 o3 => ?_⟩
      have rs3 := rs2.asg q h3 o3
      refine ⟨ow0, io0, H0, ow', io', f1, m, rs3, ?_⟩
      have p := p.move x2.ey
      cases q2 : gb f1 m with
      | nx f2 m2 => rw [q2] at p; exact fun ow3 io3 H3 σ3 x r => ⟨ow3, io3, f2, m2, (xy.trans x2.ey).trans x, r, PostS.move p x⟩
      | ct f2 m2 => rw [q2] at p; exact fun ow3 io3 H3 σ3 x r => ⟨ow3, io3, f2, m2, (xy.trans x2.ey).trans x, r, PostS.move p x⟩
      | bk f2 m2 => rw [q2] at p; exact p
      | rt d m2 => rw [q2] at p; exact p
      | ex x f2 m2 => rw [q2] at p; exact p
      | bad => rw [q2] at p; exact p
  · have e : i = xs.length := by omega
    subst e
    refine .inl ⟨jok.stop ow' io' H xy, ?_⟩
    rw [List.drop_length] at p
    unfold forS at p
    exact p ow' io' H σ (.refl _ _ _) rs
end
end Mp
end
section
set_option Elab.async false
set_option linter.all false
set_option maxRecDepth 100000
set_option maxHeartbeats 1000000
/-! MpDef: shared lists, a def's promise. -/
namespace Mp
open PySem PySem.Spec PyProof.Rows L2

section
variable {X : Cx} {S : Sta} {W : WX} {e a i : Expr} {fe fa fi : Fe} {pos : Pos} {es : List Expr} {fs : Fes}
def nsl : Expr → Bool
  | .Slice .. => false
  | _ => true
theorem assign_sub {a i : Expr} {tp : Pos} {env : Env} {v : Value} (h : nsl i = true) : assign (.Subscript a i tp) env v = (do
    let ov ← holding [v] (eval a env)
    let iv ← holding [v, ov] (eval i env)
    standAt tp
    holding [v, ov, iv] (setItem ov iv v)
    release [v, ov, iv] []) := by
  rw [assign]
  cases i <;> first | rfl | cases h
/-- a[i] = e, a shared list -/
theorem ss_setX {tp : Pos} (hn : nsl i = true) (he : SE X S W e fe) (ha : SE X S W a fa) (hi : SE X S W i fi) (hs : swapsWithSole [.Subscript a i tp] e pos.line X.env = pure false) (hw : swappedStores [.Subscript a i tp] e X.env = pure none)
    (h1 : (assignEach [.Subscript a i tp] X.env).map (·.2) = [assign (.Subscript a i tp) X.env]) :
    PS X (.Assign [.Subscript a i tp] e pos) (tS S W fun f m => SR.of (fe f m) f fun d m1 => SR.of (fa f m1) f fun x m2 => SR.of (fi f m2) f fun y m3 => match setXD x y d m3 with | some m4 => .nx f m4 | none => .bad) := by
  refine PS.imp (ps_asg he (pg_sub ha hi set_list (ha := fun v => assign_sub hn)) hs hw h1) fun D σ H ⟨ow0, io0, H0, ow, io, f, m, rs, p⟩ => ?_
  refine ⟨ow, io, f, m, rs.r, p.seq rs fun d m1 io1 H1 v x1 r1 v1 p1 => ?_⟩
  refine ⟨ow, io1, f, m1, r1.r, p1.seq r1 fun x m2 io2 H2 u x2 r2 u2 p2 => ?_⟩
  refine ⟨ow, io2, f, m2, r2.r, p2.seq r2 fun y m3 io3 H3 w x3 r3 w3 p3 => ?_⟩
  have v3 := (v1.ex x2).ex x3
  have u3 := u2.ex x3
  unfold setXD at p3
  cases x with
  | ref n =>
    cases y with
    | int k =>
      dsimp only at p3
      cases em : m3[n]? with
      | none => rw [em] at p3; exact p3.elim
      | some mo =>
        rw [em] at p3
        cases mo with
        | lst xs =>
          dsimp only at p3
          cases ej : ixN xs.length k with
          | none => rw [ej] at p3; exact p3.elim
          | some j =>
            rw [ej] at p3
            dsimp only at p3
            obtain ⟨p, rfl, e0, vs, hp, q1⟩ := u3.of_ref r3.r.h em
            cases w3.of_int
            have xw : Ex io3 H3 io3 (upd H3 p (.lst (vs.set j v))) := .write (List.mem_of_getElem? e0) True.intro
            refine ⟨p, vs, k, j, rfl, rfl, hp, by rw [← q1.length]; exact ej, ?_⟩
            exact p3 ow io3 _ σ xw.ey (r3.ex xw (r3.r.h.write e0 True.intro ⟨_, upd_same, (q1.set j v3).ex xw⟩))
        | _ => exact p3.elim
    | _ => exact p3.elim
  | _ => exact p3.elim
/-- return [..]: the list is shared from now on -/
theorem ss_retS {lp : Pos} (h : PA X es (tRs S W fs)) :
    PS X (.Return (some (.List es lp)) pos) (tS S W fun f m => SR.of ((fs f m).bind fun ds m1 => if ds.length ≤ sizeLine then R.ok (Mp.D.lst ds) m1 else .bad) f fun d m1 => match d with | .lst xs => .rt (.ref m1.length) (m1 ++ [.lst xs]) | _ => .bad) := by
  refine PS.imp (ps_ret (pe_lst h)) fun D σ H ⟨ow0, io0, H0, ow, io, f, m, rs, p⟩ => ?_
  refine ⟨ow, io, f, m, rs.r, ?_⟩
  dsimp only at p
  cases q : fs f m with
  | exc x m1 => rw [q] at p; exact fun io1 H1 dx fs y h e n w q => p ow io1 H1 σ dx fs y.ey (rs.ex y h) e n w q
  | bad => rw [q] at p; exact p
  | ok ds m1 =>
    rw [q] at p
    intro io1 H1 vs x1 h1 v1
    have r1 := rs.ex x1 h1
    have hl : ds.length ≤ sizeLine := by
      rw [R.ok_bind] at p
      split at p
      · assumption
      · exact p.elim
    rw [R.ok_bind, if_pos hl, SR.of_ok] at p
    dsimp only at p
    refine ⟨by rw [← v1.length]; exact hl, fun a ha => ?_⟩
    obtain ⟨n1, n2⟩ := notOwned r1.r ha
    have xs : Ex io1 H1 (io1 ++ [a]) (upd H1 a (.lst vs)) := .share ha
    have sh : RH S ow (io1 ++ [a]) (upd H1 a (.lst vs)) (m1 ++ [MO.lst ds]) := h1.share ha n2 ⟨vs, upd_same, v1.ex xs⟩
    refine p _ _ _ (r1.en.trans xs) (sh.less rs.s) ?_
    unfold RV
    refine ⟨a, rfl, ?_⟩
    rw [List.getElem?_append_right (by rw [h1.len]; exact Nat.le_refl _), h1.len, Nat.sub_self]
    rfl
end
/-! ### a def -/
theorem start_rf {S : Sta} {ow : Addr → Prop} {io : List Addr} {H : Hp} {ds : List Mp.D} {vs : List V} {N : List Str} {n : Nat} (h : RVs S ow io H ds vs) (hn : ds.length = n) (hN : n ≤ N.length) :
    RF S ow io H (ds.map (fun d => some (Sl.val d)) ++ List.replicate (N.length - n) none) (start N vs) := by
  refine ⟨?_, fun i s e => ?_⟩
  · unfold L2.start
    rw [List.length_append, List.length_append, List.length_map, List.length_map, List.length_replicate, List.length_replicate, ← h.length, hn]
    omega
  · by_cases hi : i < ds.length
    · rw [List.getElem?_append_left (by rw [List.length_map]; exact hi), List.getElem?_map] at e
      cases ed : ds[i]? with
      | none => rw [ed] at e; cases e
      | some d =>
        rw [ed] at e
        cases e
        obtain ⟨v, e1, q⟩ := h.get ed
        refine ⟨v, ?_, q⟩
        unfold L2.start
        rw [List.getElem?_append_left (by rw [List.length_map, ← h.length]; exact hi), List.getElem?_map, e1]
        rfl
    · rw [List.getElem?_append_right (by rw [List.length_map]; omega)] at e
      have := List.mem_of_getElem? e
      rw [List.mem_replicate] at this
      cases this.2
theorem start_ap {ds : List Mp.D} {k i : Nat} {xs : List Mp.D} (e : (ds.map (fun d => some (Sl.val d)) ++ List.replicate k none)[i]? = some (some (.olst xs))) : False := by
  have := List.mem_of_getElem? e
  rw [List.mem_append] at this
  rcases this with h | h
  · obtain ⟨d, _, h⟩ := List.mem_map.mp h
    cases h
  · rw [List.mem_replicate] at h
    cases h.2
section
variable {S : Sta} {x qual : Str} {params : Arguments} {body : List Stmt} {scope : Scope} {dvs : List V} {kws : List (Str × V)} {fa : Addr} {fd : FuncData} {N ps : List Str} {k n : Nat} {G : Gt} {mkx : Nat → List Mp.D → Option Exn} {b : List St}
/-- a def's start: what is wanted of its answer is wanted of its body -/
theorem start_wish {scope : Scope} {vs : List V} {H : Hp} {Q : VK} {E : XK} (sc : FnScope N ps scope) (hps : ps.length = n) (hpl : n ≤ N.length) (h : spOf S n (runF G mkx n N.length b) vs H Q E) :
    tS S (fun c d _ H' => E c d H') (exs G mkx b) { nx := fun _ H' => Q .non H', rt := Q } (L2.start N vs) H := by
  obtain ⟨ow, io, ds, m, rh, od, hv, hl, p⟩ := h
  unfold runF at p
  rw [if_pos hl] at p
  refine ⟨ow, io, H, ow, io, _, m, ⟨.refl _ _, ⟨rh, start_rf hv hl hpl, od⟩, fun _ h => h, fun a h n => absurd h n, fun i j xs ys a e1 _ _ _ => (start_ap e1).elim⟩, ?_⟩
  cases q : exs G mkx b (ds.map (fun d => some (Sl.val d)) ++ List.replicate (N.length - n) none) m with
  | nx f1 m1 =>
    rw [q] at p
    exact fun ow' io' H' σ' x rs => p io' H' .non rs.en (rs.r.h.less rs.s) .mk_non
  | rt d m1 => rw [q] at p; exact fun io' H' v x h q => p io' H' v x h q
  | ex x f1 m1 =>
    rw [q] at p
    exact fun ow' io' H' σ' dx fs y rs e n w q => p io' H' dx fs rs.en (rs.r.h.less rs.s) e n (fun z => w (rs.s _ z)) ⟨q.1, q.2.less rs.s⟩
  | bk f1 m1 => rw [q] at p; exact p.elim
  | ct f1 m1 => rw [q] at p; exact p.elim
  | bad => rw [q] at p; exact p.elim
/-- a def whose body means b -/
theorem fn_ok (FD : FunD S.K x qual params body scope dvs kws fa fd) (sc : FnScope N ps scope) (hps : ps.length = n)
    (hbody : ∀ (cdv : Value) (A : Around) (outer : List Env) (s : Shared) (H : Hp) (E : XK), Room k (A.deeper (envOfC qual scope s.heap.objs.size fa cdv)) →
      PSs (cxOf (L2.CX S.P S.w) S.P S.w S.K S.mg S.base N qual scope fa cdv A outer s H E) body (tS S (fun c d _ H' => E c d H') (exs G mkx b))) :
    FnOk S.P S.w S.K S.mg S.base (L2.CX S.P S.w) (k + 1) fa fd ps (spOf S n (runF G mkx n N.length b)) := by
  have hpl : n ≤ N.length := by
    have := congrArg List.length sc.pre
    rw [List.length_take] at this
    omega
  refine FD.ok sc (fun vs H Q E h => ?_) fun cdv A outer s H vs Q E hr h => ⟨_, hbody cdv A outer s H E hr, ?_⟩
  · obtain ⟨ow, io, ds, m, _, _, hv, hl, _⟩ := h
    rw [← hv.length, hl, hps]
  · exact start_wish sc hps hpl h
end
end Mp
end
section
set_option Elab.async false
set_option linter.all false
set_option maxRecDepth 100000
set_option maxHeartbeats 1000000
/-! MpStar: defs with a star parameter; calls of a def by any number of values. -/
namespace Mp
open PySem PySem.Spec PyProof.Rows L2

/-- a def with a star parameter behind its n parameters -/
noncomputable def runFS (G : Gt) (mkx : Nat → List D → Option Exn) (n N : Nat) (b : List St) (ds : List D) (m : MH) : R D :=
  if n ≤ ds.length ∧ (ds.drop n).length ≤ sizeLine then runF G mkx (n + 1) N b (ds.take n ++ [.tup (ds.drop n)]) m else .bad
def spR (S : Sta) (f : List Mp.D → MH → R Mp.D) : Sp := fun vs H Q E => ∃ ow io ds m, RH S ow io H m ∧ (∀ a, ow a → ¬ NT H a) ∧ RVs S ow io H ds vs ∧ Post S (fun c d _ H' => E c d H') ow io H [] Q (f ds m)
/-- the def called x keeps f's promise at level k, by place, for any number of values -/
def CalROk (S : Sta) (k : Nat) (x : Str) (f : List Mp.D → MH → R Mp.D) : Prop :=
  ∃ fa : Addr, S.mg x = some (.ref fa) ∧ PySem.W.keepIn S.K (.ref fa) = true ∧ FnR S.P S.w S.K S.mg S.base (L2.CX S.P S.w) k fa (spR S f)
section
variable {X : Cx} {S : Sta} {W : WX} {x : Str} {p pos : Pos} {es : List Expr} {fs : Fes}
theorem run_fnRS {k fa : Nat} {sp : Sp} {E : L2.St → XK} {pins : List (Addr × Obj)} {s : Shared} {σ : L2.St} {H : Hp} {Q : VK} {us : List Value} {vs : List V}
    (F : FnR X.prog X.w X.K X.mg X.base (L2.CX X.prog X.w) k fa sp) (hr : Room k X.A) (hx : PassesAt (L2.CX X.prog X.w) X σ (E σ)) (I : Inv X pins σ H s) (r : Vals vs us) (h : sp vs H Q (E σ)) :
    wpAny (model X.prog X.w) X.A (call (.ref fa) us []) (EP X pins σ Q) X.xe s := by
  refine wpAny_call (codeAny_mono (F X.A X.stack s H us vs Q (E σ) hr I.env0 r h) fun r s' hq => ?_)
  cases r with
  | error e => exact hx pins H s e s' I hq
  | ok fl =>
    cases fl with
    | ret u => exact I.after hq
    | next => exact False.elim hq
    | brk => exact False.elim hq
    | cont => exact False.elim hq
theorem fnr_over {k fa : Nat} {sp : Sp} (ov : Ov S X) (F : FnR S.P S.w S.K S.mg S.base (L2.CX S.P S.w) k fa sp) : FnR X.prog X.w X.K X.mg X.base (L2.CX X.prog X.w) k fa sp := by
  rw [ov.P, ov.w, ov.K, ov.mg, ov.base]; exact F
theorem key_callR {f : List Mp.D → MH → R Mp.D} {σ : L2.St} {H : Hp} {Q : VK} {ow : Addr → Prop} {io : List Addr} {fr : Fr} {m : MH} (rp : Rp S ow io H fr m σ)
    (pp : Post S W ow io H σ Q ((fs fr m).bind fun ds m1 => f ds m1)) : Posts S W ow io H σ (fun vs H1 => spR S f vs H1 Q (fun c d H' => W c d σ H')) (fs fr m) := by
  cases q : fs fr m with
  | ok ds m1 =>
    rw [q] at pp
    have pp : Post S W ow io H σ Q (f ds m1) := pp
    exact fun io1 H1 vs x1 r1 v1 => ⟨ow, io1, ds, m1, r1, (rp.ex x1 r1).o, v1, (pp.move x1).wish⟩
  | exc y m1 => rw [q] at pp; exact pp
  | bad => rw [q] at pp; exact pp
theorem se_callR0 {k : Nat} {f : List Mp.D → MH → R Mp.D} (ov : Ov S X) (C : CalROk S k x f) (hr : Room k X.A) (tk : Takes X W) (hg : Gl X x) (hdb : (x == ("__debug__" : Str)) = false) :
    SE X S W (.Call (.Name x p) [] [] pos) (fun _ m => f [] m) := by
  obtain ⟨fa, hm, hk, F⟩ := C
  have F := fnr_over ov F
  rw [← ov.mg] at hm
  rw [← ov.K] at hk
  refine ⟨fun pins s σ H Q I h => ?_⟩
  refine wpAny_Call_Name_kw (ld_glob I hg hm ?_ hdb)
  obtain ⟨ow, io, fr, m, rp, pp⟩ := h
  exact PySem.W.callWith_K0 I.kIn hk (run_fnRS F hr (passAt tk σ) I .nil ⟨ow, io, [], m, rp.h, rp.o, .nil, pp.wish⟩)
theorem se_callR {k : Nat} {f : List Mp.D → MH → R Mp.D} {e : Expr} (ov : Ov S X) (C : CalROk S k x f) (hr : Room k X.A) (tk : Takes X W) (hg : Gl X x) (ha : PA X (e :: es) (tRs S W fs)) (hn : (e :: es).all nst = true)
    (hdb : (x == ("__debug__" : Str)) = false) :
    SE X S W (.Call (.Name x p) (e :: es) [] pos) (fun fr m => (fs fr m).bind fun ds m1 => f ds m1) := by
  obtain ⟨fa, hm, hk, F⟩ := C
  have F := fnr_over ov F
  rw [← ov.mg] at hm
  rw [← ov.K] at hk
  refine ⟨fun pins s σ H Q I h => ?_⟩
  refine wpAny_Call_Name_kw (ld_glob I hg hm ?_ hdb)
  obtain ⟨ow, io, fr, m, rp, pp⟩ := h
  rw [List.all_cons, Bool.and_eq_true] at hn
  refine PySem.W.callWith_K (h₀ := X.base) I.ok.mod.kin hk (thn (ha.run pos pins s σ H _ I ⟨ow, io, fr, m, rp, key_callR rp pp⟩) fun us s1 ⟨vs, H1, I1, r, q⟩ => ⟨I1.kIn, ?_⟩) (starEach_ns hn.1) (stars_any hn.2)
  exact run_fnRS F hr (passAt tk σ) I1 r q
end
section
variable {S : Sta} {x qual : Str} {params : Arguments} {body : List Stmt} {scope : Scope} {dvs : List V} {kws : List (Str × V)} {fa : Addr} {fd : FuncData} {N ps : List Str} {k n : Nat} {G : Gt} {mkx : Nat → List Mp.D → Option Exn} {b : List St} {pv : Str}
theorem fnstar_ok (FD : FunD S.K x qual params body scope [] kws fa fd) (sc : FnScope N (ps ++ [pv]) scope) (hps : ps.length = n)
    (hB : ∀ (kV doc pm : Value) (an : Option Addr) (cdv ct : Value) (us rest : List Value), us.length = ps.length → bindArgs (PySem.W.fnOf x qual params body scope .none kV doc pm an cdv ct) ⟨us ++ rest, []⟩ = (newTuple rest >>= fun t => pure (ps.zip us ++ [(pv, t)])))
    (hbody : ∀ (cdv : Value) (A : Around) (outer : List Env) (s : Shared) (H : Hp) (E : XK), Room k (A.deeper (envOfC qual scope s.heap.objs.size fa cdv)) →
      PSs (cxOf (L2.CX S.P S.w) S.P S.w S.K S.mg S.base N qual scope fa cdv A outer s H E) body (tS S (fun c d _ H' => E c d H') (exs G mkx b))) :
    FnR S.P S.w S.K S.mg S.base (L2.CX S.P S.w) (k + 1) fa (spR S (runFS G mkx n N.length b)) := by
  have hpl : n + 1 ≤ N.length := by
    have := congrArg List.length sc.pre
    rw [List.length_take, List.length_append] at this
    simp at this
    omega
  obtain ⟨oc, od, dV, kV, doc, pm, an, cdv, ct, osl, rfl, lk, hcd, hD, _⟩ := FD.ex
  have hD : dV = .none := by
    rcases hD with ⟨_, h⟩ | ⟨h, _⟩
    · exact h
    · exact absurd rfl h
  subst hD
  refine (StX.fn_star (k := k) (sp := spOf S (n + 1) (runF G mkx (n + 1) N.length b)) lk hcd sc StX.cxUp (hB kV doc pm an cdv ct) fun A outer s H vs Q E hr h => ⟨_, hbody cdv A outer s H E hr, start_wish sc (by simp [hps]) hpl h⟩).imp fun vs H Q E h => ?_
  obtain ⟨ow, io, ds, m, rh, od, hv, p⟩ := h
  unfold runFS at p
  split at p
  rotate_left
  · exact p.elim
  rename_i hc
  have hl := hv.length
  refine ⟨vs.take n, vs.drop n, (List.take_append_drop n vs).symm, by rw [List.length_take, hps]; omega, by rw [List.length_drop, ← hl, ← List.length_drop]; exact hc.2, fun q hq => ?_⟩
  have x1 : Ex io H io (upd H q (.tup (vs.drop n))) := .fresh hq
  have nq : q ∉ io ∧ ¬ ow q := ⟨fun z => (rh.mem z).1 (.of hq), fun z => od q z (.of hq)⟩
  refine ⟨ow, io, ds.take n ++ [.tup (ds.drop n)], m, rh.fresh hq, fun a z y => od a z (x1.dom a y), ?_, ?_, p.move x1⟩
  · refine RVs.append ((hv.take n).ex x1) (.cons ?_ .nil)
    exact RV.mk_tup hq nq (hv.drop n)
  · rw [List.length_append, List.length_take]
    simp
    omega
end
end Mp
end
section
set_option Elab.async false
set_option linter.all false
set_option maxRecDepth 100000
set_option maxHeartbeats 2000000
/-! MpExc: an exception of a class of one's own whose __init__ says super().__init__(z), self.tag = z, self.f = v. -/
namespace Mp
open PySem PySem.Spec PyProof.Rows L2

/-- the statements of such an __init__ -/
def initB (z : Str) (p0 p1 p2 p3 p4 p5 p6 p7 p8 p9 : Pos) (j1 j2 : Nat) (tag : Str) (more : List Stmt) : List Stmt :=
  .Expr (.Call (.Attribute (.Call (.Name "super" p0) [] [] p1) "__init__" p2) [.Constant (.str z) j1 p3] [] p4) p5 ::
  .Assign [.Attribute (.Name "self" p6) tag p7] (.Constant (.str z) j2 p8) p9 :: more
/-- the class at C, its __init__ at f -/
structure XcF (P : Program) (K : PySem.W.Frag) (C f cc cda : Addr) (name qual : Str) (params : Arguments) (body : List Stmt) (scope : Scope) : Prop where
  cls : ∃ nm q N bs bm sn sub ab col dd k0 k1 k2 k3 k5, K.lookup C = some (excClassObj nm q C N bs bm true sn sub ab col dd k0 k1 k2 k3 k5 "ValueError.__new__") ∧ PySem.HandSPX.refsVE bm = true
  sa : PySem.W.findIn K (.ref C) "__setattr__" = some (some (.builtin "object.__setattr__"))
  exC : PySem.W.subIn K (.ref C) (.type "BaseException") = some true
  vE : PySem.W.subIn K (.ref C) (.type "ValueError") = some true
  tyC : PySem.W.typeIn K (.ref C) = some (.type "type")
  kC : PySem.W.keepIn K (.ref C) = true
  ini : PySem.W.findIn K (.ref C) "__init__" = some (some (.ref f))
  tyI : PySem.W.typeIn K (.ref f) = some (.type "function")
  sup : PySem.W.ks_superIn K C C "__init__" = some (some (.builtin "ValueError.__init__"))
  opq : PySem.W.nsIn K PySem.cStatics "thirdparty.any" = some none
  fn : ∃ oc od dV kV doc pm an ct osl, K.lookup f = some ⟨oc, od, .func (PySem.W.ksFn name qual params body scope dV kV doc pm an (.ref cda) ct cc), osl⟩
  code : PySem.W.codeIn K (.ref cda) qual = true
  file : ∃ oc od vs sl file tf, K.lookup cda = some ⟨oc, od, .fields vs, sl⟩ ∧ vs[2]? = some (.str file tf) ∧ ((P.main.file : Str) == file) = true
  cell : ∃ oc od sl, K.lookup cc = some ⟨oc, od, .cell (some (.ref C)), sl⟩
  mro : PySem.W.mroIn K C (.ref C) = some true
  noTag : PySem.W.findIn K (.ref C) "tag" = some none
/-- the scope of such an __init__ -/
structure XcS (P : Program) (params : Arguments) (scope : Scope) : Prop where
  par : (params.posonlyargs ++ params.args).head?.map (·.arg) = some "self"
  sup : scope.names.lookup ("super" : Str) = some .globalImplicit
  cls : scope.names.lookup ("__class__" : Str) = some .free
  slf : scope.names.lookup ("self" : Str) = some .local
  kind : scope.kind = .function
  co : scope.isCoroutine = false
  gen : scope.isGenerator = false
  ncell : ∀ x ∈ scope.names, x.2 ≠ .cell
  top : (P.main.scope.names.lookup ("super" : Str)).isSome = false
theorem boot_super : bootBuiltins "super" = some (.type "super") := by decide +kernel

section
variable {P : Program} {w : World} {K : PySem.W.Frag} {mg : Str → Option Value} {base : Heap} {C f cc cda : Addr} {name qual : Str} {params : Arguments} {body : List Stmt} {scope : Scope} {z : Str}
  {h : Heap} {g : Array GenState} {d : Drawn} {t : Nat} {os : OsState} {A : Around}
/-- super().__init__(z) in the frame at L, self at e -/
theorem super_stmt {L e t0 : Addr} {m : Str → Option Value} {p0 p1 p2 p3 p4 p5 : Pos} {j1 : Nat} {Q : Flow → Shared → Prop} {E : Value → Shared → Prop} (T : XcF P K C f cc cda name qual params body scope) (sc : XcS P params scope)
    {pl : Sem Bool}
    (hev : eval (.Call (.Attribute (.Call (.Name "super" p0) [] [] p1) "__init__" p2) [.Constant (.str z) j1 p3] [] p4) (PySem.W.ksEnv qual scope L f (.ref cda) cc) = (do
        let ov ← attributeBase (.Call (.Name "super" p0) [] [] p1) "__init__" (PySem.W.ksEnv qual scope L f (.ref cda) cc) (eval (.Call (.Name "super" p0) [] [] p1) (PySem.W.ksEnv qual scope L f (.ref cda) cc))
        standAt p2.atName
        let (fv, first) ← holding [ov] (getMethod ov "__init__" pl)
        callWith p4 fv first (backTo p4 (starEach [.Constant (.str z) j1 p3] (PySem.W.ksEnv qual scope L f (.ref cda) cc))) []))
    (hint : interactive (PySem.W.ksEnv qual scope L f (.ref cda) cc) = false) (hsw : swapsWith (.Call (.Attribute (.Call (.Name "super" p0) [] [] p1) "__init__" p2) [.Constant (.str z) j1 p3] [] p4) none p5.line (PySem.W.ksEnv qual scope L f (.ref cda) cc) = pure false)
    (X : K.In h) (hg : h.Ns mainGlobals mg) (hb : ∃ mb, h.Ns builtinsNs mb ∧ ∀ x : Str, x ≠ "__name__" → mb x = bootBuiltins x) (hs : mg "super" = none)
    (hn : h.Ns L m) (hv : m "self" = some (.ref e)) (he : h.get? e = some (PySem.HandSPX.excO C t0))
    (hq : ∀ h' t1 tk, (∀ b o, b ≠ e → h.get? b = some o → h'.get? b = some o) → h.objs.size ≤ h'.objs.size → h'.get? e = some (PySem.HandSPX.excO C t1) → Q .next ⟨h', g, d, tk, os⟩) :
    PySem.wpAt (model P w) A (.func body (PySem.W.ksEnv qual scope L f (.ref cda) cc)) (exec (.Expr (.Call (.Attribute (.Call (.Name "super" p0) [] [] p1) "__init__" p2) [.Constant (.str z) j1 p3] [] p4) p5) (PySem.W.ksEnv qual scope L f (.ref cda) cc)) Q E ⟨h, g, d, t, os⟩ := by
  obtain ⟨nm, q, N, bs, bm, sn, sub, ab, col, dd, k0, k1, k2, k3, k5, hC, hbm⟩ := T.cls
  obtain ⟨oc, od, dV, kV, doc, pm, an, ct, osl, hf⟩ := T.fn
  obtain ⟨occ, occd, vs, csl, file, tf, hcode, hvs, hfile⟩ := T.file
  obtain ⟨ocl, ocd, clsl, hcell⟩ := T.cell
  have hcl : PySem.W.clsIn K C = some { name := nm, bases := bs, mro := .ref C :: bm, ns := N, qualname := q, hasDict := true, slotNames := sn, subclasses := sub, abstract := ab, collection := col, hasDel := false } := by unfold PySem.W.clsIn; rw [hC] <;> rfl
  obtain ⟨ar, har, harn⟩ : ∃ ar, (params.posonlyargs ++ params.args).head? = some ar ∧ ar.arg = "self" := by
    cases q : (params.posonlyargs ++ params.args).head? with
    | none => have := sc.par; rw [q] at this; cases this
    | some ar => have := sc.par; rw [q] at this; exact ⟨ar, rfl, Option.some.inj this⟩
  have I : PySem.W.InstAt h e (PySem.HandSPX.excO C t0) C none := ⟨he, rfl, rfl, trivial⟩
  obtain ⟨mb, hmb, hbm2⟩ := hb
  refine PySem.ks_wpAt_Expr_any (PySem.ks_wpAt_MethodCall (pl := pl) ?_ hev) hint hsw
  refine PySem.ks_wpAt_super_base (env := PySem.W.ksEnv qual scope L f (.ref cda) cc) sc.sup sc.cls (by decide +kernel) rfl (X _ _ hf) rfl har rfl (X _ _ hcode) rfl hvs hfile sc.top ?_
  refine PySem.W.ks_loadName_global sc.kind sc.sup (PySem.Calls.loadGlobal_builtin (env := PySem.W.ksEnv qual scope L f (.ref cda) cc) hg hs hmb ((hbm2 "super" (by decide)).trans boot_super) ⟨rfl, ?_⟩)
  refine wpAny_loadName_free sc.kind sc.cls rfl ⟨_, X _ _ hcell, rfl⟩ ?_
  refine wpAny_loadName_local sc.kind (harn ▸ sc.slf) hn (harn ▸ hv) ?_
  refine PySem.ks_wpAny_isType_cls (X _ _ hC) rfl ⟨rfl, ?_⟩
  refine PySem.ks_wpAny_call_super (X _ _ hC) rfl he rfl (fun c z => by cases z) (PySem.W.looks_mroIn X T.mro) (fun h1 e1 k1 => ?_)
  have X1 : K.In h1 := X.keeps k1
  have he1 := k1 _ _ he
  have I1 : PySem.W.InstAt h1 e (PySem.HandSPX.excO C t0) C none := ⟨he1, rfl, rfl, trivial⟩
  have hxC : e ≠ C := fun z => by
    rw [z, X _ _ hC] at he
    cases he
  have hsup := T.sup
  unfold PySem.W.ks_superIn at hsup
  rw [hcl] at hsup
  refine PySem.W.kxs_getMethod PySem.W.kxs_ValueError e1 (PySem.W.looks_opaque X1 T.opq) (l₀ := .ref C :: bm) (fun A Q E s k q => wpAny_bind ((PySem.W.looks_clsIn X1 hcl) A _ E s k (wpAny_pure q))) rfl X1 hsup (I1.type.andThen (PySem.W.looks_subIn X1 T.vE)) hxC (by decide +kernel) ?_
  have hu : (h1.push (PySem.W.kxs_mw "ValueError.__init__" e)).get? h1.objs.size = some (PySem.W.kxs_mw "ValueError.__init__" e) := Heap.get?_push_at rfl rfl
  have he2 : (h1.push (PySem.W.kxs_mw "ValueError.__init__" e)).get? e = some (PySem.HandSPX.excO C t0) := Heap.get?_push_of_some _ he1
  have X2 : K.In (h1.push (PySem.W.kxs_mw "ValueError.__init__" e)) := X1.keeps fun b o q => Heap.get?_push_of_some _ q
  refine PySem.W.kxs_callWith (i := "ValueError.__init__") (x := e) rfl (PySem.Calls.evalArgs_plain ?_)
  refine wpAny_items_cons (wpAny_Constant_str (wpAny_items_nil ⟨hu, ?_⟩))
  refine wpAny_call (codeAny_of_tree ?_)
  show wpAny _ A.in1 (callAny (.ref h1.objs.size) ⟨[.str z (t + 1)], []⟩) _ _ _
  simp only [callAny]
  refine wpAny_bind (wpAny_load hu ?_)
  simp only [PySem.W.kxs_mw, show (Value.type "method-wrapper" == Value.type "method" || Value.type "method-wrapper" == Value.type "builtin_function_or_method" || Value.type "method-wrapper" == Value.type "method-wrapper") = true by decide, if_true]
  refine PySem.W.KFB.if_so (by decide) ?_
  refine wpAny_bind (PySem.W.check_bound_init PySem.F.excBase_ValueError.toExcCallFacts (X2 _ _ hC) he2 rfl ?_)
  refine wpAny_bind (wpAny_pure (wpAny_pure ?_))
  refine ⟨plainId_quiet PySem.F.excBase_ValueError.init.plain _, PySem.codeAny_builtin PySem.F.excBase_ValueError.initEntry ?_⟩
  refine PySem.W.exc_init_tree (cls := .ref C) (t0 := t0) (dv := none) (c2 := .none) (c3 := .none) (b4 := .bool false) he2 (by simp [sizeLine_eq]) fun h' k' e' et => ?_
  have z1 := Heap.lt_size e1
  have z2 := Heap.lt_size et
  rw [Heap.size_push] at z2
  have z3 : h.objs.size ≤ h'.objs.size := Nat.le_of_lt (Nat.lt_trans (Nat.lt_trans z1 (Nat.lt_succ_self _)) z2)
  exact hq h' _ _ (fun b o hb ho => k' b o hb (Heap.get?_push_of_some _ (k1 _ _ ho))) z3 e'
end
/-! ### the whole __init__ -/
/-- the object after self.tag = .. -/
abbrev excD (C t : Addr) (dx : Addr) : Obj := { cls := .ref C, dict := some dx, data := .fields #[.ref t, .none, .none, .none, .bool false, .none] }
/-- positions only: what the line numbers of the text say (rfl at each class) -/
structure XcW (qual : Str) (scope : Scope) (f cda cc : Addr) (z tag : Str) (p0 p1 p2 p3 p4 p5 p7 p9 : Pos) (j1 j2 : Nat) (p6 p8 : Pos) : Prop where
  hev : ∀ L, ∃ pl, eval (.Call (.Attribute (.Call (.Name "super" p0) [] [] p1) "__init__" p2) [.Constant (.str z) j1 p3] [] p4) (PySem.W.ksEnv qual scope L f (.ref cda) cc) = (do
        let ov ← attributeBase (.Call (.Name "super" p0) [] [] p1) "__init__" (PySem.W.ksEnv qual scope L f (.ref cda) cc) (eval (.Call (.Name "super" p0) [] [] p1) (PySem.W.ksEnv qual scope L f (.ref cda) cc))
        standAt p2.atName
        let (fv, first) ← holding [ov] (getMethod ov "__init__" pl)
        callWith p4 fv first (backTo p4 (starEach [.Constant (.str z) j1 p3] (PySem.W.ksEnv qual scope L f (.ref cda) cc))) [])
  hint : ∀ L, interactive (PySem.W.ksEnv qual scope L f (.ref cda) cc) = false
  hsw : ∀ L, swapsWith (.Call (.Attribute (.Call (.Name "super" p0) [] [] p1) "__init__" p2) [.Constant (.str z) j1 p3] [] p4) none p5.line (PySem.W.ksEnv qual scope L f (.ref cda) cc) = pure false
  hs : ∀ L, swapsWith (.Constant (.str z) j2 p8) (some (.Attribute (.Name "self" p6) tag p7)) p9.line (PySem.W.ksEnv qual scope L f (.ref cda) cc) = pure false
section
variable {P : Program} {w : World} {K : PySem.W.Frag} {mg : Str → Option Value} {base : Heap} {C f cc cda : Addr} {name qual : Str} {params : Arguments} {body : List Stmt} {scope : Scope} {z : Str}
  {h : Heap} {g : Array GenState} {d : Drawn} {t : Nat} {os : OsState} {A : Around}
/-- self.tag = z: the first field -/
theorem tag_stmt {env : Env} {e t0 : Addr} {m : Str → Option Value} {tag : Str} {p6 p7 p8 p9 : Pos} {j2 : Nat} {Q : Flow → Shared → Prop} {E : Value → Shared → Prop} (T : XcF P K C f cc cda name qual params body scope) (hk : env.scope.kind = .function) (hl : env.kindOf "self" = some .local)
    (X : K.In h) (hn : h.Ns env.locals m) (hv : m "self" = some (.ref e)) (he : h.get? e = some (PySem.HandSPX.excO C t0)) (ht : PySem.W.findIn K (.ref C) tag = some none) (hs : swapsWith (.Constant (.str z) j2 p8) (some (.Attribute (.Name "self" p6) tag p7)) p9.line env = pure false)
    (hq : ∀ h' tk t1 dx, (∀ b o, b ≠ e → h.get? b = some o → h'.get? b = some o) → h.objs.size ≤ dx → dx ≠ e → h'.get? e = some (excD C t0 dx) → h'.Ns1 dx (fun y => if y = tag then some (.str z t1) else none) → Q .next ⟨h', g, d, tk, os⟩) :
    wpAny (model P w) A (exec (.Assign [.Attribute (.Name "self" p6) tag p7] (.Constant (.str z) j2 p8) p9) env) Q E ⟨h, g, d, t, os⟩ := by
  obtain ⟨nm, q, N, bs, bm, sn, sub, ab, col, dd, k0, k1, k2, k3, k5, hC, hbm⟩ := T.cls
  have hcl : PySem.W.clsIn K C = some { name := nm, bases := bs, mro := .ref C :: bm, ns := N, qualname := q, hasDict := true, slotNames := sn, subclasses := sub, abstract := ab, collection := col, hasDel := false } := by unfold PySem.W.clsIn; rw [hC] <;> rfl
  refine plainObj_wpAny_Assign_Attribute (wpAny_Constant_str (wpAny_Name (wpAny_loadName_local hk hl hn hv ?_))) hs
  refine PySem.W.set_plain X (ox := PySem.HandSPX.excO C t0) (od := none) ⟨he, rfl, rfl, trivial⟩ T.sa ?_
  exact PySem.HandSPX.exc_osa X he hcl (show PySem.HandSPX.refsVE (.ref C :: bm) = true from hbm) rfl ht (fun h' tk' dx k dn dne hx hns => hq h' tk' _ dx k dn dne hx hns)
/-- self.f = y: a further field -/
theorem fld_stmt {env : Env} {e t0 dx : Addr} {m m0 : Str → Option Value} {fld y : Str} {u : Value} {p6 p7 p8 p9 : Pos} {nl : List Str} {Q : Flow → Shared → Prop} {E : Value → Shared → Prop} (T : XcF P K C f cc cda name qual params body scope) (hk : env.scope.kind = .function) (hl : env.kindOf "self" = some .local) (hly : env.kindOf y = some .local)
    (X : K.In h) (hn : h.Ns env.locals m) (hv : m "self" = some (.ref e)) (hvy : m y = some u) (he : h.get? e = some (excD C t0 dx)) (hd : h.Ns1 dx m0) (hw : Within m0 nl) (hz : nl.length ≤ 1000) (ht : PySem.W.findIn K (.ref C) fld = some none) (hs : swapsWith (.Name y p8) (some (.Attribute (.Name "self" p6) fld p7)) p9.line env = pure false)
    (hq : ∀ h' tk, (∀ b o, b ≠ dx → h.get? b = some o → h'.get? b = some o) → h'.Ns1 dx (fun a => if a = fld then some u else m0 a) → Q .next ⟨h', g, d, tk, os⟩) (hdb : (y == ("__debug__" : Str)) = false) :
    wpAny (model P w) A (exec (.Assign [.Attribute (.Name "self" p6) fld p7] (.Name y p8) p9) env) Q E ⟨h, g, d, t, os⟩ := by
  obtain ⟨nm, q, N, bs, bm, sn, sub, ab, col, dd, k0, k1, k2, k3, k5, hC, hbm⟩ := T.cls
  have hcl : PySem.W.clsIn K C = some { name := nm, bases := bs, mro := .ref C :: bm, ns := N, qualname := q, hasDict := true, slotNames := sn, subclasses := sub, abstract := ab, collection := col, hasDel := false } := by unfold PySem.W.clsIn; rw [hC] <;> rfl
  obtain ⟨oD, _, _, hoD, _, _⟩ := hd.count hw
  refine plainObj_wpAny_Assign_Attribute (wpAny_Name (wpAny_loadName_local hk hly hn hvy (wpAny_Name (wpAny_loadName_local hk hl hn hv ?_))) hdb) hs
  refine PySem.W.set_plain X (ox := excD C t0 dx) (od := some oD) ⟨he, rfl, rfl, hoD⟩ T.sa ?_
  exact PySem.OEX.osa_old X he hd hw hz hcl (show PySem.HandSPX.refsVE (.ref C :: bm) = true from hbm) rfl ht (fun h' tk' k hn => hq h' tk' k hn)
/-- what such an __init__ promises: the fields' dict stands, the object at a bears it -/
def iniSp (C : Addr) (n : Nat) (fs : List V → List (Str × V)) : Sp := fun vs H Q _ =>
  ∃ a ws, vs = .ref a :: ws ∧ ws.length = n ∧ H a = some (exo a C none) ∧ ∀ dx, H dx = none → dx ≠ a → Q .non (upd (upd H dx (exd dx (fs ws))) a (exo a C (some dx)))
theorem ini_end {outer : List Env} {s : Shared} {H : Hp} {Q : VK} {a dx t1 : Addr} {fs : List (Str × V)} {mA : Str → Option Value} {h' : Heap} {d' : Drawn} {tk' : Nat} (e0 : Env0 P w K mg base A outer s H) (ea : H a = some (exo a C none))
    (k : ∀ b o, b ≠ a → s.heap.get? b = some o → h'.get? b = some o) (hx : h'.get? a = some (excD C t1 dx)) (dn : s.heap.objs.size ≤ dx) (dne : dx ≠ a) (hn : h'.Ns1 dx mA) (rel : ∀ f, RelO (fs.lookup f) (mA f))
    (q : ∀ dx, H dx = none → dx ≠ a → Q .non (upd (upd H dx (exd dx fs)) a (exo a C (some dx)))) : CE outer P w H s Q .none ⟨h', s.gens, d', tk', s.os⟩ := by
  have hnd : H dx = none := e0.hok.fresh dn
  have nd : ∀ {b : Addr} {o : Obj}, s.heap.get? b = some o → b ≠ dx := fun {b o} z => Nat.ne_of_lt (Nat.lt_of_lt_of_le (Heap.lt_size z) dn)
  have na : ∀ {b : Addr}, H b = none → b ≠ a := fun {b} n z => by
    rw [z, ea] at n
    cases n
  have Un1 : Un (frs outer) [] H (upd (upd H dx (exd dx fs)) a (exo a C (some dx))) s.heap h' := {
    keep := fun b o q n _ _ => k b o (na n) q
    slot := fun b o q n _ _ => ⟨o.slots, k b o (na n) q⟩
    free := fun b o q n _ => by rw [upd_ne (na n), upd_ne (nd q)]; exact n
    there := fun b o q _ => by
      by_cases hb : b = a
      · exact ⟨_, by rw [hb]; exact hx⟩
      · exact ⟨o, k b o hb q⟩
    tups := fun b xs q => by rw [upd_ne (at_ne ea q exo_tup), upd_ne (ne_of_none q hnd)]; exact q
    frzs := fun b o v q => by rw [upd_ne (at_ne ea q exo_frz), upd_ne (ne_of_none q hnd)]; exact q
    tbls := fun b ps q => ⟨#[], by rw [upd_ne (at_ne ea q exo_tbl), upd_ne (ne_of_none q hnd), q]; simp⟩ }
  refine ⟨.non, _, rfl, e0.bare, Un1, fun b o q => ?_, rfl, q dx hnd dne⟩
  by_cases hb : b = a
  · subst hb
    rw [upd_same] at q
    cases q
    exact exo_ok hx
  · rw [upd_ne hb] at q
    by_cases hd : b = dx
    · subst hd
      rw [upd_same] at q
      cases q
      exact exd_ok hn rel
    · rw [upd_ne hd] at q
      exact (e0.hok b o q).stay (fun c v hc z => k c v (by
          rcases hc with hc | hc
          · rw [hc]
            exact hb
          · exact at_ne ea hc exo_own) z)
        (fun c hc => by rw [upd_ne (at_ne ea hc exo_own), upd_ne (ne_of_none hc hnd)]; exact hc) (fun c xs hc => by rw [upd_ne (at_ne ea hc exo_tup), upd_ne (ne_of_none hc hnd)]; exact hc)
theorem lookup_hd {A : Type} (f : Str) (a : A) (r : List (Str × A)) : ((f, a) :: r).lookup f = some a := by simp [List.lookup]
theorem lookup_tl {A : Type} {f g : Str} (a : A) (r : List (Str × A)) (n : g ≠ f) : ((f, a) :: r).lookup g = r.lookup g := by
  have e : (g == f) = false := by simpa using n
  simp [List.lookup, e]
/-- def __init__(self): super().__init__(z); self.tag = z -/
theorem fn_ini0 {p0 p1 p2 p3 p4 p5 p6 p7 p8 p9 : Pos} {j1 j2 : Nat} {tag : Str} {k : Nat} {oc ct dV kV doc pm : Value} {od an : Option Addr} {osl : Array (Option Value)} (T : XcF P K C f cc cda name qual params (initB z p0 p1 p2 p3 p4 p5 p6 p7 p8 p9 j1 j2 tag []) scope) (sc : XcS P params scope)
    (W : XcW qual scope f cda cc z tag p0 p1 p2 p3 p4 p5 p7 p9 j1 j2 p6 p8) (hs : mg "super" = none) (ht : PySem.W.findIn K (.ref C) tag = some none)
    (hf : K.lookup f = some ⟨oc, od, .func (PySem.W.ksFn name qual params (initB z p0 p1 p2 p3 p4 p5 p6 p7 p8 p9 j1 j2 tag []) scope dV kV doc pm an (.ref cda) ct cc), osl⟩) :
    FnOk P w K mg base (L2.CX P w) (k + 1) f (PySem.W.ksFn name qual params (initB z p0 p1 p2 p3 p4 p5 p6 p7 p8 p9 j1 j2 tag []) scope dV kV doc pm an (.ref cda) ct cc) ["self"] (iniSp C 0 fun _ => [(tag, .str z)]) := by
  refine ⟨fun vs H Q E hh => ?_, fun A outer s H args us vs Q E hr e0 hb hv hh => ?_⟩
  · obtain ⟨a, ws, rfl, hl, _⟩ := hh
    simp [hl]
  obtain ⟨e, ws, rfl, hl, ea, q⟩ := hh
  obtain rfl : ws = [] := List.eq_nil_of_length_eq_zero hl
  cases hv with
  | @cons _ u0 _ ur ra rw' =>
  cases rw'
  obtain rfl : u0 = Value.ref e := ra
  obtain ⟨t0, he⟩ := exo_at e0.hok ea
  have X : K.In s.heap := e0.mod.kin.keeps fun b o z => (e0.bs b o z).1
  have lim : s.heap.NoLimit := e0.mod.nolimit.keeps fun b o z => (e0.bs b o z).1
  have hg : s.heap.Ns mainGlobals mg := e0.mod.glob.keeps fun b o z => (e0.bs b o z).1
  obtain ⟨mb, hmb, hbm⟩ := e0.mod.blt
  refine PySem.ks_codeAny_call_defAt hr.depth (X _ _ hf) rfl lim (PySem.W.codeRec_of X T.code) rfl hb sc.ncell (fun y hy => ?_) (fun h₀ hns k0 => ?_) sc.co sc.gen sc.kind
  · obtain rfl := List.mem_singleton.mp hy
    exact sc.slf
  obtain ⟨hh, g, d, t, os⟩ := s
  have hv0 : (List.lookup ("self" : Str) ([("self" : Str)].zip [Value.ref e]).reverse) = some (Value.ref e) := rfl
  have z0 : hh.objs.size < h₀.objs.size := by
    obtain ⟨o, es, ep, y, _⟩ := hns
    exact Heap.lt_size y
  obtain ⟨pl, hev⟩ := W.hev hh.objs.size
  refine PySem.ks_wpAt_execs_cons (super_stmt (pl := pl) T sc hev (W.hint _) (W.hsw _) (X.keeps k0) (hg.keeps k0) ⟨mb, hmb.keeps fun b o z => k0 _ _ (e0.bs b o z).1, hbm⟩ hs hns hv0 (k0 _ _ he) (fun h1 t1 tk k1 z1 he1 => ?_))
  have kk1 : ∀ b o, b ≠ e → hh.get? b = some o → h1.get? b = some o := fun b o hb ho => k1 b o hb (k0 b o ho)
  have Le : hh.objs.size ≠ e := Nat.ne_of_gt (Heap.lt_size he)
  have hns1 : h1.Ns hh.objs.size (fun x => List.lookup x ([("self" : Str)].zip [Value.ref e]).reverse) := by
    obtain ⟨o, es, ep, y, r⟩ := hns
    exact ⟨o, es, ep, k1 _ _ Le y, r⟩
  have X1 : K.In h1 := e0.mod.kin.keeps fun b o y => kk1 b o (fun z => by
    have := (e0.bs b o y).2
    rw [z, ea] at this
    cases this) (e0.bs b o y).1
  refine wpAt_of_wpAny (wpAny_execs_cons (tag_stmt T sc.kind sc.slf X1 hns1 hv0 he1 ht (W.hs _) (fun h2 tk2 tk3 dx k2 dn dne he2 hd2 => ?_)))
  refine wpAny_execs_nil ?_
  exact ini_end (a := e) (fs := [(tag, V.str z)]) e0 ea (fun b o hb ho => k2 b o hb (kk1 b o hb ho)) he2 (Nat.le_trans (Nat.le_trans (Nat.le_of_lt z0) z1) dn) dne hd2 (relO_put (fs := []) (y := V.str z) ⟨_, rfl⟩ fun g => True.intro) q
/-- def __init__(self, y): super().__init__(z); self.tag = z; self.fld = y -/
theorem fn_ini1 {fld y : Str} {q6 q7 q8 q9 : Pos} {p0 p1 p2 p3 p4 p5 p6 p7 p8 p9 : Pos} {j1 j2 : Nat} {tag : Str} {k : Nat} {oc ct dV kV doc pm : Value} {od an : Option Addr} {osl : Array (Option Value)} (T : XcF P K C f cc cda name qual params (initB z p0 p1 p2 p3 p4 p5 p6 p7 p8 p9 j1 j2 tag [.Assign [.Attribute (.Name "self" q6) fld q7] (.Name y q8) q9]) scope) (sc : XcS P params scope)
    (W : XcW qual scope f cda cc z tag p0 p1 p2 p3 p4 p5 p7 p9 j1 j2 p6 p8) (hs : mg "super" = none) (ny : (y == ("self" : Str)) = false) (nd : (y == ("__debug__" : Str)) = false) (ly : scope.names.lookup y = some .local) (hsf : ∀ L, swapsWith (.Name y q8) (some (.Attribute (.Name "self" q6) fld q7)) q9.line (PySem.W.ksEnv qual scope L f (.ref cda) cc) = pure false)
    (nf : fld ≠ tag) (htf : PySem.W.findIn K (.ref C) fld = some none) (ht : PySem.W.findIn K (.ref C) tag = some none)
    (hf : K.lookup f = some ⟨oc, od, .func (PySem.W.ksFn name qual params (initB z p0 p1 p2 p3 p4 p5 p6 p7 p8 p9 j1 j2 tag [.Assign [.Attribute (.Name "self" q6) fld q7] (.Name y q8) q9]) scope dV kV doc pm an (.ref cda) ct cc), osl⟩) :
    FnOk P w K mg base (L2.CX P w) (k + 1) f (PySem.W.ksFn name qual params (initB z p0 p1 p2 p3 p4 p5 p6 p7 p8 p9 j1 j2 tag [.Assign [.Attribute (.Name "self" q6) fld q7] (.Name y q8) q9]) scope dV kV doc pm an (.ref cda) ct cc) ["self", y] (iniSp C 1 fun ws => [(fld, ws.headD .non), (tag, .str z)]) := by
  refine ⟨fun vs H Q E hh => ?_, fun A outer s H args us vs Q E hr e0 hb hv hh => ?_⟩
  · obtain ⟨a, ws, rfl, hl, _⟩ := hh
    simp [hl]
  obtain ⟨e, ws, rfl, hl, ea, q⟩ := hh
  obtain ⟨v1, rfl⟩ : ∃ v1, ws = [v1] := by
    match ws, hl with
    | [v1], _ => exact ⟨v1, rfl⟩
  cases hv with
  | @cons _ u0 _ ur ra rw' =>
  cases rw' with
  | @cons _ u1 _ ur2 rb rw2 =>
  cases rw2
  obtain rfl : u0 = Value.ref e := ra
  obtain ⟨t0, he⟩ := exo_at e0.hok ea
  have X : K.In s.heap := e0.mod.kin.keeps fun b o z => (e0.bs b o z).1
  have lim : s.heap.NoLimit := e0.mod.nolimit.keeps fun b o z => (e0.bs b o z).1
  have hg : s.heap.Ns mainGlobals mg := e0.mod.glob.keeps fun b o z => (e0.bs b o z).1
  obtain ⟨mb, hmb, hbm⟩ := e0.mod.blt
  refine PySem.ks_codeAny_call_defAt hr.depth (X _ _ hf) rfl lim (PySem.W.codeRec_of X T.code) rfl hb sc.ncell (fun yy hy => ?_) (fun h₀ hns k0 => ?_) sc.co sc.gen sc.kind
  · rcases List.mem_cons.mp hy with rfl | hy
    · exact sc.slf
    · obtain rfl := List.mem_singleton.mp hy
      exact ly
  obtain ⟨hh, g, d, t, os⟩ := s
  have hv0 : (List.lookup ("self" : Str) ([("self" : Str), y].zip [Value.ref e, u1]).reverse) = some (Value.ref e) := by
    show List.lookup ("self" : Str) [(y, u1), ("self", Value.ref e)] = _
    rw [lookup_tl _ _ (fun z => by rw [z] at ny; simp at ny), lookup_hd]
  have hv1 : (List.lookup y ([("self" : Str), y].zip [Value.ref e, u1]).reverse) = some u1 := by
    show List.lookup y [(y, u1), ("self", Value.ref e)] = _
    rw [lookup_hd]
  have z0 : hh.objs.size < h₀.objs.size := by
    obtain ⟨o, es, ep, y, _⟩ := hns
    exact Heap.lt_size y
  obtain ⟨pl, hev⟩ := W.hev hh.objs.size
  refine PySem.ks_wpAt_execs_cons (super_stmt (pl := pl) T sc hev (W.hint _) (W.hsw _) (X.keeps k0) (hg.keeps k0) ⟨mb, hmb.keeps fun b o z => k0 _ _ (e0.bs b o z).1, hbm⟩ hs hns hv0 (k0 _ _ he) (fun h1 t1 tk k1 z1 he1 => ?_))
  have kk1 : ∀ b o, b ≠ e → hh.get? b = some o → h1.get? b = some o := fun b o hb ho => k1 b o hb (k0 b o ho)
  have Le : hh.objs.size ≠ e := Nat.ne_of_gt (Heap.lt_size he)
  have hns1 : h1.Ns hh.objs.size (fun x => List.lookup x ([("self" : Str), y].zip [Value.ref e, u1]).reverse) := by
    obtain ⟨o, es, ep, y, r⟩ := hns
    exact ⟨o, es, ep, k1 _ _ Le y, r⟩
  have X1 : K.In h1 := e0.mod.kin.keeps fun b o y => kk1 b o (fun z => by
    have := (e0.bs b o y).2
    rw [z, ea] at this
    cases this) (e0.bs b o y).1
  refine wpAt_of_wpAny (wpAny_execs_cons (tag_stmt T sc.kind sc.slf X1 hns1 hv0 he1 ht (W.hs _) (fun h2 tk2 tk3 dx k2 dn dne he2 hd2 => ?_)))
  have Ld : hh.objs.size ≠ dx := Nat.ne_of_lt (Nat.lt_of_lt_of_le z0 (Nat.le_trans z1 dn))
  have kk2 : ∀ b o, b ≠ e → hh.get? b = some o → h2.get? b = some o := fun b o hb ho => k2 b o hb (kk1 b o hb ho)
  have X2 : K.In h2 := e0.mod.kin.keeps fun b o y => kk2 b o (fun z => by
    have := (e0.bs b o y).2
    rw [z, ea] at this
    cases this) (e0.bs b o y).1
  have hns2 : h2.Ns hh.objs.size (fun x => List.lookup x ([("self" : Str), y].zip [Value.ref e, u1]).reverse) := by
    obtain ⟨o, es, ep, y, r⟩ := hns1
    exact ⟨o, es, ep, k2 _ _ Le y, r⟩
  have dn' : hh.objs.size ≤ dx := Nat.le_trans (Nat.le_trans (Nat.le_of_lt z0) z1) dn
  have hw : Within (fun y => if y = tag then some (Value.str z tk3) else none) [tag] := fun y hy => by
    by_cases h : y = tag
    · rw [h]
      exact List.mem_cons_self ..
    · dsimp only at hy
      rw [if_neg h] at hy
      exact absurd rfl hy
  refine wpAny_execs_cons (fld_stmt (nl := [tag]) T sc.kind sc.slf ly X2 hns2 hv0 hv1 he2 hd2 hw (by simp) htf (hsf _) (fun h3 tk4 k3 hd3 => ?_) nd)
  refine wpAny_execs_nil ?_
  exact ini_end (a := e) (fs := [(fld, v1), (tag, V.str z)]) e0 ea (fun b o hb ho => k3 b o (Nat.ne_of_lt (Nat.lt_of_lt_of_le (Heap.lt_size ho) dn')) (kk2 b o hb ho)) (k3 _ _ (Ne.symm dne) he2) dn' dne hd3
    (relO_put (fs := [(tag, V.str z)]) rb (relO_put (fs := []) (y := V.str z) ⟨_, rfl⟩ fun g => True.intro)) q
end
end Mp
end
section
set_option Elab.async false
set_option linter.all false
set_option maxRecDepth 100000
set_option maxHeartbeats 2000000
/-! MpRaise: raise C(..), C an exception class of one's own. -/
namespace Mp
open PySem PySem.Spec PyProof.Rows L2

section
variable {X : Cx} {e : Expr} {es : List Expr} {ta : TA} {p pos : Pos}
/-- C(): as pmk_oex, no argument -/
theorem pmk_oex0 {CX : CXT} {x : Str} {C fI : Addr} {k : Nat} {fd : FuncData} {ps : List Str} {sp : Sp} (T : OexC X.K C) (iC : PySem.W.findIn X.K (.ref C) "__init__" = some (some (.ref fI))) (tI : PySem.W.typeIn X.K (.ref fI) = some (.type "function"))
    (F1 : FnOk X.prog X.w X.K X.mg X.base CX k fI fd ps sp) (hr : Room (k + 1) X.A) (hb : Binds X.K fd ps []) (hx : Passes CX X (fun _ _ _ => False)) (hg : Gl X x) (hm : X.mg x = some (.ref C))
    (hdb : (x == ("__debug__" : Str)) = false) :
    PMk X (.Call (.Name x p) [] [] pos) (tMkO C sp [] tNil) := by
  intro pins s σ H Q I h
  obtain ⟨nm, q, N, bs, bm, sn, sub, ab, col, dd, k0, k1, k2, k3, k5, hC, hbm⟩ := T.cls
  refine wpAny_Call_Name_kw (ld_glob I hg hm ?_ hdb)
  refine PySem.W.callWith_K0 I.kIn T.kC ?_
  show wpAny _ _ (call (.ref C) []) _ _ _
  obtain ⟨hz, q1⟩ := h
  obtain ⟨hp, g, dr, tk, os⟩ := s
  have hsz : hp.objs.size ≤ hp.objs.size + 1 := Nat.le_succ _
  have hn : H (hp.objs.size + 1) = none := I.hok.fresh hsz
  have hq := q1 (hp.objs.size + 1) hn
  have kk : ∀ b o, hp.get? b = some o → ((hp.push (PySem.W.kdv_tup [])).push (PySem.HandSPX.excO C hp.objs.size)).get? b = some o := fun b o e => Heap.get?_push_of_some _ (Heap.get?_push_of_some _ e)
  have hget : ((hp.push (PySem.W.kdv_tup [])).push (PySem.HandSPX.excO C hp.objs.size)).get? (hp.objs.size + 1) = some (PySem.HandSPX.excO C hp.objs.size) := by heap_get
  have I2 : Inv X pins σ (upd H (hp.objs.size + 1) (exo (hp.objs.size + 1) C none)) ⟨(hp.push (PySem.W.kdv_tup [])).push (PySem.HandSPX.excO C hp.objs.size), g, dr, tk, os⟩ :=
    I.laid (t' := tk) (a := hp.objs.size + 1) (o := exo (hp.objs.size + 1) C none) (h' := (hp.push (PySem.W.kdv_tup [])).push (PySem.HandSPX.excO C hp.objs.size)) kk hsz (exo_ok hget)
  have r2 : Vals [V.ref (hp.objs.size + 1)] [Value.ref (hp.objs.size + 1)] := .cons rfl .nil
  have hl : ([Value.ref (hp.objs.size + 1)] ++ ([] : List Value)).length = ps.length := by
    have e := F1.len _ _ _ _ hq
    rw [← e]
    rfl
  refine wpAny_call (PySem.HandSPX.call_own F.excBase_ValueError (fun Y => PySem.HandSPX.refsVE_contains Y bm hbm) (I.kIn _ _ hC) (PySem.W.looks_findIn I.kIn iC) (fun self => PySem.W.bind_fn I.kIn self tI) (Nat.zero_le _)
    (codeAny_mono (F1.run _ X.stack _ _ ⟨[Value.ref (hp.objs.size + 1)], []⟩ [Value.ref (hp.objs.size + 1)] _ _ (fun _ _ _ => False) (hr.make C [] []) (I2.env0.make C [] []) (hb _ [Value.ref (hp.objs.size + 1)] I2.kIn hl) r2 hq) fun r s' hq' => ?_))
  cases r with
  | error er => exact hx pins σ _ _ er s' I2 hq'
  | ok fl =>
    cases fl with
    | ret u =>
      obtain ⟨v, H2, os2, bare2, un2, hok2, rv, ev, d, fs, ea, ed, hd1, q2⟩ := hq'
      subst ev
      obtain ⟨h2, g2, d2, t2, os'⟩ := s'
      exact ⟨rv, mk_end (raises_own T.exC T.tyC) I hsz kk un2 hok2 os2 bare2 ea ed hd1 q2⟩
    | next => exact False.elim hq'
    | brk => exact False.elim hq'
    | cont => exact False.elim hq'
end
theorem passF {X : Cx} : Passes (L2.CX X.prog X.w) X (fun _ _ _ => False) := fun _ _ _ _ _ _ _ ⟨_, _, _, _, _, _, _, _, _, _, _, _, q⟩ => q.elim
theorem xd_upd {H : Hp} {a dx : Addr} {C : Addr} {fs : List (Str × V)} (ha : H a = none) : upd (del (upd (upd (upd H a (exo a C none)) dx (exd dx fs)) a (exo a C (some dx))) a) dx (.xd fs) = upd H dx (.xd fs) := by
  funext b
  by_cases hb : b = dx
  · rw [hb, upd_same, upd_same]
  · rw [upd_ne hb, upd_ne hb]
    by_cases h : b = a
    · rw [h, del_same, ha]
    · rw [del_ne h, upd_ne h, upd_ne hb, upd_ne h]
/-- the class number C, called x: an exception of n (0 or 1) fields besides the tag -/
structure Xk (S : Sta) (x : Str) (C : Nat) (n : Nat) (fs : List V → List (Str × V)) : Prop where
  mg : S.mg x = some (.ref (S.ca C))
  cls : OexC S.K (S.ca C)
  fn : ∃ fI fd ps k, ps.length = n + 1 ∧ PySem.W.findIn S.K (.ref (S.ca C)) "__init__" = some (some (.ref fI)) ∧ PySem.W.typeIn S.K (.ref fI) = some (.type "function") ∧ Binds S.K fd ps [] ∧ k ≤ 1 ∧
    FnOk S.P S.w S.K S.mg S.base (L2.CX S.P S.w) k fI fd ps (iniSp (S.ca C) n fs)
section
variable {X : Cx} {S : Sta} {W : WX} {e : Expr} {es : List Expr} {fs : Fes} {p pos pos' : Pos} {x : Str} {C tagN fldN : Nat} {z : Str}
theorem ini_q {n : Nat} {g : List V → List (Str × V)} {H : Hp} {ws : List V} {Q : XK} {a : Addr} (hl : ws.length = n) (ha : H a = none) (q : ∀ dx, H dx = none → Q (.ref C) (some dx) (upd H dx (.xd (g ws)))) :
    iniSp C n g (.ref a :: (ws ++ [])) (upd H a (exo a C none)) (fun v H2 => v = .non ∧ ∃ (d : Addr) (fs : List (Str × V)), H2 a = some (exo a C (some d)) ∧ H2 d = some (exd d fs) ∧ H d = none ∧ Q (.ref C) (some d) (upd (del H2 a) d (.xd fs))) (fun _ _ _ => False) := by
  refine ⟨a, ws, by rw [List.append_nil], hl, upd_same, fun dx hd ne => ?_⟩
  have hdn : H dx = none := by rw [upd_ne ne] at hd; exact hd
  refine ⟨rfl, dx, g ws, upd_same, by rw [upd_ne ne, upd_same], hdn, ?_⟩
  rw [xd_upd ha]
  exact q dx hdn
/-- raise C() -/
theorem ss_raise0 (ov : Ov S X) (xk : Xk S x C 0 fun _ => [(S.nm tagN, .str z)]) (hr : Room 2 X.A) (hc : X.calm = true) (tk : Takes X W) (hg : Gl X x) (hdb : (x == ("__debug__" : Str)) = false) :
    PS X (.Raise (some (.Call (.Name x p) [] [] pos)) none pos') (tS S W fun f m => .ex ⟨C, [tagN], [.str z]⟩ f m) := by
  obtain ⟨fI, fd, ps, k, hps, iC, tI, hb, hk, F1⟩ := xk.fn
  have F1 := fnok_over ov F1
  have hm := xk.mg
  have T := xk.cls
  rw [← ov.mg] at hm
  rw [← ov.K] at iC tI hb T
  refine PS.imp (ps_raise hc tk (pmk_oex0 T iC tI (F1.mono hk) hr hb passF hg hm hdb)) fun D σ H ⟨ow0, io0, H0, ow, io, f, m, rs, p⟩ => ?_
  refine ⟨Nat.zero_le _, fun a ha => ini_q (ws := []) (Q := fun c d H' => W c d σ H') rfl ha fun dx hd => ?_⟩
  obtain ⟨n1, n2⟩ := notOwned rs.r hd
  exact rs.exn p (.fresh hd) (rs.r.h.fresh hd) upd_same n1 n2 ⟨rfl, .cons .mk_str .nil⟩
/-- raise C(e) -/
theorem ss_raise1 (ov : Ov S X) (xk : Xk S x C 1 fun ws => [(S.nm fldN, ws.headD .non), (S.nm tagN, .str z)]) (hr : Room 2 X.A) (hc : X.calm = true) (tk : Takes X W) (hg : Gl X x) (ha : PA X [e] (tRs S W fs)) (hn : nst e = true) (hdb : (x == ("__debug__" : Str)) = false) :
    PS X (.Raise (some (.Call (.Name x p) [e] [] pos)) none pos') (tS S W fun f m => SR.of (fs f m) f fun ds m1 => match ds with | [d] => .ex ⟨C, [fldN, tagN], [d, .str z]⟩ f m1 | _ => .bad) := by
  obtain ⟨fI, fd, ps, k, hps, iC, tI, hb, hk, F1⟩ := xk.fn
  have F1 := fnok_over ov F1
  have hm := xk.mg
  have T := xk.cls
  rw [← ov.mg] at hm
  rw [← ov.K] at iC tI hb T
  refine PS.imp (ps_raise hc tk (pmk_oex T iC tI (F1.mono hk) hr hb .nil passF hg hm ha hdb (starEach_ns hn) (stars_any rfl))) fun D σ H ⟨ow0, io0, H0, ow, io, f, m, rs, p⟩ => ?_
  refine ⟨ow, io, f, m, rs.r, ?_⟩
  refine PostS.seqs rs p fun ds m1 io1 H1 vs x1 r1 v1 p1 => ?_
  match ds, v1, p1 with
  | [], v1, p1 => exact p1.elim
  | _ :: _ :: _, v1, p1 => exact p1.elim
  | [d], v1, p1 =>
  obtain ⟨v, rfl, q1⟩ : ∃ v, vs = [v] ∧ RV S ow io1 H1 d v := by
    unfold RVs at v1
    obtain ⟨v, r, rfl, q1, q2⟩ := v1
    unfold RVs at q2
    subst q2
    exact ⟨v, rfl, q1⟩
  dsimp only at p1
  refine ⟨(by decide : (1 : Nat) ≤ 1000), fun a ha => ini_q (ws := [v]) (Q := fun c d H' => W c d σ H') rfl ha fun dx hd => ?_⟩
  obtain ⟨n1, n2⟩ := notOwned r1.r hd
  exact r1.exn p1 (.fresh hd) (r1.r.h.fresh hd) upd_same n1 n2 ⟨rfl, .cons (q1.ex (.fresh hd)) (.cons .mk_str .nil)⟩
end
end Mp
end
section
set_option Elab.async false
set_option linter.all false
set_option maxRecDepth 100000
set_option maxHeartbeats 4000000
/-! MpTry: try .. except (A, B, C) as e. -/
namespace Mp
open PySem PySem.Spec PyProof.Rows L2

theorem flyingZ_keeps {B h h' : Heap} {l : List Env} {e : Addr} {Z : Obj → Prop} (R : PySem.HandSPX.FlyingZ B l e Z h) (k : ∀ b o, h.get? b = some o → h'.get? b = some o) : PySem.HandSPX.FlyingZ B l e Z h' := by
  obtain ⟨f1, f2, f3, oe, ws, T, oT, ts, he, hc, hd, h1, hn, hne, hT, hdT, h3⟩ := R
  exact ⟨fun b o q => k b o (f1 b o q), f2, f3.of_keeps fun b o q _ => ⟨o, k b o q, rfl⟩, oe, ws, T, oT, ts, k _ _ he, hc, hd, h1, hn, hne, k _ _ hT, hdT, h3⟩
/-- what the clause wishes of an exception of the body: it is of one of the three classes -/
def wAs3 (nn : Nat) (K : PySem.W.Frag) (cs : List Value) (i : Nat) (ts : Addr → Value → Option Addr → TS) (D : Ends) : WX := fun cls d σ H =>
  PySem.W.exmAny K cls cs = some true ∧ ∀ a, H a = none → σ.length = nn → ts a cls d { nx := fun σ' H' => D.nx (σ'.set i none) H', rt := D.rt, bk := fun σ' H' => D.bk (σ'.set i none) H', ct := fun σ' H' => D.ct (σ'.set i none) H' } (σ.set i (some (.ref a))) H
section
variable {X : Cx} {x1 x2 x3 n : Str} {c1 c2 c3 : Value} {i kk : Nat} {body suite : List Stmt} {b₀ : Stmt} {np np2 np3 tpos pos pos' : Pos} {tb : WX → TS} {ts : Addr → Value → Option Addr → TS}
theorem ps_try_as3 (hs : X.stack = X.env :: X.outer) (hf : X.env.frame = some X.env.locals) (hN : X.N.Nodup) (hi : X.N[i]? = some n) (hln : X.env.kindOf n = some .local) (hc1 : Names X x1 c1) (hc2 : Names X x2 c2) (hc3 : Names X x3 c3)
    (hb : ∀ (W : WX) (pn : List (Addr × Obj)) (xe : Value → Shared → Prop), Takes (X.tr pn xe) W → PassesOwn (model X.prog X.w) X.A X.env xe → PSs (X.tr pn xe) body (tb W))
    (hsu : ∀ (a : Addr) (oe : Obj) (cls : Value) (d : Option Addr) (pn : List (Addr × Obj)), Zc cls d oe → (∃ vs, oe.data = .fields vs) → PSs (X.suite a ((a, oe) :: pn)) (b₀ :: suite) (ts a cls d)) :
    PS X (.Try body [.ExceptHandler (some (.Tuple [.Name x1 np, .Name x2 np2, .Name x3 np3] kk tpos)) (some n) (b₀ :: suite) pos'] [] [] pos) (fun D σ H => tb (wAs3 X.N.length X.K [c1, c2, c3] i ts D) D σ H) := by
  refine ⟨fun pins s σ H D I h => ?_⟩
  have ok := I.ok
  have hfr : X.A.frames = some (X.env :: X.outer) := by rw [ok.frames, hs]
  have hloc : Loc X.env.scope n := .inl hln
  refine wpAny_Try_except ?_
  refine wpAny_mono ((hb (wAs3 X.N.length X.K [c1, c2, c3] i ts D) (X.pn ++ pins) (fun e s₁ => wpAny (model X.prog X.w) X.A (noteFrame e X.env) (fun _ s₂ => wpAny (model X.prog X.w) X.A (setFlight e none) (fun _ s₃ =>
    wpAny (model X.prog X.w) X.A (handleBy e X.env [.ExceptHandler (some (.Tuple [.Name x1 np, .Name x2 np2, .Name x3 np3] kk tpos)) (some n) (b₀ :: suite) pos']) (SP X pins D) X.xe s₃) X.xe s₂) X.xe s₁) (fun u s' xx => ?_) PassesOwn.looking).run [] s σ H D (I.toTry _) h) (fun f s1 hsp => ?_) (fun e s1 he => he)
  · -- the catch
    obtain ⟨a, B, sI, pins', σ', H', cls, d, rfl, J', nb, up, sky, na, os, ag, hb1, hyes⟩ := xx
    have J : Inv X pins σ' H' sI := J'.ofTry ok
    have sky' : Sky B (X.env :: X.outer) a (Zc cls d) X.env.locals s'.heap := by rw [← hs]; exact sky
    show wpAny (model X.prog X.w) X.A (noteFrame (.ref a) X.env) _ _ _
    refine Sky.land Zc.steady hfr hf sky' fun h3 fl3 up3 => ?_
    have J3 : Inv X pins σ' H' { s' with heap := h3 } := J.landed nb fl3.1 (up.trans up3) os ag
    obtain ⟨oe3, vs3, he3, hz3, hd3⟩ := fl3.there
    have notFr : ∀ {h : Heap} {o : Obj} {vs : Array Value}, h.FunFrames B (X.env :: X.outer) → h.get? a = some o → o.data = .fields vs → a ∉ frs (X.env :: X.outer) := fun {h o vs} ff e dd hm => by
      obtain ⟨_, o', e', hnf⟩ := ff.mem hm
      rw [e] at e'; cases e'
      exact hnf _ dd
    have nfr := notFr fl3.2.2.1 he3 hd3
    have nL : a ≠ X.env.locals := fun z => nfr (List.mem_filterMap.mpr ⟨X.env, List.mem_cons_self, by rw [hf, z]⟩)
    have nF : a ∉ X.fs := fun hm => by
      obtain ⟨e, he, q⟩ := List.mem_filterMap.mp hm
      exact nfr (List.mem_filterMap.mpr ⟨e, List.mem_cons_of_mem _ he, q⟩)
    have S3 := J3.suite he3 hd3 na nL nF
    refine wpAny_handleBy_cons (codeAny_handlers_test ?_) (by intro q; cases q)
    have test : ∀ {x : Str} {c : Value} {np : Pos} {Q : Value → Shared → Prop} {E : Value → Shared → Prop}, Names X x c → Q c { s' with heap := h3 } → wpAny (model X.prog X.w) (X.A.mark (some (.ref a))) (eval (.Name x np) X.env) Q E { s' with heap := h3 } := fun {x c np Q E} hc q => by
      obtain ⟨hg, hdbg, hm | ⟨hm, hv, hnn⟩⟩ := hc
      · exact ld_glob (X := X.suite a ((a, oe3) :: (X.pn ++ pins))) S3 hg hm q hdbg
      · exact ld_blt (X := X.suite a ((a, oe3) :: (X.pn ++ pins))) S3 hg hm hv q hnn hdbg
    refine wpAny_Tuple ?_
    refine wpAny_items_cons (test hc1 ?_)
    refine wpAny_items_cons (test hc2 ?_)
    refine wpAny_items_cons (test hc3 ?_)
    refine wpAny_items_nil ⟨by size_fits, ?_⟩
    have kp : ∀ q o, h3.get? q = some o → (h3.push { cls := .type "tuple", data := .seq [c1, c2, c3].toArray }).get? q = some o := fun _ _ z => Heap.get?_push_of_some _ z
    have fl3' := flyingZ_keeps fl3 kp
    have up3' : h3.UpToSlots (h3.push { cls := .type "tuple", data := .seq [c1, c2, c3].toArray }) := Heap.UpToSlots.of_keeps kp
    have J3' : Inv X pins σ' H' { s' with heap := h3.push { cls := .type "tuple", data := .seq [c1, c2, c3].toArray } } := J.landed nb fl3'.1 ((up.trans up3).trans up3') os ag
    have LT : PySem.W.Looks (model X.prog X.w) (h3.push { cls := .type "tuple", data := .seq [c1, c2, c3].toArray }) (typeOf (.ref a)) cls := fun A Q E s k q => wpAny_typeOf_ref (k _ _ (kp _ _ he3)) (by rw [hz3.1]; exact q)
    have LM := PySem.W.exm_tup3 (M := model X.prog X.w) (J3'.kIn) LT (Heap.get?_push_size h3 rfl) hb1
    refine LM.here ?_
    refine codeAny_handlers_suite_as ?_
    refine PySem.HandSPX.lands_againZ fl3' fun h4 fl4 up4 => ?_
    have J4 : Inv X pins σ' H' { s' with heap := h4 } := J.landed nb fl4.1 (((up.trans up3).trans up3').trans up4) os ag
    obtain ⟨oe4, vs4, he4, hz4, hd4⟩ := fl4.there
    have S4 := J4.suite he4 hd4 na nL nF
    refine store_ok (X := X.suite a ((a, oe4) :: (X.pn ++ pins))) (v := .ref a) S4 hN hi hloc rfl (fun s5 S5 => ?_) (.inr hln)
    refine wpAny_mono ((hsu a oe4 cls d (X.pn ++ pins) hz4 ⟨_, hd4⟩).run [] s5 _ H' _ S5 (hyes a na J'.len)) (fun f s6 hsp => ?_) (fun _ _ z => False.elim z)
    have end_ : ∀ {σ6 : L2.St} {H6 : Hp} {Q : Shared → Prop}, Inv (X.suite a ((a, oe4) :: (X.pn ++ pins))) [] σ6 H6 s6 → (∀ s7, Inv X pins (σ6.set i none) H6 s7 → Q s7) →
        wpAny (model X.prog X.w) X.A (do bindName X.env n .none; unbindBehindTheSuite X.env n pos') (fun _ s7 => Q s7) X.xe s6 := fun {σ6 H6 Q} S6 hq => gone_ok (S6.unsuite ok) hN hi hln hq
    cases f with
    | next =>
      obtain ⟨σ6, H6, S6, q6⟩ := hsp
      exact end_ S6 fun s7 J7 => ⟨_, _, J7, q6⟩
    | brk =>
      obtain ⟨σ6, H6, S6, q6⟩ := hsp
      exact end_ S6 fun s7 J7 => ⟨_, _, J7, q6⟩
    | cont =>
      obtain ⟨σ6, H6, S6, q6⟩ := hsp
      exact end_ S6 fun s7 J7 => ⟨_, _, J7, q6⟩
    | ret u =>
      obtain ⟨v6, σ6, H6, S6, r6, q6⟩ := hsp
      exact end_ S6 fun s7 J7 => ⟨_, _, _, J7, r6, q6⟩
  · cases f with
    | next =>
      obtain ⟨σ', H', J', q⟩ := hsp
      exact wpAny_execs_nil ⟨σ', H', J'.ofTry ok, q⟩
    | brk =>
      obtain ⟨σ', H', J', q⟩ := hsp
      exact ⟨σ', H', J'.ofTry ok, q⟩
    | cont =>
      obtain ⟨σ', H', J', q⟩ := hsp
      exact ⟨σ', H', J'.ofTry ok, q⟩
    | ret u =>
      obtain ⟨v, σ', H', J', r, q⟩ := hsp
      exact ⟨v, σ', H', J'.ofTry ok, r, q⟩
end
end Mp
end
section
set_option Elab.async false
set_option linter.all false
set_option maxRecDepth 100000
set_option maxHeartbeats 4000000
/-! MpField: a def that reads the fields of the exception that is handled. -/
namespace Mp
open PySem PySem.Spec PyProof.Rows L2

/-- objects stay -/
def ExA (H H' : Hp) : Prop := ∀ b o, H b = some o → H' b = some o
theorem ExA.refl (H : Hp) : ExA H H := fun _ _ h => h
theorem ExA.trans {H H1 H2 : Hp} (a : ExA H H1) (b : ExA H1 H2) : ExA H H2 := fun x o h => b x o (a x o h)
theorem ExA.fresh {H : Hp} {p : Addr} {o : HO} (h : H p = none) : ExA H (upd H p o) := fun b u e => by rw [upd_ne (ne_of_none e h)]; exact e
/-- the class's fields may be read -/
structure Xfs (K : PySem.W.Frag) (C : Addr) (ns : List Str) : Prop where
  xf : XfC K C
  no : ∀ n ∈ ns, PySem.W.findIn K (.ref C) n = some none
section
variable {X : Cx} {a C : Addr} {oe : Obj} {dd : Addr} {e : Expr} {te : TE} {pos : Pos} {n : Str}
/-- e.n, e the handled exception (pinned) -/
theorem pe_xf2 (T : XfC X.K C) (hno : PySem.W.findIn X.K (.ref C) n = some none) (hz : Zc (.ref C) (some dd) oe) (hf : ∃ vs, oe.data = .fields vs) (hp : (a, oe) ∈ X.pn) (he : PE X e te) (hb : attributeBase e n X.env (eval e X.env) = eval e X.env) :
    PE X (.Attribute e n pos) (fun σ H Q => te σ H fun x H1 => x = .ref a ∧ ∃ (fs : List (Str × V)) (v : V), H1 dd = some (.xd fs) ∧ fs.lookup n = some v ∧ Q v H1) := by
  refine ⟨fun pins s σ H Q I h => ?_⟩
  refine attr_of hb (thn (he.run pins s σ H _ I h) fun u s1 hh => ?_)
  obtain ⟨x, H1, I1, rx, ex, fs, v, ea, l, q⟩ := hh
  subst ex
  obtain rfl : u = Value.ref a := rx
  obtain ⟨ha, _⟩ := I1.pin (a, oe) (List.mem_append_left _ hp)
  obtain ⟨vs, hd⟩ := hf
  have hx : ObjOk X.prog X.w H1 s1.heap dd (.xd fs) := I1.hok dd _ ea
  obtain ⟨mA, hns, hr⟩ := hx
  obtain ⟨od, ho, hl⟩ := lookIn_ns hns
  obtain ⟨u, hu, ru⟩ := RelO.some_of (v := v) (o := mA n) (by rw [← l]; exact hr n)
  have J : PySem.W.InstAt s1.heap a oe C (some od) := ⟨ha, hz.1, by unfold PySem.W.notCls; rw [hd] <;> rfl, by rw [hz.2]; exact ho⟩
  exact PySem.HandSPX.exc_get I1.kIn J T.ga T.gg T.exC (PySem.W.findObj_own T.hdC hno rfl (by rw [hl, hu])) (handed_of ru) ⟨v, H1, I1.tok _, ru, q⟩
end
/-- constants -/
def strE : List Expr → Option (List Str)
  | [] => some []
  | .Constant (.str w) _ _ :: r => (strE r).map (w :: ·)
  | _ => none
theorem pa_strE {X : Cx} : ∀ {es : List Expr} {ws : List Str}, strE es = some ws → PA X es (fun _ H Q => Q (ws.map V.str) H)
  | [], ws, h => by
    unfold strE at h
    cases h
    exact pa_nil
  | e :: r, ws, h => by
    unfold strE at h
    split at h
    · rename_i h1
      cases h1
    · rename_i w j p r' h1
      cases h1
      cases q : strE r with
      | none => rw [q] at h; cases h
      | some ws' =>
        rw [q] at h
        cases h
        exact pa_cons pe_str (pa_strE q)
    · cases h
theorem inV_strs (tag : Str) : ∀ ws : List Str, inV (.str tag) (ws.map V.str) = decide (tag ∈ ws)
  | [] => rfl
  | w :: r => by
    unfold inV
    rw [List.map_cons, List.any_cons]
    have h := inV_strs tag r
    unfold inV at h
    rw [h]
    have e : eqV (.str w) (.str tag) = decide (w = tag) := by
      show (w == tag) = _
      rfl
    rw [e]
    by_cases q : w = tag
    · subst q; simp
    · have q' : tag ≠ w := Ne.symm q
      simp [q, q']
theorem flat_strs : ∀ ws : List Str, (ws.map V.str).all flatV = true
  | [] => rfl
  | w :: r => by rw [List.map_cons, List.all_cons, flat_strs r]; rfl
/-- a step 'if e.tag in [..]: return e.f' or 'if e.tag == w: return e.f' -/
def fdStep (ev : Str) : Stmt → Option (List Str × Str)
  | .If (.Compare (.Attribute (.Name x _) t _) [.In] [.List es _] _) [.Return (some (.Attribute (.Name y _) f _)) _] [] _ => if x = ev ∧ t = "tag" ∧ y = ev then (strE es).bind fun ws => if ws.length ≤ 100 then some (ws, f) else none else none
  | .If (.Compare (.Attribute (.Name x _) t _) [.Eq] [.Constant (.str w) _ _] _) [.Return (some (.Attribute (.Name y _) f _)) _] [] _ => if x = ev ∧ t = "tag" ∧ y = ev then some ([w], f) else none
  | _ => none
/-- the last one: return e.f if e.tag == w else None -/
def fdLast (ev : Str) : Stmt → Option (Str × Str)
  | .Return (some (.IfExp (.Compare (.Attribute (.Name x _) t _) [.Eq] [.Constant (.str w) _ _] _) (.Attribute (.Name y _) f _) (.Constant .none _ _) _)) _ => if x = ev ∧ t = "tag" ∧ y = ev then some (w, f) else none
  | _ => none
def fdBody (ev : Str) : List Stmt → Option (List (List Str × Str) × (Str × Str))
  | [] => none
  | [s] => (fdLast ev s).map fun l => ([], l)
  | s :: r => match fdStep ev s, fdBody ev r with
    | some p, some (ps, l) => some (p :: ps, l)
    | _, _ => none
/-- what it gives -/
def fdRunG {A : Type} (non : A) : List (List Str × Str) → (Str × Str) → Str → List (Str × A) → Option A
  | [], (w, f), tag, fs => if tag = w then fs.lookup f else some non
  | (ws, f) :: r, l, tag, fs => if tag ∈ ws then fs.lookup f else fdRunG non r l tag fs
abbrev fdRun : List (List Str × Str) → (Str × Str) → Str → List (Str × V) → Option V := fdRunG .non
def fdNames : List (List Str × Str) → (Str × Str) → List Str
  | [], (_, f) => ["tag", f]
  | (_, f) :: r, l => f :: fdNames r l
theorem tag_in : ∀ (ps : List (List Str × Str)) (l : Str × Str), ("tag" : Str) ∈ fdNames ps l
  | [], (w, f) => List.mem_cons_self ..
  | (ws, f) :: r, l => List.mem_cons_of_mem _ (tag_in r l)
/-- the reading: slot 0 bears the exception -/
def tFd (a dd : Addr) (ps : List (List Str × Str)) (l : Str × Str) : TS := fun D σ H => ∃ fs tag v, σ[0]? = some (some (.ref a)) ∧ H dd = some (.xd fs) ∧ fs.lookup ("tag" : Str) = some (.str tag) ∧ fdRun ps l tag fs = some v ∧ ∀ H', ExA H H' → D.rt v H'
section
variable {X : Cx} {a C : Addr} {oe : Obj} {dd : Addr} {ev : Str}
theorem fd_body (hN : X.N[0]? = some ev) (hv : Vis X.env.scope ev) (hd : (ev == ("__debug__" : Str)) = false) (hcd : (ev == ("__classdict__" : Str)) = false) (hz : Zc (.ref C) (some dd) oe) (hf : ∃ vs, oe.data = .fields vs) (hp : (a, oe) ∈ X.pn) :
    ∀ {b : List Stmt} {ps : List (List Str × Str)} {l : Str × Str}, fdBody ev b = some (ps, l) → Xfs X.K C (fdNames ps l) → PSs X b (tFd a dd ps l)
  | [], _, _, h, _ => by cases h
  | [s], ps, l, h, T => by
    have fld : ∀ {n : Str} {p1 p2 : Pos}, n ∈ fdNames ps l → PE X (.Attribute (.Name ev p1) n p2) (fun σ H Q => ∃ fs v, σ[0]? = some (some (.ref a)) ∧ H dd = some (.xd fs) ∧ fs.lookup n = some v ∧ Q v H) := fun {n p1 p2} hn =>
      PE.imp (pe_xf2 (e := .Name ev p1) T.xf (T.no n hn) hz hf hp (pe_var hN hv hd hcd) rfl) fun σ H Q ⟨fs, v, e0, e1, e2, q⟩ => ⟨.ref a, e0, rfl, fs, v, e1, e2, q⟩
    unfold fdBody fdLast at h
    split at h
    · rename_i x p1 t p2 w j1 p3 p4 y p5 f p6 j2 p7 p8 p9
      split at h
      · rename_i hc
        obtain ⟨rfl, rfl, rfl⟩ := hc
        cases h
        have c1 := pt_cmpR (pos := p4) op_eq (fld (p1 := p1) (p2 := p2) (tag_in [] (w, f))) (pe_str (x := w) (j := j1) (pos := p3)) (nobehind _ (by decide) (by decide))
        have c2 := pss_one (ps_ret (pos := p9) (pe_ifExp (pos := p8) c1 (fld (n := f) (p1 := p5) (p2 := p6) (List.mem_cons_of_mem _ (List.mem_cons_self ..))) (pe_non (j := j2) (pos := p7))))
        refine PSs.imp c2 fun D σ H ⟨fs, tag, v, e0, e1, e2, e3, q⟩ => ?_
        refine ⟨fs, .str tag, e0, e1, e2, rfl, _, rfl, ?_⟩
        unfold fdRunG at e3
        by_cases ht : tag = w
        · rw [if_pos ht] at e3
          rw [show decide (V.str tag = V.str w) = true from decide_eq_true (by rw [ht])]
          exact ⟨fs, v, e0, e1, e3, q H (.refl _)⟩
        · rw [if_neg ht] at e3
          rw [show decide (V.str tag = V.str w) = false from decide_eq_false (fun z => ht (V.str.inj z))]
          cases e3
          exact q H (.refl _)
      · cases h
    · cases h
  | s :: s2 :: r, ps, l, h, T => by
    unfold fdBody at h
    split at h
    · rename_i p ps' l' h1 h2
      cases h
      obtain ⟨ws, f⟩ := p
      have T2 : Xfs X.K C (fdNames ps' l) := ⟨T.xf, fun n hn => T.no n (List.mem_cons_of_mem _ hn)⟩
      have fld : ∀ {n : Str} {p1 p2 : Pos}, n ∈ fdNames ((ws, f) :: ps') l → PE X (.Attribute (.Name ev p1) n p2) (fun σ H Q => ∃ fs v, σ[0]? = some (some (.ref a)) ∧ H dd = some (.xd fs) ∧ fs.lookup n = some v ∧ Q v H) := fun {n p1 p2} hn =>
        PE.imp (pe_xf2 (e := .Name ev p1) T.xf (T.no n hn) hz hf hp (pe_var hN hv hd hcd) rfl) fun σ H Q ⟨fs, v, e0, e1, e2, q⟩ => ⟨.ref a, e0, rfl, fs, v, e1, e2, q⟩
      have rest := fd_body hN hv hd hcd hz hf hp h2 T2
      have st : PS X s (fun D σ H => ∃ fs tag, σ[0]? = some (some (.ref a)) ∧ H dd = some (.xd fs) ∧ fs.lookup ("tag" : Str) = some (.str tag) ∧ (tag ∈ ws → ∃ v, fs.lookup f = some v ∧ ∀ H', ExA H H' → D.rt v H') ∧ (tag ∉ ws → ∀ H', ExA H H' → D.nx σ H')) := by
        unfold fdStep at h1
        split at h1
        · rename_i x p1 t p2 es p3 p4 y p5 f' p6 p7 p8
          split at h1
          · rename_i hc
            obtain ⟨rfl, rfl, rfl⟩ := hc
            cases q : strE es with
            | none => rw [q] at h1; cases h1
            | some ws' =>
              rw [q] at h1
              dsimp only [Option.bind_some] at h1
              split at h1
              rotate_left
              · cases h1
              rename_i hl
              cases h1
              have c1 := pt_cmpR (pos := p4) op_in_seq (fld (p1 := p1) (p2 := p2) (tag_in ((ws, f) :: ps') l)) (pe_lst (pos := p3) (pa_strE q)) rfl
              have c2 := ps_if (pos := p8) c1 (pss_one (ps_ret (pos := p7) (fld (n := f) (p1 := p5) (p2 := p6) (List.mem_cons_self ..)))) pss_nil
              refine PS.imp c2 fun D σ H ⟨fs, tag, e0, e1, e2, y1, y2⟩ => ?_
              refine ⟨fs, .str tag, e0, e1, e2, ?_, fun p hp => ?_⟩
              · rw [List.length_map, sizeLine_eq]
                omega
              have hx : ExA H (upd H p (.lst (ws.map V.str))) := .fresh hp
              refine ⟨p, ws.map V.str, rfl, .inl (.inl (.inl upd_same)), rfl, flat_strs ws, _, rfl, ?_⟩
              rw [if_neg (by decide), inV_strs]
              by_cases ht : tag ∈ ws
              · rw [decide_eq_true ht]
                obtain ⟨v, l1, q1⟩ := y1 ht
                exact ⟨fs, v, e0, hx _ _ e1, l1, q1 _ hx⟩
              · rw [decide_eq_false ht]
                exact y2 ht _ hx
          · cases h1
        · rename_i x p1 t p2 w j3 p3 p4 y p5 f' p6 p7 p8
          split at h1
          · rename_i hc
            obtain ⟨rfl, rfl, rfl⟩ := hc
            cases h1
            have c1 := pt_cmpR (pos := p4) op_eq (fld (p1 := p1) (p2 := p2) (tag_in (([w], f) :: ps') l)) (pe_str (x := w) (j := j3) (pos := p3)) (nobehind _ (by decide) (by decide))
            have c2 := ps_if (pos := p8) c1 (pss_one (ps_ret (pos := p7) (fld (n := f) (p1 := p5) (p2 := p6) (List.mem_cons_self ..)))) pss_nil
            refine PS.imp c2 fun D σ H ⟨fs, tag, e0, e1, e2, y1, y2⟩ => ?_
            refine ⟨fs, .str tag, e0, e1, e2, rfl, _, rfl, ?_⟩
            by_cases ht : tag = w
            · rw [show decide (V.str tag = V.str w) = true from decide_eq_true (by rw [ht])]
              obtain ⟨v, l1, q1⟩ := y1 (by rw [ht]; exact List.mem_cons_self ..)
              exact ⟨fs, v, e0, e1, l1, q1 _ (.refl _)⟩
            · rw [show decide (V.str tag = V.str w) = false from decide_eq_false (fun z => ht (V.str.inj z))]
              exact y2 (fun z => ht (List.mem_singleton.mp z)) _ (.refl _)
          · cases h1
        · cases h1
      refine PSs.imp (pss_cons st rest) fun D σ H ⟨fs, tag, v, e0, e1, e2, e3, q⟩ => ?_
      unfold fdRunG at e3
      refine ⟨fs, tag, e0, e1, e2, fun ht => ?_, fun ht H' hx => ?_⟩
      · rw [if_pos ht] at e3
        exact ⟨v, e3, q⟩
      · rw [if_neg ht] at e3
        exact ⟨fs, tag, v, e0, hx _ _ e1, e2, e3, fun H'' hx' => q H'' (hx.trans hx')⟩
    · cases h
end
end Mp
end
section
set_option Elab.async false
set_option linter.all false
set_option maxRecDepth 100000
set_option maxHeartbeats 4000000
/-! MpWhy: a def that asks what it is given, and tells the exception that comes. -/
namespace Mp
open PySem PySem.Spec PyProof.Rows L2 L2H

/-- a def called while an exception (pinned) is handled, its promise told of the very state -/
theorem run_pin {CX : CXT} {P : Program} {w : World} {K : PySem.W.Frag} {mg : Str → Option Value} {base : Heap} {k : Nat} {f : Addr} {name qual : Str} {params : Arguments} {body : List Stmt} {scope : Scope} {dV kV doc pm cdv ct oc : Value} {an od : Option Addr}
    {osl : Array (Option Value)} {N ps : List Str} (lk : K.lookup f = some ⟨oc, od, .func (PySem.W.fnOf name qual params body scope dV kV doc pm an cdv ct), osl⟩) (hcd : PySem.W.codeIn K cdv qual = true) (S : FnScope N ps scope)
    {A : Around} {outer : List Env} {s : Shared} {H : Hp} {args : Args} {us : List Value} {vs : List V} {Q : VK} {E : XK} {p : Addr × Obj} (hr : RoomH (k + 1) A) (hpin : PinOk outer H s p) (e0 : Env0 P w K mg base A outer s H)
    (hb : BindsTo s (PySem.W.fnOf name qual params body scope dV kV doc pm an cdv ct) args (ps.zip us)) (r : Vals vs us) (hl : vs.length = ps.length)
    (hbody : ∃ t, PSs (cxH CX P w K mg base N qual scope f cdv A outer s H E p) body t ∧ t { nx := fun _ H' => Q .non H', rt := Q } (L2.start N vs) H) :
    codeAny (model P w) A (.call (.ref f) args) (CR CX outer P w H s Q E) s := by
  have KX : K.In s.heap := e0.mod.kin.keeps fun b o e => (e0.bs b o e).1
  have lim : s.heap.NoLimit := e0.mod.nolimit.keeps fun b o e => (e0.bs b o e).1
  have hkind : ∀ y ∈ ps.zip us, scope.names.lookup y.1 = some .local ∨ (scope.names.lookup y.1 = some .cell ∧ ((cellsFrom (s.heap.objs.size + 1) scope.names []).lookup y.1).isSome = true) := fun ⟨n, v⟩ hy => by
    rcases S.par n (List.of_mem_zip hy).1 with q | q
    · exact .inl q
    · exact .inr ⟨q, PySem.W.cellsFrom_some _ _ _ (.inl q)⟩
  refine codeAny_call_function hr.depth (KX _ _ lk) rfl S.co S.gen rfl (PySem.W.codeRec_of KX hcd) (hb _ _ _ _ ?_)
  refine wpAny_newFunctionEnv_cells S.kind hkind fun env he s1 x => ?_
  subst he
  refine ⟨lim.keeps x.toInCall.keep, codeAny_func ?_⟩
  obtain ⟨t, ht, hq⟩ := hbody
  have I : Inv (cxH CX P w K mg base N qual scope f cdv A outer s H E p) [] (L2.start N vs) H s1 := inv_startH S hpin e0 hl r x
  refine wpAny_mono (ht.run [] s1 (L2.start N vs) H _ I hq) (fun fl s' hs => ?_) fun e s' hs => hs
  have fin : ∀ {σ' : L2.St} {H' : Hp} {v : V} {u : Value}, Inv (cxH CX P w K mg base N qual scope f cdv A outer s H E p) [] σ' H' s' → L2.RelV v u → Q v H' → CE outer P w H s Q u s' :=
    fun {σ' H' v u} J rv q => ⟨v, H', J.os, J.bare, J.base, J.hok, rv, q⟩
  cases fl with
  | ret u =>
    obtain ⟨v, σ', H', J, rv, q⟩ := hs
    exact fin J rv q
  | next =>
    obtain ⟨σ', H', J, q⟩ := hs
    exact fin (v := V.non) (u := Value.none) J rfl q
  | brk =>
    obtain ⟨_, _, _, q⟩ := hs
    exact False.elim q
  | cont =>
    obtain ⟨_, _, _, q⟩ := hs
    exact False.elim q
/-- the field reader, at its address -/
structure FdOk (K : PySem.W.Frag) (mg : Str → Option Value) (x : Str) (ps : List (List Str × Str)) (l : Str × Str) : Prop where
  ex : ∃ fa cdv ev N name params body scope dV kV doc pm ct oc an od osl, mg x = some (.ref fa) ∧ PySem.W.keepIn K (.ref fa) = true ∧ K.lookup fa = some ⟨oc, od, .func (PySem.W.fnOf name x params body scope dV kV doc pm an cdv ct), osl⟩ ∧ PySem.W.codeIn K cdv x = true ∧
    FnScope N [ev] scope ∧ L2.Binds K (PySem.W.fnOf name x params body scope dV kV doc pm an cdv ct) [ev] [] ∧ N[0]? = some ev ∧ Vis scope ev ∧ (ev == ("__debug__" : Str)) = false ∧ (ev == ("__classdict__" : Str)) = false ∧ fdBody ev body = some (ps, l)
section
variable {X : Cx} {a C : Addr} {oe : Obj} {dd : Addr} {x n : Str} {ps : List (List Str × Str)} {l : Str × Str} {p1 p2 pos : Pos} {i : Nat}
/-- x(e), e the handled exception -/
theorem pe_fdcall (F : FdOk X.K X.mg x ps l) (T : Xfs X.K C (fdNames ps l)) (hr : RoomH 2 X.A) (hz : Zc (.ref C) (some dd) oe) (hf : ∃ vs, oe.data = .fields vs) (hp : (a, oe) ∈ X.pn) (hg : Gl X x) (hdb : (x == ("__debug__" : Str)) = false)
    (hN : X.N[i]? = some n) (hv : Vis X.env.scope n) (hd : (n == ("__debug__" : Str)) = false) (hcd : (n == ("__classdict__" : Str)) = false) :
    PE X (.Call (.Name x p1) [.Name n p2] [] pos) (fun σ H Q => σ[i]? = some (some (.ref a)) ∧ ∃ fs tag v, H dd = some (.xd fs) ∧ fs.lookup ("tag" : Str) = some (.str tag) ∧ fdRun ps l tag fs = some v ∧ ∀ H', ExA H H' → Q v H') := by
  obtain ⟨fa, cdv, ev, N, name, params, body, scope, dV, kV, doc, pm, ct, oc, an, od, osl, hm, hk, lk, hcode, SC, hb, hN0, hv0, hd0, hcd0, hbody⟩ := F.ex
  refine ⟨fun pins s σ H Q I h => ?_⟩
  obtain ⟨h1, fs, tag, v, e1, e2, e3, q⟩ := h
  refine wpAny_Call_Name_kw (ld_glob I hg hm ?_ hdb)
  refine PySem.W.callWith_K (h₀ := X.base) I.ok.mod.kin hk (thn ((pa_cons (pe_var (pos := p2) (i := i) hN hv hd hcd) pa_nil).run pos pins s σ H (fun vs H1 => vs = [V.ref a] ∧ H1 = H) I ⟨.ref a, h1, rfl, rfl⟩) fun us s1 ⟨vs, H1, I1, r, q1⟩ => ⟨I1.kIn, ?_⟩) rfl rfl
  obtain ⟨ev1, eH⟩ := q1
  subst ev1
  rw [eH] at I1
  show wpAny _ _ (call (.ref fa) us) _ _ _
  have hl : us.length = 1 := by rw [← r.length]; rfl
  have b := hb s1 us I1.kIn (by rw [List.append_nil]; exact hl)
  rw [List.append_nil] at b
  have P1 := I1.pin (a, oe) (List.mem_append_left _ hp)
  have hpin : PinOk X.stack H s1 (a, oe) := ⟨P1.1, P1.2.1, fun hm => (List.mem_cons.mp (I1.stkSub a hm)).elim P1.2.2.1 P1.2.2.2.1, P1.2.2.2.2⟩
  have rc : codeAny (model X.prog X.w) X.A (.call (.ref fa) ⟨us, []⟩) (CR C8.CX0 X.stack X.prog X.w H s1 Q C8.E0) s1 := by
    refine run_pin (k := 1) (N := N) (ps := [ev]) (us := us) (vs := [.ref a]) lk hcode SC hr hpin I1.env0 b r rfl ?_
    refine ⟨_, fd_body (X := cxH C8.CX0 X.prog X.w X.K X.mg X.base N x scope fa cdv X.A X.stack s1 H C8.E0 (a, oe)) hN0 hv0 hd0 hcd0 hz hf (List.mem_cons_self ..) hbody T, ?_⟩
    refine ⟨fs, tag, v, ?_, e1, e2, e3, q⟩
    rfl
  refine wpAny_call (codeAny_mono rc fun r s2 hq => ?_)
  cases r with
  | error e => exact (show False from hq).elim
  | ok fl =>
    cases fl with
    | ret u => exact I1.after hq
    | next => exact False.elim hq
    | brk => exact False.elim hq
    | cont => exact False.elim hq
end
/-- the exception is told: what is wanted at the heap H' where it is caught -/
def WhyX (K : PySem.W.Frag) (cs : List Value) (ps : List (List Str × Str)) (l : Str × Str) (Q : VK) : XK := fun cls d H' =>
  PySem.W.exmAny K cls cs = some true ∧ ∃ C dd fs tag v, cls = .ref C ∧ d = some dd ∧ H' dd = some (.xd fs) ∧ Xfs K C (fdNames ps l) ∧ fs.lookup ("tag" : Str) = some (.str tag) ∧ fdRun ps l tag fs = some v ∧
    ∀ H'' b, ExA H' H'' → H'' b = none → Q (.ref b) (upd H'' b (.tup [.str tag, v]))
def TTwhy (K : PySem.W.Frag) (cs : List Value) (ps : List (List Str × Str)) (l : Str × Str) : (XK → Hp → VK → Prop) → Hp → VK → Prop := fun tl H Q =>
  tl (WhyX K cs ps l Q) H (fun v H' => 2 ≤ sizeLine ∧ ∀ b, H' b = none → Q (.ref b) (upd H' b (.tup [.str "", v])))
/-- the def itself: its body -/
def whyB (a e x1 x2 x3 fx : Str) : List Stmt → Bool
  | [.Try [.Return (some (.Tuple [.Constant (.str z) _ _, .Call (.Name a' _) [] [] _] _ _)) _] [.ExceptHandler (some (.Tuple [.Name y1 _, .Name y2 _, .Name y3 _] _ _)) (some e') [.Return (some (.Tuple [.Attribute (.Name e2 _) t _, .Call (.Name fx' _) [.Name e3 _] [] _] _ _)) _] _] [] [] _] =>
    z == "" && a' == a && y1 == x1 && y2 == x2 && y3 == x3 && e' == e && e2 == e && e3 == e && fx' == fx && t == "tag"
  | _ => false
section
variable {X : Cx}
theorem why_gives {Ng : List Str} {x a e q x1 x2 x3 fx : Str} {sg : Scope} {g : Addr} {cdg c1 c2 c3 : Value} {ps : List (List Str × Str)} {l : Str × Str} {bg : List Stmt} (hB : whyB a e x1 x2 x3 fx bg = true)
    (hn : ∀ Y : Cx, Y.mg = X.mg → Y.env.scope = sg → Names Y x1 c1 ∧ Names Y x2 c2 ∧ Names Y x3 c3 ∧ Gl Y fx) (hfx : (fx == ("__debug__" : Str)) = false) (F : FdOk X.K X.mg fx ps l) (hr : RoomH 3 X.A)
    (hN : Ng.Nodup) (hN0 : Ng[0]? = some a) (hN1 : Ng[1]? = some e) (he : sg.names.lookup e = some .local) (hde : (e == ("__debug__" : Str)) = false) (hce : (e == ("__classdict__" : Str)) = false) (h0 : ∀ f : Addr, (L2.start Ng [V.ref f])[0]? = some (some (V.ref f)))
    (hl1 : 1 < Ng.length) :
    LamX.GivesTo X Ng x sg g cdg bg a q (TTwhy X.K [c1, c2, c3] ps l) := by
  intro f c' s H Q tl act hc h
  unfold whyB at hB
  split at hB
  rotate_left
  · cases hB
  rename_i z j1 q1 a' q2 q3 kq q4 q5 y1 q6 y2 q7 y3 q8 kr q9 e' e2 q10 t q11 fx' q12 e3 q13 q14 kt q15 q16 q17 q18
  simp only [Bool.and_eq_true, beq_iff_eq] at hB
  obtain ⟨⟨⟨⟨⟨⟨⟨⟨⟨rfl, rfl⟩, rfl⟩, rfl⟩, rfl⟩, rfl⟩, rfl⟩, rfl⟩, rfl⟩, rfl⟩ := hB
  obtain ⟨n1, n2, n3, ngl⟩ := hn (cxOf C8.CX0 X.prog X.w X.K X.mg X.base Ng x sg g cdg X.A X.stack s H C8.E0).nox rfl rfl
  have two : 2 ≤ sizeLine := by rw [sizeLine_eq]; decide
  refine ⟨_, pss_one (ps_try_as3 (X := (cxOf C8.CX0 X.prog X.w X.K X.mg X.base Ng x sg g cdg X.A X.stack s H C8.E0).nox) (i := 1)
      (tb := fun W D σ H => ∃ Ech : XK, (∀ cls d σ' H', Ech cls d H' → W cls d σ' H') ∧ σ[0]? = some (some (.ref f)) ∧ H c' = some (LamX.CodeO c' q) ∧ tl Ech H fun v H' => 2 ≤ sizeLine ∧ ∀ b, H' b = none → D.rt (.ref b) (upd H' b (.tup [.str "", v])))
      (ts := fun a cls d D σ H => σ[1]? = some (some (.ref a)) ∧ ∃ C dd fs tag v, cls = .ref C ∧ d = some dd ∧ H dd = some (.xd fs) ∧ Xfs X.K C (fdNames ps l) ∧ fs.lookup ("tag" : Str) = some (.str tag) ∧ fdRun ps l tag fs = some v ∧
        ∀ H'' b, ExA H H'' → H'' b = none → D.rt (.ref b) (upd H'' b (.tup [.str tag, v])))
      rfl rfl hN hN1 he n1 n2 n3 (fun W pn xe tk _ => ?_) (fun a oe cls d pn hz hf => ?_)), ?_⟩
  · refine ⟨fun pins s' σ H' D I h' => ?_⟩
    obtain ⟨Ech, hW, h1, h2, h3⟩ := h'
    have hp := act W pn xe Ech q2 q3 tk hW
    exact (pss_one (ps_ret (pos := q5) (pe_tup (pos := q4) (x1 := kq) (pa_cons (pe_str (x := "") (j := j1) (pos := q1)) (pa_cons hp pa_nil))))).run pins s' σ H' D I ⟨h1, h2, h3⟩
  · refine ⟨fun pins s' σ H' D I h' => ?_⟩
    obtain ⟨e1, C, dd, fs, tag, v, rfl, rfl, e2, T, e3, e4, qq⟩ := h'
    have rr : RoomH 2 ((cxOf C8.CX0 X.prog X.w X.K X.mg X.base Ng x sg g cdg X.A X.stack s H C8.E0).nox.suite a ((a, oe) :: pn)).A := by
      have r1 := hr.deeper (envOfC x sg s.heap.objs.size g cdg)
      exact ⟨r1.dp, r1.un⟩
    have p1 := pe_xf2 (X := (cxOf C8.CX0 X.prog X.w X.K X.mg X.base Ng x sg g cdg X.A X.stack s H C8.E0).nox.suite a ((a, oe) :: pn)) (pos := q11) T.xf (T.no "tag" (tag_in ps l)) hz hf (List.mem_cons_self ..) (pe_var (pos := q10) (i := 1) hN1 (.inl he) hde hce) rfl
    have p2 := pe_fdcall (X := (cxOf C8.CX0 X.prog X.w X.K X.mg X.base Ng x sg g cdg X.A X.stack s H C8.E0).nox.suite a ((a, oe) :: pn)) (p1 := q12) (p2 := q13) (pos := q14) F T rr hz hf (List.mem_cons_self ..) ngl hfx hN1 (.inl he) hde hce
    exact (pss_one (ps_ret (pos := q16) (pe_tup (pos := q15) (x1 := kt) (pa_cons p1 (pa_cons p2 pa_nil))))).run pins s' σ H' D I
      ⟨.ref a, e1, rfl, fs, .str tag, e2, e3, e1, fs, tag, v, e2, e3, e4, fun H'' hx => ⟨two, fun b hb => qq H'' b hx hb⟩⟩
  · refine ⟨_, fun cls d σ' H' hx => ⟨hx.1, fun a ha hlen => ?_⟩, h0 f, hc, h⟩
    refine ⟨?_, hx.2⟩
    rw [List.getElem?_set_self (by rw [hlen]; exact hl1)]
end
end Mp
end
section
set_option Elab.async false
set_option linter.all false
set_option maxRecDepth 100000
set_option maxHeartbeats 4000000
/-! MpWhyS: asking, in the layer. -/
namespace Mp
open PySem PySem.Spec PyProof.Rows L2 L2H

section
variable {S : Sta} {ow : Addr → Prop} {io : List Addr} {H : Hp}
theorem lookup_rv {f : Str} : ∀ {ns : List Str} {ds : List Mp.D} {fs : List (Str × V)} {d : Mp.D}, fs.map (·.1) = ns → RVs S ow io H ds (fs.map (·.2)) → (ns.zip ds).lookup f = some d → ∃ v, fs.lookup f = some v ∧ RV S ow io H d v
  | ns, ds, [], d, h1, h2, h => by
    subst h1
    cases h
  | ns, ds, (g, v) :: fs, d, h1, h2, h => by
    subst h1
    rw [List.map_cons] at h h2
    cases ds with
    | nil => cases h
    | cons d0 ds =>
      unfold RVs at h2
      obtain ⟨v', r', e, q1, q2⟩ := h2
      cases e
      rw [List.zip_cons_cons] at h
      by_cases hg : f = g
      · subst hg
        rw [lookup_hd] at h ⊢
        cases h
        exact ⟨v, rfl, q1⟩
      · rw [lookup_tl _ _ hg] at h ⊢
        exact lookup_rv rfl q2 h
theorem fdRun_rv {ns : List Str} {ds : List Mp.D} {fs : List (Str × V)} {tag : Str} (h1 : fs.map (·.1) = ns) (h2 : RVs S ow io H ds (fs.map (·.2))) : ∀ {ps : List (List Str × Str)} {l : Str × Str} {d : Mp.D}, fdRunG .non ps l tag (ns.zip ds) = some d → ∃ v, fdRun ps l tag fs = some v ∧ RV S ow io H d v
  | [], (w, f), d, h => by
    unfold fdRun
    unfold fdRunG at h ⊢
    by_cases q : tag = w
    · rw [if_pos q] at h ⊢
      exact lookup_rv h1 h2 h
    · rw [if_neg q] at h ⊢
      cases h
      exact ⟨_, rfl, .mk_non⟩
  | (ws, f) :: r, l, d, h => by
    unfold fdRun
    unfold fdRunG at h ⊢
    by_cases q : tag ∈ ws
    · rw [if_pos q] at h ⊢
      exact lookup_rv h1 h2 h
    · rw [if_neg q] at h ⊢
      exact fdRun_rv h1 h2 h
end
/-- what an exception is told as -/
structure WhyOk (S : Sta) (cs : List Value) (ps : List (List Str × Str)) (l : Str × Str) (wd : Exn → Option Mp.D) : Prop where
  ok : ∀ x d, wd x = some d → PySem.W.exmAny S.K (.ref (S.ca x.c)) cs = some true ∧ Xfs S.K (S.ca x.c) (fdNames ps l) ∧ ∃ tag dv, ((x.ns.map S.nm).zip x.ds).lookup ("tag" : Str) = some (.str tag) ∧ fdRunG .non ps l tag ((x.ns.map S.nm).zip x.ds) = some dv ∧ d = .tup [.str tag, dv]
def whyF (wd : Exn → Option Mp.D) (fb : Fe) : Fe := fun fr m => whyR wd (fb fr m)
theorem exN {io : List Addr} {H H1 : Hp} (e : LamX.ExtN H H1) (d : ∀ a, NT H1 a → NT H a) : Ex io H io H1 := ⟨List.prefix_refl _, fun _ h n => absurd h n, fun a o h s _ => e a o h fun ps z => by rw [z] at s; exact s, d⟩
theorem extN_nt {H H1 : Hp} (e : LamX.ExtN H H1) (a : Addr) (n : NT H1 a) : NT H a := fun u h s => n u (e a u h fun ps z => by rw [z] at s; exact s) s
theorem RH.extN {S : Sta} {ow : Addr → Prop} {io : List Addr} {H H1 : Hp} {m : MH} (h : RH S ow io H m) (e : LamX.ExtN H H1) (t : LamX.Tabs S.tb H1) : RH S ow io H1 m where
  tab := t
  len := h.len
  nd := h.nd
  at_ := fun n u q => by
    obtain ⟨a, e1, e2, e3⟩ := h.at_ n u q
    have x : Ex io H io H1 := exN e (extN_nt e)
    refine ⟨a, e1, ?_, e3⟩
    have kp : ∀ o, H a = some o → sol o → H1 a = some o := fun o h s => e a o h fun ps z => by rw [z] at s; exact s
    cases u with
    | lst xs => obtain ⟨vs, e, q⟩ := e2; exact ⟨vs, kp _ e True.intro, q.ex x⟩
    | dct ks xs => obtain ⟨kvs, e, q1, q⟩ := e2; exact ⟨kvs, kp _ e True.intro, q1, q.ex x⟩
    | ins C ns ds => obtain ⟨dx, fs, e, q1, q⟩ := e2; exact ⟨dx, fs, kp _ e True.intro, q1, q.ex x⟩
theorem extA_ex {io : List Addr} {H H1 : Hp} (e : ExA H H1) : Ex io H io H1 := ⟨List.prefix_refl _, fun _ h n => absurd h n, fun a o h _ _ => e a o h, fun a n u h s => n u (e a u h) s⟩
theorem RH.extA {S : Sta} {ow : Addr → Prop} {io : List Addr} {H H1 : Hp} {m : MH} (h : RH S ow io H m) (e : ExA H H1) : RH S ow io H1 m := h.extN (fun b o q _ => e b o q) (h.tab.ext e)
/-- the reading: asked and told -/
theorem why_tell {S : Sta} {W : WX} {cs : List Value} {ps : List (List Str × Str)} {l : Str × Str} {wd : Exn → Option Mp.D} {fb : Fe} {X : Cx} (ov : Ov S X) (wo : WhyOk S cs ps l wd) {σ : L2.St} {H : Hp} {Q : VK} (h : tR S W (whyF wd fb) σ H Q) :
    LamX.tLam S.tb (TTwhy X.K cs ps l) (fun E => tR S (fun c d _ H' => E c d H') fb) σ H Q := by
  obtain ⟨ow, io, fr, m, rp, p⟩ := h
  refine ⟨rp.h.tab, fun H1 eN T1 => ?_⟩
  have x1 : Ex io H io H1 := exN eN (extN_nt eN)
  have rh1 : RH S ow io H1 m := rp.h.extN eN T1
  refine ⟨ow, io, fr, m, rp.ex x1 rh1, ?_⟩
  have p := p.move x1
  have two : 2 ≤ sizeLine := by rw [sizeLine_eq]; decide
  unfold whyF whyR at p
  cases q : fb fr m with
  | bad => rw [q] at p; exact p
  | ok d m1 =>
    rw [q] at p
    intro io2 H2 v x2 r2 v2
    refine ⟨two, fun b hb => ?_⟩
    have n2 : b ∉ io2 ∧ ¬ ow b := ⟨fun z => (r2.mem z).1 (.of hb), fun z => rp.o b z (x1.dom b (x2.dom b (.of hb)))⟩
    exact p io2 _ _ (x2.trans (.fresh hb)) (r2.fresh hb) (.mk_tup hb n2 (.cons .mk_str (.cons v2 .nil)))
  | exc x m1 =>
    rw [q] at p
    dsimp only at p
    cases qd : wd x with
    | none => rw [qd] at p; exact p.elim
    | some d =>
      rw [qd] at p
      obtain ⟨w1, w2, tag, dv, w3, w4, rfl⟩ := wo.ok x d qd
      intro io2 H2 dx fs x2 r2 e2 n2 nw rf
      obtain ⟨f1, f2⟩ := rf
      obtain ⟨vt, l1, rt⟩ := lookup_rv f1 f2 w3
      obtain ⟨vv, l2, rv⟩ := fdRun_rv f1 f2 w4
      cases rt.of_str
      rw [ov.K]
      refine ⟨w1, S.ca x.c, dx, fs, tag, vv, rfl, rfl, e2, w2, l1, l2, fun H'' b hA hb => ?_⟩
      have x3 : Ex io2 H2 io2 H'' := extA_ex hA
      have n3 : b ∉ io2 ∧ ¬ ow b := ⟨fun z => ((r2.extA hA).mem z).1 (.of hb), fun z => rp.o b z (x1.dom b (x2.dom b (x3.dom b (.of hb))))⟩
      exact p io2 _ _ ((x2.trans x3).trans (.fresh hb)) ((r2.extA hA).fresh hb) (.mk_tup hb n3 (.cons .mk_str (.cons (rv.ex x3) .nil)))
/-- the asking def x, in the text's top -/
structure WhyDef (S : Sta) (x : Str) (wd : Exn → Option Mp.D) : Prop where
  ex : ∃ (g : Addr) (a e x1 x2 x3 fx : Str) (pg : Arguments) (bg : List Stmt) (sg : Scope) (dV kV doc pm cdv ct oc c1 c2 c3 : Value) (an od : Option Addr) (osl : Array (Option Value)) (Ng : List Str) (ps : List (List Str × Str)) (l : Str × Str),
    S.mg x = some (.ref g) ∧ PySem.W.keepIn S.K (.ref g) = true ∧ S.K.lookup g = some ⟨oc, od, .func (PySem.W.fnOf x x pg bg sg dV kV doc pm an cdv ct), osl⟩ ∧ PySem.W.codeIn S.K cdv x = true ∧ L2.Binds S.K (PySem.W.fnOf x x pg bg sg dV kV doc pm an cdv ct) [a] [] ∧ FnScope Ng [a] sg ∧
    Ng = [a, e] ∧ (a == e) = false ∧ Vis sg a ∧ (a == ("__debug__" : Str)) = false ∧ (a == ("__classdict__" : Str)) = false ∧ whyB a e x1 x2 x3 fx bg = true ∧
    (sg.names.lookup x1 = some .globalImplicit ∧ (x1 == ("__debug__" : Str)) = false ∧ S.mg x1 = some c1) ∧ (sg.names.lookup x2 = some .globalImplicit ∧ (x2 == ("__debug__" : Str)) = false ∧ S.mg x2 = some c2) ∧ (sg.names.lookup x3 = some .globalImplicit ∧ (x3 == ("__debug__" : Str)) = false ∧ S.mg x3 = some c3) ∧
    sg.names.lookup fx = some .globalImplicit ∧ (fx == ("__debug__" : Str)) = false ∧ FdOk S.K S.mg fx ps l ∧ sg.names.lookup e = some .local ∧ (e == ("__debug__" : Str)) = false ∧ (e == ("__classdict__" : Str)) = false ∧ WhyOk S [c1, c2, c3] ps l wd
section
variable {X : Cx} {S : Sta} {W : WX}
theorem se_why {wd : Exn → Option Mp.D} {x : Str} {k : Nat} {c P : Addr} {params : Arguments} {body : Expr} {scope : Scope} {fb : Fe} {p lpos pos : Pos} (ov : Ov S X) (wo : WhyDef S x wd) (hr : Room (k + 2) X.A) (hk : 1 ≤ k) (hg : Gl X x) (hdb : (x == ("__debug__" : Str)) = false)
    (TB : LamX.TabB X.base X.mg c P) (hcode : X.env.code = .ref c) (hmT : (P, X.env.qual ++ "<lambda>") ∈ S.tb) (hu : ∀ q ∈ S.tb, q.1 = P → q.2 = X.env.qual ++ "<lambda>") (L : LamX.LamS X.env.scope scope) (hdef : defaultsOf params X.env = ([], []))
    (hbind : ∀ (q : Str) (cl : List (Str × Addr)) (pm cv ctv : Value), bindArgs (PySem.W.kla_fn "<lambda>" q params body scope cl pm cv ctv) ⟨[], []⟩ = pure [])
    (hbody : ∀ (A : Around) (outer : List Env) (s : Shared) (H : Hp) (E : XK) (f c' : Addr), Room k (A.deeper (LamX.lamEnv X scope s.heap.objs.size f c')) → SE (LamX.lamCx X A outer s H E scope f c') S (fun c d _ H' => E c d H') body fb) :
    SE X S W (.Call (.Name x p) [.Lambda params body scope lpos] [] pos) (whyF wd fb) := by
  obtain ⟨g, a, e, x1, x2, x3, fx, pg, bg, sg, dV, kV, doc, pm, cdv, ct, oc, c1, c2, c3, an, od, osl, Ng, ps, l, h1, h2, h3, h4, h5, h6, hNg, hae, hva, hda, hca, hB, hx1, hx2, hx3, hfx, hfd, hF, he, hde, hce, hW⟩ := wo.ex
  subst hNg
  rw [← ov.mg] at h1 hx1 hx2 hx3
  rw [← ov.K] at h2 h3 h4 h5
  have r3 : RoomH 3 X.A := (roomH_of hr).mono (by omega)
  have gv : LamX.GivesTo X [a, e] x sg g cdv bg a (X.env.qual ++ "<lambda>") (TTwhy X.K [c1, c2, c3] ps l) := by
    refine why_gives hB (fun Y hY hs => ?_) hfd (by rw [ov.K, ov.mg]; exact hF) r3 ?_ rfl rfl he hde hce (fun _ => rfl) (by simp)
    · have gl : ∀ {y : Str}, sg.names.lookup y = some .globalImplicit → Gl Y y := fun {y} q => by
        show Y.env.scope.names.lookup y = _
        rw [hs]
        exact q
      exact ⟨⟨gl hx1.1, hx1.2.1, .inl (by rw [hY]; exact hx1.2.2)⟩, ⟨gl hx2.1, hx2.2.1, .inl (by rw [hY]; exact hx2.2.2)⟩, ⟨gl hx3.1, hx3.2.1, .inl (by rw [hY]; exact hx3.2.2)⟩, gl hfx⟩
    · have hne : a ≠ e := fun z => by
        rw [z] at hae
        simp at hae
      simp [hne]
  refine PE.imp (LamX.pe_lamcall (t := fun E => tR S (fun c d _ H' => E c d H') fb) (k := k) hg h1 h2 h3 h4 h5 h6 rfl hva gv TB hcode hmT hu hr L hdef hbind hbody hdb hda hca) fun σ H Q h => why_tell ov hW h
end
end Mp
end
section
set_option Elab.async false
set_option linter.all false
set_option maxRecDepth 100000
set_option maxHeartbeats 2000000
/-! MpMore: slices, isinstance, constants of the top. -/
namespace Mp
open PySem PySem.Spec PyProof.Rows L2

section
variable {X : Cx} {S : Sta} {W : WX} {a b : Expr} {fa fl fh : Fe} {pos p2 : Pos}
/-! ### slices -/
theorem cut_rv {ow : Addr → Prop} {io : List Addr} {H : Hp} {xs : List Mp.D} {vs : List V} (h : RVs S ow io H xs vs) (lo hi : Option Int) : RVs S ow io H (cutD xs lo hi) (cutV vs lo hi) := by
  unfold cutD cutV
  rw [h.length]
  exact (h.drop _).take _
/-- a part of a slice: nothing, or an int -/
def tO (S : Sta) (W : WX) (f : Fe) : TO := fun σ H Q => ∃ ow io fr m, Rp S ow io H fr m σ ∧ (match f fr m with
  | .ok d m' => ∀ io' H', Ex io H io' H' → RH S ow io' H' m' → match optI d with | some o => Q o H' | none => False
  | .exc x m' => ∀ io' H' dx fs, Ex io H io' H' → RH S ow io' H' m' → H' dx = some (.xd fs) → dx ∉ io' → ¬ ow dx → RFs S ow io' H' x.ns x.ds fs → W (.ref (S.ca x.c)) (some dx) σ H'
  | .bad => False)
theorem so_none : PO X none (tO S W fun _ m => .ok .non m) := by
  refine ⟨fun pins s σ H Q I ⟨ow, io, fr, m, rp, p⟩ => po_none.run pins s σ H Q I ?_⟩
  exact p io H (.refl _ _) rp.h
def prtF (f : Fe) : Fe := fun fr m => (f fr m).bind fun x m1 => match x with | .int i => .ok (.int i) m1 | _ => .bad
theorem so_some (h : SE X S W a fa) : PO X (some a) (tO S W (prtF fa)) := by
  refine ⟨fun pins s σ H Q I ⟨ow, io, fr, m, rp, p⟩ => (po_some h).run pins s σ H Q I ?_⟩
  refine ⟨ow, io, fr, m, rp, ?_⟩
  unfold prtF at p
  cases q : fa fr m with
  | bad => rw [q] at p; exact p
  | exc x m1 => rw [q] at p; exact p
  | ok d m1 =>
    rw [q] at p
    intro io1 H1 v x1 r1 v1
    dsimp only [R.ok_bind] at p
    cases d with
    | int i =>
      cases v1.of_int
      exact ⟨i, rfl, p io1 H1 x1 r1⟩
    | _ => exact p.elim
def slF (fa fl fh : Fe) : Fe := fun fr m => (fa fr m).bind fun x m1 => (fl fr m1).bind fun l m2 => match optI l with
  | some l => (fh fr m2).bind fun h m3 => match optI h with
    | some h => optR (slD x l h) m3
    | none => .bad
  | none => .bad
theorem PostO.seq {ow : Addr → Prop} {io : List Addr} {H : Hp} {σ : L2.St} {Q : VK} {fr : Fr} {m : MH} {f : Fe} {k : Option Int → MH → R Mp.D} {Q1 : Option Int → Hp → Prop} (rp : Rp S ow io H fr m σ) (p : Post S W ow io H σ Q ((f fr m).bind fun l m2 => match optI l with | some l => k l m2 | none => .bad))
    (st : ∀ o m1 io1 H1, Ex io H io1 H1 → RH S ow io1 H1 m1 → Post S W ow io1 H1 σ Q (k o m1) → Q1 o H1) : tO S W f σ H Q1 := by
  refine ⟨ow, io, fr, m, rp, ?_⟩
  cases q : f fr m with
  | bad => rw [q] at p; exact p
  | exc y m2 => rw [q] at p; exact p
  | ok l m2 =>
    rw [q] at p
    intro io2 H2 x2 r2
    have p : Post S W ow io H σ Q (match optI l with | some l => k l m2 | none => .bad) := p
    cases ql : optI l with
    | none => rw [ql] at p; exact p.elim
    | some l' => rw [ql] at p; exact st l' m2 io2 H2 x2 r2 (p.move x2)
theorem se_sl {lo hi : Option Expr} (ov : Ov S X) (ha : SE X S W a fa) (hl : PO X lo (tO S W fl)) (hh : PO X hi (tO S W fh)) : SE X S W (.Subscript a (.Slice lo hi none p2) pos) (slF fa fl fh) := by
  refine PE.imp (pe_slice (SlR.or sl_list (SlR.or sl_tupA sl_str)) ha hl hh) fun σ H Q ⟨ow, io, fr, m, rp, p⟩ => ?_
  unfold slF at p
  refine ⟨ow, io, fr, m, rp, p.seq fun x m1 io1 H1 v x1 r1 v1 p1 => ?_⟩
  have rp1 := rp.ex x1 r1
  refine PostO.seq (k := fun l m2 => (fh fr m2).bind fun h m3 => match optI h with | some h => optR (slD x l h) m3 | none => .bad) rp1 p1 fun l m2 io2 H2 x2 r2 p2 => ?_
  have rp2 := rp1.ex x2 r2
  refine PostO.seq (k := fun h m3 => optR (slD x l h) m3) rp2 p2 fun h m3 io3 H3 x3 r3 p3 => ?_
  have rp3 := rp2.ex x3 r3
  have v3 := (v1.ex x2).ex x3
  rw [ov.K]
  unfold slD at p3
  split at p3
  · obtain ⟨p, vs, rfl, h1, h2⟩ := v3.of_lst
    exact .inl ⟨p, vs, rfl, .inl (.inl h1), fun b hb => p3.laid r3 hb (.mk_lst hb (notOwned rp3 hb) (cut_rv h2 _ _))⟩
  · obtain ⟨p, vs, rfl, h1, h2⟩ := v3.of_fz
    exact .inl ⟨p, vs, rfl, h1, fun b hb => p3.laid r3 hb (.mk_lst hb (notOwned rp3 hb) (cut_rv h2 _ _))⟩
  · rename_i xs
    have v4 := v3
    unfold RV at v3
    obtain ⟨p, vs, rfl, h1, h2⟩ := v3
    refine .inr (.inl ⟨p, vs, rfl, h1.imp (fun z => z.1) id, fun hw => ?_, fun hw b hb => p3.laid r3 hb (.mk_tup hb (notOwned rp3 hb) (cut_rv h2 _ _))⟩)
    have e : cutD xs l h = xs := by
      unfold cutD
      rw [h2.length, hw.1, hw.2]
      rw [← h2.length]
      simp
    rw [e] at p3
    exact p3.here r3 v4
  · split at p3
    · rename_i hz
      cases v3.of_str
      exact .inr (.inr ⟨_, rfl, hz, p3.here r3 .mk_str⟩)
    · exact p3.elim
  · exact p3.elim
/-! ### isinstance -/
def tyName : Ty → String
  | .int => "int" | .bool => "bool" | .str => "str" | .list => "list" | .tuple => "tuple" | .dict => "dict" | .cls _ => "object"
def tyPl : Ty → Bool
  | .cls _ => false
  | _ => true
theorem isTy_ok {ow : Addr → Prop} {io : List Addr} {H : Hp} {x : Mp.D} {v : V} {m : MH} {t0 : Ty} {r0 : Bool} (rh : RH S ow io H m) (h : RV S ow io H x v) (e0 : isTy x m t0 = some r0) : ∃ tn : String, TyX S.K H v (.type tn) ∧ ∀ t r, isTy x m t = some r → kitB tn (tyName t) = some r := by
  cases x with
  | non =>
    cases h.of_non
    refine ⟨_, .base .non, fun t r e => ?_⟩
    cases t <;> first | (cases e; done) | (cases e; rfl) | (cases e; decide +kernel)
  | bl b =>
    cases h.of_bl
    refine ⟨_, .base (.bl b), fun t r e => ?_⟩
    cases t <;> first | (cases e; done) | (cases e; rfl) | (cases e; decide +kernel)
  | int b =>
    cases h.of_int
    refine ⟨_, .base (.int b), fun t r e => ?_⟩
    cases t <;> first | (cases e; done) | (cases e; rfl) | (cases e; decide +kernel)
  | str b =>
    cases h.of_str
    refine ⟨_, .base (.str b), fun t r e => ?_⟩
    cases t <;> first | (cases e; done) | (cases e; rfl) | (cases e; decide +kernel)
  | tup xs =>
    unfold RV at h
    obtain ⟨p, vs, rfl, h1, h2⟩ := h
    refine ⟨"tuple", ?_, fun t r e => ?_⟩
    · rcases h1 with ⟨h1 | ⟨o, h1⟩, _, _⟩ | ⟨o, its, n, k1, k2, _⟩
      · exact .base (.tup h1)
      · exact .fTuple h1
      · exact .kTuple k1 k2
    · cases t <;> first | (cases e; done) | (cases e; rfl) | (cases e; decide +kernel)
  | lst xs =>
    unfold RV at h
    obtain ⟨p, vs, rfl, h1, h2⟩ := h
    refine ⟨"list", .base (.lst h1.1), fun t r e => ?_⟩
    cases t <;> first | (cases e; done) | (cases e; rfl) | (cases e; decide +kernel)
  | fz xs =>
    unfold RV at h
    obtain ⟨p, vs, rfl, h1, h2⟩ := h
    refine ⟨"list", ?_, fun t r e => ?_⟩
    · rcases h1 with ⟨h1 | ⟨o, h1⟩, _, _⟩ | ⟨o, its, n, k1, k2, _⟩
      · exact .base (.lst h1)
      · exact .base (.frz h1)
      · exact .kList k1 k2
    · cases t <;> first | (cases e; done) | (cases e; rfl) | (cases e; decide +kernel)
  | dct ks xs =>
    unfold RV at h
    obtain ⟨p, kvs, rfl, h1, h2⟩ := h
    refine ⟨"dict", .base (.dK h1.1), fun t r e => ?_⟩
    cases t <;> first | (cases e; done) | (cases e; rfl) | (cases e; decide +kernel)
  | ins C ns ds => cases t0 <;> cases e0
  | ref n =>
    cases q : m[n]? with
    | none => cases t0 <;> simp [isTy, q] at e0
    | some o =>
      obtain ⟨a, rfl, ea, ro⟩ := h.of_ref rh q
      cases o with
      | lst xs =>
        obtain ⟨vs, h1, h2⟩ := ro
        refine ⟨"list", .base (.lst h1), fun t r e => ?_⟩
        cases t <;> simp [isTy, q] at e <;> subst e <;> first | rfl | decide +kernel
      | dct ks xs =>
        obtain ⟨kvs, h1, h2⟩ := ro
        refine ⟨"dict", .base (.dK h1), fun t r e => ?_⟩
        cases t <;> simp [isTy, q] at e <;> subst e <;> first | rfl | decide +kernel
      | ins C ns ds => cases t0 <;> simp [isTy, q] at e0
theorem isTys_ok {ow : Addr → Prop} {io : List Addr} {H : Hp} {x : Mp.D} {v : V} {m : MH} (rh : RH S ow io H m) (h : RV S ow io H x v) : ∀ {ts : List Ty} {r : Bool}, ts ≠ [] → isTys x m ts = some r → ∃ tn : String, TyX S.K H v (.type tn) ∧ PySem.W.kitAny S.K (.type tn) (ts.map fun t => Value.type (tyName t)) = some r
  | [], _, n, _ => absurd rfl n
  | t :: ts, r, _, e => by
    have e' := e
    unfold isTys at e'
    cases q : isTy x m t with
    | none => rw [q] at e'; cases e'
    | some b =>
      obtain ⟨tn, h1, h2⟩ := isTy_ok rh h q
      refine ⟨tn, h1, ?_⟩
      have go : ∀ {us : List Ty} {r : Bool}, isTys x m us = some r → PySem.W.kitAny S.K (.type tn) (us.map fun t => Value.type (tyName t)) = some r := by
        intro us
        induction us with
        | nil =>
          intro r e
          unfold isTys at e
          cases e
          rfl
        | cons u us ih =>
          intro r e
          unfold isTys at e
          cases q2 : isTy x m u with
          | none => rw [q2] at e; cases e
          | some b2 =>
            rw [q2] at e
            rw [List.map_cons]
            refine kitAny_cons (kit_ty (h2 u b2 q2)) (fun hb => ?_) (fun hb => ?_)
            · subst hb
              exact ih e
            · subst hb
              cases e
              rfl
      exact go e
def isiF (fa : Fe) (ts : List Ty) : Fe := fun fr m => (fa fr m).bind fun x m1 => optR ((isTys x m1 ts).map .bl) m1
/-- the classes named -/
theorem pa_tys : ∀ {es : List Expr} {ts : List Ty}, Paired (fun e t => ∃ x p, e = Expr.Name x p ∧ Gl X x ∧ X.mg x = none ∧ bootBuiltins x = some (.type (tyName t)) ∧ x ≠ "__name__" ∧ (x == ("__debug__" : Str)) = false) es ts → PA X es (fun _ H Q => Q (ts.map fun t => V.ty (tyName t)) H)
  | _, _, .nil => pa_nil
  | _, _, .cons ⟨x, p, rfl, hg, hm, hv, hn, hd⟩ t => pa_cons (pe_bltn hg hm hv (v := V.ty _) rfl hn hd) (pa_tys t)
theorem clsV_tys : ∀ ts : List Ty, Paired ClsV (ts.map fun t => V.ty (tyName t)) (ts.map fun t => Value.type (tyName t))
  | [] => .nil
  | t :: ts => .cons (.ty _) (clsV_tys ts)
theorem boot_isi : bootBuiltins "isinstance" = some (.builtin "isinstance") := by decide +kernel
/-- isinstance(e, T) -/
theorem se_isi1 {p p3 : Pos} {t : Ty} {x : Str} (ov : Ov S X) (hg : Gl X "isinstance") (hm : X.mg "isinstance" = none) (ha : SE X S W a fa) (hn : nst a = true) (hx : Gl X x ∧ X.mg x = none ∧ bootBuiltins x = some (.type (tyName t)) ∧ x ≠ "__name__" ∧ (x == ("__debug__" : Str)) = false) :
    SE X S W (.Call (.Name "isinstance" p) [a, .Name x p3] [] pos) (isiF fa [t]) := by
  obtain ⟨hgx, hmx, hvx, hnx, hdx⟩ := hx
  refine PE.imp (pe_callB call_isi hg hm boot_isi (pa_cons ha (pa_cons (pe_bltn hgx hmx hvx (v := V.ty _) rfl hnx hdx) pa_nil) (starEach_ns hn)) (by decide) (by decide) (starEach_ns hn) rfl) fun σ H Q ⟨ow, io, fr, m, rp, p⟩ => ?_
  refine ⟨ow, io, fr, m, rp, ?_⟩
  unfold isiF at p
  refine p.seq fun x m1 io1 H1 v x1 r1 v1 p1 => ?_
  cases q : isTys x m1 [t] with
  | none => rw [q] at p1; exact p1.elim
  | some r =>
    rw [q] at p1
    obtain ⟨tn, h1, h2⟩ := isTys_ok r1 v1 (by simp) q
    rw [List.map_cons, List.map_nil] at h2
    refine ⟨v, _, _, _, r, rfl, .ty _, by rw [ov.K]; exact h1, ?_, p1.here r1 .mk_bl⟩
    rw [ov.K]
    unfold PySem.W.kitAny at h2
    cases q3 : PySem.W.kitOne S.K (.type tn) (.type (tyName t)) with
    | none => rw [q3] at h2; cases h2
    | some b => rw [q3] at h2; cases b <;> (cases h2; rfl)
/-- isinstance(e, (T, ..)) -/
theorem se_isi2 {p p3 : Pos} {kt : Nat} {es : List Expr} {ts : List Ty} (ov : Ov S X) (hg : Gl X "isinstance") (hm : X.mg "isinstance" = none) (ha : SE X S W a fa) (hn : nst a = true) (hne : ts ≠ []) (hl : ts.length ≤ 100)
    (hx : Paired (fun e t => ∃ x p, e = Expr.Name x p ∧ Gl X x ∧ X.mg x = none ∧ bootBuiltins x = some (.type (tyName t)) ∧ x ≠ "__name__" ∧ (x == ("__debug__" : Str)) = false) es ts) :
    SE X S W (.Call (.Name "isinstance" p) [a, .Tuple es kt p3] [] pos) (isiF fa ts) := by
  refine PE.imp (pe_callB call_isiT hg hm boot_isi (pa_cons ha (pa_cons (pe_tup (pa_tys hx)) pa_nil) (starEach_ns hn)) (by decide) (by decide) (starEach_ns hn) rfl) fun σ H Q ⟨ow, io, fr, m, rp, p⟩ => ?_
  refine ⟨ow, io, fr, m, rp, ?_⟩
  unfold isiF at p
  refine p.seq fun x m1 io1 H1 v x1 r1 v1 p1 => ?_
  have rp1 := rp.ex x1 r1
  refine ⟨by rw [List.length_map, sizeLine_eq]; omega, fun b hb => ?_⟩
  have xf : Ex io1 H1 io1 (upd H1 b (.tup (ts.map fun t => V.ty (tyName t)))) := .fresh hb
  have rf := r1.fresh (o := .tup (ts.map fun t => V.ty (tyName t))) hb
  cases q : isTys x m1 ts with
  | none => rw [q] at p1; exact p1.elim
  | some r =>
    rw [q] at p1
    obtain ⟨tn, h1, h2⟩ := isTys_ok rf (v1.ex xf) hne q
    refine ⟨v, b, _, _, _, r, rfl, upd_same, clsV_tys ts, by rw [ov.K]; exact h1, by rw [ov.K]; exact h2, p1 io1 _ _ xf rf .mk_bl⟩
/-! ### constants of the top -/
def CstOk (S : Sta) (x : Str) (d : Mp.D) : Prop := ∃ u v, S.mg x = some u ∧ RelV v u ∧ ∀ (ow : Addr → Prop) (io : List Addr) (H : Hp), RV S ow io H d v
theorem se_cst {x : Str} {d : Mp.D} (ov : Ov S X) (c : CstOk S x d) (hg : Gl X x) (hd : (x == ("__debug__" : Str)) = false) : SE X S W (.Name x pos) (fun _ m => .ok d m) := by
  obtain ⟨u, v, hm, r, h⟩ := c
  rw [← ov.mg] at hm
  exact PE.imp (pe_glob hg hm r hd) fun σ H Q ⟨ow, io, fr, m, rp, p⟩ => p.here rp.h (h ow io H)
end
end Mp
end
section
set_option Elab.async false
set_option linter.all false
set_option maxRecDepth 100000
set_option maxHeartbeats 2000000
/-! MpTxt: methods of texts, f-strings, xs[::-1]. -/
namespace Mp
open PySem PySem.Spec PyProof.Rows L2

def baseB : Expr → Bool
  | .Call (.Name _ _) [] [] _ => false
  | _ => true
theorem base_ok {o : Expr} {m : Str} {env : Env} {w : Sem Value} (h : baseB o = true) : attributeBase o m env w = w := by
  unfold attributeBase
  split
  · cases h
  · rfl
section
variable {X : Cx} {S : Sta} {W : WX} {a b : Expr} {fa fb : Fe} {apos pos : Pos}
def m1F (k : M1) (fa fb : Fe) : Fe := fun fr m => (fa fr m).bind fun x m1 => match x with
    | .str z => (fb fr m1).bind fun y m2 => optR (m1D k z y m2) m2
    | _ => .bad
theorem m1_gen {r : V → List V → Hp → VK → Prop} {k : M1} {e : Expr} (h : PE X e (tM1 r (tR S W fa) (tR S W fb)))
    (hg : ∀ ow io H fr m σ z y u Q, Rp S ow io H fr m σ → RV S ow io H y u → Post S W ow io H σ Q (optR (m1D k z y m) m) → r (.str z) [u] H Q) : SE X S W e (m1F k fa fb) := by
  refine PE.imp h fun σ H Q ⟨ow, io, fr, m, rp, p⟩ => ?_
  refine ⟨ow, io, fr, m, rp, p.seq fun x m1 io1 H1 v x1 h1 v1 p1 => ?_⟩
  cases x with
  | str z =>
    cases v1.of_str
    have r1 := rp.ex x1 h1
    refine ⟨⟨z, rfl⟩, ow, io1, fr, m1, r1, p1.seq fun y m2 io2 H2 u x2 h2 v2 p2 => ?_⟩
    exact hg ow io2 H2 fr m2 σ z y u Q (r1.ex x2 h2) v2 p2
  | _ => exact p1.elim
theorem strs_rv {ow : Addr → Prop} {io : List Addr} {H : Hp} : ∀ {ds : List Mp.D} {vs : List V} {ys : List Str}, RVs S ow io H ds vs → strsD ds = some ys → vs = ys.map V.str
  | [], vs, ys, h, e => by
    unfold RVs at h
    unfold strsD at e
    cases e
    exact h
  | d :: ds, vs, ys, h, e => by
    unfold RVs at h
    obtain ⟨v, r, rfl, h1, h2⟩ := h
    cases d with
    | str x =>
      unfold strsD at e
      obtain ⟨zs, e1, rfl⟩ := Option.map_eq_some_iff.mp e
      rw [h1.of_str, strs_rv h2 e1]
      rfl
    | _ => cases e
theorem mk_strs {ow : Addr → Prop} {io : List Addr} {H : Hp} : ∀ ys : List Str, RVs S ow io H (ys.map Mp.D.str) (ys.map V.str)
  | [] => .nil
  | y :: ys => .cons .mk_str (mk_strs ys)
def m1Nm : M1 → Str
  | .partition => "partition"
  | .index => "index"
  | .split => "split"
  | .join => "join"
theorem se_m1 {k : M1} {name : Str} (ov : Ov S X) (hk : m1Nm k = name) (ha : SE X S W a fa) (hb : SE X S W b fb) (hba : baseB a = true) (hn : nst b = true) (hl : (apos.endLine == pos.line) = true) :
    SE X S W (.Call (.Attribute a name apos) [b] [] pos) (m1F k fa fb) := by
  have hs : starEach [b] X.env = [(false, eval b X.env)] := starEach_ns hn
  have hbase : attributeBase a name X.env (eval a X.env) = eval a X.env := base_ok hba
  cases k with
  | partition =>
    subst hk
    refine m1_gen (pe_partition ha hb hs hbase hl) fun ow io H fr m σ z y u Q rp hy p => ?_
    cases y with
    | str w =>
      cases hy.of_str
      unfold m1D at p
      dsimp only at p
      split at p
      · rename_i hc
        exact ⟨z, w, rfl, rfl, hc.1, hc.2, fun q hq => p.laid rp.h hq (RV.mk_tup hq (notOwned rp hq) (.cons .mk_str (.cons .mk_str (.cons .mk_str .nil))))⟩
      · exact p.elim
    | _ => exact p.elim
  | index =>
    subst hk
    refine m1_gen (pe_m1 PySem.F.slot_str_index PySem.F.type_str_index mt_sindex ha hb hs hbase hl) fun ow io H fr m σ z y u Q rp hy p => ?_
    cases y with
    | str w =>
      cases hy.of_str
      unfold m1D at p
      dsimp only at p
      split at p
      · rename_i i rest hc
        exact ⟨z, w, i, rest, rfl, rfl, hc, p.here rp.h .mk_int⟩
      · exact p.elim
    | _ => exact p.elim
  | split =>
    subst hk
    refine m1_gen (pe_split ha hb hs hbase hl) fun ow io H fr m σ z y u Q rp hy p => ?_
    cases y with
    | str w =>
      cases hy.of_str
      unfold m1D at p
      dsimp only at p
      split at p
      · rename_i hc
        exact ⟨z, w, rfl, rfl, hc.1, hc.2, fun q hq => p.laid rp.h hq (RV.mk_lst hq (notOwned rp hq) (mk_strs _))⟩
      · exact p.elim
    | _ => exact p.elim
  | join =>
    subst hk
    refine m1_gen (pe_join ha hb hs hbase hl) fun ow io H fr m σ z y u Q rp hy p => ?_
    unfold m1D at p
    dsimp only at p
    cases e : seqD y m with
    | none => rw [e] at p; exact p.elim
    | some ds =>
      rw [e] at p
      dsimp only at p
      obtain ⟨q, vs, rfl, hs, q1⟩ := seqD_ok rp.h hy e
      unfold joinD at p
      cases e2 : strsD ds with
      | none => rw [e2] at p; exact p.elim
      | some ys =>
        rw [e2] at p
        dsimp only at p
        split at p
        · rename_i hc
          have hv := strs_rv q1 e2
          subst hv
          exact ⟨z, q, ys, rfl, rfl, by rw [ov.K]; exact hs, hc, p.here rp.h .mk_str⟩
        · exact p.elim
/-! ### f-strings -/
theorem se_fmt (ha : SE X S W a fa) : SE X S W (.FormattedValue a (-1) none pos) (fun fr m => (fa fr m).bind fun x m1 => optR (fmtD x) m1) := by
  refine PE.imp (pe_fmt ha) fun σ H Q ⟨ow, io, fr, m, rp, p⟩ => ?_
  refine ⟨ow, io, fr, m, rp, p.seq fun x m1 io1 H1 v x1 h1 v1 p1 => ?_⟩
  have r1 := rp.ex x1 h1
  cases x with
  | str y =>
    cases v1.of_str
    unfold fmtD at p1
    dsimp only at p1
    split at p1
    · rename_i hc
      exact .inl ⟨y, rfl, hc, p1.here r1.h .mk_str⟩
    · exact p1.elim
  | int i =>
    cases v1.of_int
    unfold fmtD at p1
    dsimp only at p1
    split at p1
    · rename_i hc
      exact .inr ⟨i, rfl, hc, p1.here r1.h .mk_str⟩
    · exact p1.elim
  | _ => exact p1.elim
def fsF : List Fe → Str → Fe
  | [], acc => fun _ m => .ok (.str acc) m
  | f :: fs, acc => fun fr m => (f fr m).bind fun x m1 => match x with
    | .str y => if (acc ++ y).length ≤ sizeLine then fsF fs (acc ++ y) fr m1 else .bad
    | _ => .bad
theorem fs_run {σ : L2.St} {Q : VK} {ow : Addr → Prop} {fr : Fr} : ∀ (fs : List Fe) (acc : Str) (io : List Addr) (H : Hp) (m : MH), Rp S ow io H fr m σ → Post S W ow io H σ Q (fsF fs acc fr m) → tJs (fs.map (tR S W)) acc σ H (fun out H1 => Q (.str out) H1)
  | [], acc, io, H, m, rp, p => p.here rp.h .mk_str
  | f :: fs, acc, io, H, m, rp, p => by
    unfold fsF at p
    refine ⟨ow, io, fr, m, rp, p.seq fun x m1 io1 H1 v x1 h1 v1 p1 => ?_⟩
    cases x with
    | str y =>
      cases v1.of_str
      dsimp only at p1
      split at p1
      · rename_i hc
        exact ⟨y, rfl, hc, fs_run fs (acc ++ y) io1 H1 m1 (rp.ex x1 h1) p1⟩
      · exact p1.elim
    | _ => exact p1.elim
theorem se_fs {v1 v2 : Expr} {rest : List Expr} {fs : List Fe} (h : PJ X (v1 :: v2 :: rest) (fs.map (tR S W))) : SE X S W (.JoinedStr (v1 :: v2 :: rest) pos) (fsF fs Str.empty) :=
  PE.imp (pe_joined h) fun σ H Q ⟨ow, io, fr, m, rp, p⟩ => fs_run fs Str.empty io H m rp p
/-! ### xs[::-1] -/
theorem RVs.reverse {ow : Addr → Prop} {io : List Addr} {H : Hp} : ∀ {ds : List Mp.D} {vs : List V}, RVs S ow io H ds vs → RVs S ow io H ds.reverse vs.reverse
  | [], _, h => by unfold RVs at h; subst h; exact .nil
  | d :: ds, _, h => by
    unfold RVs at h
    obtain ⟨v, r, rfl, h1, h2⟩ := h
    rw [List.reverse_cons, List.reverse_cons]
    exact (RVs.reverse h2).append (.cons h1 .nil)
theorem se_rev {k : Nat} {p1 p2 p3 : Pos} (ov : Ov S X) (ha : SE X S W a fa) : SE X S W (.Subscript a (.Slice none none (some (.UnaryOp .USub (.Constant (.int 1) k p1) p2)) p3) pos) (fun fr m => (fa fr m).bind fun x m1 => optR (revD x) m1) := by
  refine PE.imp (pe_revL ha) fun σ H Q ⟨ow, io, fr, m, rp, p⟩ => ?_
  refine ⟨ow, io, fr, m, rp, p.seq fun x m1 io1 H1 v x1 h1 v1 p1 => ?_⟩
  have r1 := rp.ex x1 h1
  cases x with
  | lst xs =>
    obtain ⟨q, vs, rfl, hH, q1⟩ := v1.of_lst
    exact ⟨q, vs, rfl, .inl (.inl hH), fun z hz => p1.laid r1.h hz (RV.mk_lst hz (notOwned r1 hz) q1.reverse)⟩
  | fz xs =>
    obtain ⟨q, vs, rfl, hH, q1⟩ := v1.of_fz
    exact ⟨q, vs, rfl, by rw [ov.K]; exact hH, fun z hz => p1.laid r1.h hz (RV.mk_lst hz (notOwned r1 hz) q1.reverse)⟩
  | _ => exact p1.elim
end
end Mp
end
section
set_option Elab.async false
set_option linter.all false
set_option maxRecDepth 100000
set_option maxHeartbeats 4000000
/-! MpComp: the text's expressions turned into the small language, and that this is right. -/
namespace Mp
open PySem PySem.Spec PyProof.Rows L2

/-! ### tables -/
structure Tb where
  fn : List (Str × Nat × Nat)
  fk : List (Str × Nat × List Str × Nat × Nat)
  xc : List (Str × Nat × Nat)
  cs : List (Str × Nat)
  wy : Str
  fr : List (Str × Nat) := []
structure Cc where
  N : List Str
  sc : Scope
  fnT : Bool
  lam : Bool
def ixOf : List Str → Str → Option Nat
  | [], _ => none
  | y :: r, x => if y = x then some 0 else (ixOf r x).map (· + 1)
theorem ixOf_get : ∀ {N : List Str} {x : Str} {i : Nat}, ixOf N x = some i → N[i]? = some x
  | [], _, _, h => by cases h
  | y :: r, x, i, h => by
    unfold ixOf at h
    split at h
    · rename_i e; cases h; rw [e]; rfl
    · obtain ⟨j, h1, rfl⟩ := Option.map_eq_some_iff.mp h
      have := ixOf_get h1
      simpa using this
theorem ixOf_none : ∀ {N : List Str} {x : Str}, ixOf N x = none → x ∉ N
  | [], _, _ => fun h => nomatch h
  | y :: r, x, h => by
    unfold ixOf at h
    split at h
    · cases h
    · rename_i e
      rw [Option.map_eq_none_iff] at h
      intro z
      rcases List.mem_cons.mp z with z | z
      · exact e z.symm
      · exact ixOf_none h z
def fnIx : List (Str × Nat × Nat) → Str → Nat → Option Nat
  | [], _, _ => none
  | (y, k, f) :: r, x, n => if y = x ∧ k = n then some f else fnIx r x n
def fkIx : List (Str × Nat × List Str × Nat × Nat) → Str → Nat → List Str → Option (Nat × Nat)
  | [], _, _, _ => none
  | (y, k, ks, f, b) :: r, x, n, l => if y = x ∧ k = n ∧ ks = l then some (f, b) else fkIx r x n l
def csIx : List (Str × Nat) → Str → Option Nat
  | [], _ => none
  | (y, g) :: r, x => if y = x then some g else csIx r x
def frIx : List (Str × Nat) → Str → Option Nat
  | [], _ => none
  | (y, g) :: r, x => if y = x then some g else frIx r x
def visB (sc : Scope) (x : Str) : Bool := match sc.names.lookup x with
  | some .local => true
  | some .cell => true
  | some .free => true
  | _ => false
theorem visB_ok {sc : Scope} {x : Str} (h : visB sc x = true) : Vis sc x := by
  unfold visB at h
  split at h
  · rename_i e; exact .inl e
  · rename_i e; exact .inr (.inl e)
  · rename_i e; exact .inr (.inr e)
  · cases h
def glB (sc : Scope) (x : Str) : Bool := (match sc.names.lookup x with | some .globalImplicit => true | _ => false) && !(x == ("__debug__" : Str))
theorem glB_ok {X : Cx} {sc : Scope} {x : Str} (e : X.env.scope = sc) (h : glB sc x = true) : Gl X x ∧ (x == ("__debug__" : Str)) = false := by
  unfold glB at h
  rw [Bool.and_eq_true] at h
  obtain ⟨h1, h2⟩ := h
  split at h1
  · rename_i q
    refine ⟨?_, by simpa using h2⟩
    show X.env.scope.names.lookup x = _
    rw [e]
    exact q
  · cases h1
def nmB (x : Str) : Bool := !(x == ("__debug__" : Str)) && !(x == ("__classdict__" : Str))
theorem nmB_ok {x : Str} (h : nmB x = true) : (x == ("__debug__" : Str)) = false ∧ (x == ("__classdict__" : Str)) = false := by
  unfold nmB at h
  rw [Bool.and_eq_true] at h
  exact ⟨by simpa using h.1, by simpa using h.2⟩
/-- the built-ins that are used must not be hidden by names of the top -/
def bnames : List Str := ["len", "int", "abs", "all", "any", "list", "tuple", "str", "sum", "max", "min", "range", "zip", "isinstance", "bool", "dict"]
structure TbOk (T : Tb) (G : Gt) (S : Sta) (k : Nat) : Prop where
  fn : ∀ x n f, fnIx T.fn x n = some f → CalOk S k x n (G.fn f)
  fk : ∀ x n l f b, fkIx T.fk x n l = some (f, b) → CalKOk S k x n l (G.bnd b) (G.fn f)
  cs : ∀ x g, csIx T.cs x = some g → CstOk S x (G.cst g)
  bl : ∀ x ∈ bnames, S.mg x = none
  wy : WhyDef S T.wy G.why
  fr : ∀ x f, frIx T.fr x = some f → CalROk S k x (G.fn f)
structure Good (T : Tb) (G : Gt) (k : Nat) (c : Cc) (X : Cx) (S : Sta) (W : WX) : Prop where
  ov : Ov S X
  calm : X.calm = true
  nd : X.N.Nodup
  N : X.N = c.N
  sc : X.env.scope = c.sc
  fn : c.fnT = true → ∀ x, X.fn x = true
  kind : c.sc.kind = .function
  room : Room k X.A
  room2 : c.lam = true → Room (k + 2) X.A
  tk : Takes X W
  tb : TbOk T G S k
  lam : c.lam = true → ∃ cA P, LamX.TabB X.base X.mg cA P ∧ X.env.code = .ref cA ∧ (P, X.env.qual ++ "<lambda>") ∈ S.tb ∧ ∀ q ∈ S.tb, q.1 = P → q.2 = X.env.qual ++ "<lambda>"
  lev : c.lam = true → 1 ≤ k
/-! ### the turning -/
def mapO (f : Expr → Option E) : List Expr → Option (List E)
  | [] => some []
  | e :: r => match f e, mapO f r with
    | some a, some b => some (a :: b)
    | _, _ => none
def boF : Operator → Option BO
  | .Add => some .add
  | .Sub => some .sub
  | .Mult => some .mul
  | .FloorDiv => some .fdiv
  | .Mod => some .mod
  | .Pow => some .pow
  | _ => none
theorem boF_ok {o : Operator} {b : BO} (h : boF o = some b) : boOp b = o := by
  cases o <;> first | (cases h; rfl) | cases h
def coF : CmpOp → Option CO
  | .Eq => some .eq
  | .NotEq => some .ne
  | .Lt => some .lt
  | .LtE => some .le
  | .Gt => some .gt
  | .GtE => some .ge
  | .In => some .mem
  | .NotIn => some .nmem
  | _ => none
theorem coF_ok {o : CmpOp} {b : CO} (h : coF o = some b) : coOp b = o := by
  cases o <;> first | (cases h; rfl) | cases h
def isNoneE : Expr → Bool
  | .Constant .none _ _ => true
  | _ => false
def cB (op : PySem.BoolOp) (f : Expr → Option E) : List Expr → Option E
  | [] => none
  | [a] => f a
  | a :: r => match f a, cB op f r with
    | some x, some y => some (match op with | .And => .andv x y | .Or => .orv x y)
    | _, _ => none
/-- as a test: no ternary -/
def tOk : Nat → Expr → Bool
  | 0, _ => false
  | _ + 1, .IfExp .. => false
  | n + 1, .UnaryOp .Not a _ => tOk n a
  | n + 1, .BoolOp _ es _ => es.all (tOk n)
  | _, _ => true
def plainB : Expr → Bool
  | .Slice .. => false
  | .Tuple .. => false
  | .Constant .. => true
  | .Name .. => true
  | .BinOp .. => true
  | .UnaryOp .. => true
  | .Call .. => true
  | .Subscript .. => true
  | _ => false
def tyOf (x : Str) : Option Ty := if x = "int" then some .int else if x = "bool" then some .bool else if x = "str" then some .str else if x = "list" then some .list else if x = "tuple" then some .tuple else if x = "dict" then some .dict else none
def tysOf (c : Cc) : List Expr → Option (List Ty)
  | [] => some []
  | .Name x _ :: r => match tyOf x, tysOf c r with
    | some t, some ts => if glB c.sc x = true then some (t :: ts) else none
    | _, _ => none
  | _ => none
def blOf (x : Str) (n : Nat) : Option Bl := if x = "len" then some .len else if x = "int" then some .int_ else if x = "abs" then some .abs else if x = "all" then some .all else if x = "any" then some .any else if x = "list" then some .list else if x = "tuple" then some .tuple else if x = "str" then some .str
  else if x = "sum" then some .sum else if x = "max" ∧ n = 2 then some .max2 else if x = "min" ∧ n = 2 then some .min2 else none
def kwn : List Keyword → Option (List Str)
  | [] => some []
  | ⟨some n, _, _⟩ :: r => (kwn r).map (n :: ·)
  | _ => none
def noArgs : Arguments → Bool
  | ⟨[], [], none, [], [], none, []⟩ => true
  | _ => false
/-- the own names of a comprehension's block -/
def ownOf (N : List Str) : List (Str × NameKind) → Option (List (Str × Nat))
  | [] => some []
  | (x, .local) :: r => match ixOf N x, ownOf N r with
    | some i, some l => some ((x, i) :: l)
    | none, some l => some l
    | _, _ => none
  | (x, .cell) :: r => match ixOf N x, ownOf N r with
    | some i, some l => some ((x, i) :: l)
    | none, some l => some l
    | _, _ => none
  | _ :: r => ownOf N r
def blkB (N : List Str) (sc scope : Scope) : Bool :=
  decide (scope.kind = .function) && scope.names.all (fun y => decide (scope.names.lookup y.1 = some y.2)) &&
    scope.names.all fun y => !decide (y.2 = .free) || decide (sc.names.lookup y.1 = some .cell) || decide (sc.names.lookup y.1 = some .free)
def blkC (c : Cc) (scope : Scope) : Cc := { N := c.N, sc := relS scope c.sc, fnT := false, lam := false }
def lamC (c : Cc) (scope : Scope) : Cc := { N := c.N, sc := scope, fnT := false, lam := false }
mutual
def cTg (c : Cc) : Nat → Expr → Option Tg
  | 0, _ => none
  | _ + 1, .Name x _ => match ixOf c.N x with
    | some i => if c.sc.names.lookup x = some .local ∨ (c.sc.names.lookup x = some .cell ∧ c.fnT = true) then some (.nm i) else none
    | none => none
  | n + 1, .Tuple es _ _ => (cTgs c n es).map .tup
  | _, _ => none
def cTgs (c : Cc) : Nat → List Expr → Option (List Tg)
  | 0, _ => none
  | _ + 1, [] => some []
  | n + 1, e :: r => match cTg c n e, cTgs c n r with
    | some t, some ts => if nst e = true then some (t :: ts) else none
    | _, _ => none
end
def cIt (c : Cc) (f : Expr → Option E) (tg : Expr) : Expr → Option E
  | .Call (.Name x p) [a] [] q => if x = "range" ∧ glB c.sc x = true ∧ nst a = true then (f a).map .rng1 else f (.Call (.Name x p) [a] [] q)
  | .Call (.Name x p) [a, b] [] q => if x = "range" ∧ glB c.sc x = true ∧ nst a = true ∧ nst b = true then (match f a, f b with | some u, some v => some (.rng2 u v) | _, _ => none)
    else if x = "zip" ∧ glB c.sc x = true ∧ nst a = true ∧ nst b = true then (match tg, f a, f b with | .Tuple .., some u, some v => some (.zip u v) | _, _, _ => none)
    else f (.Call (.Name x p) [a, b] [] q)
  | e => f e
def cPart (f : Expr → Option E) : Option Expr → Option E
  | none => some (.k .non)
  | some e => (f e).map .prt
def setE : Expr → Bool
  | .Set .. => true
  | _ => false
/-! further constructs: f turns the parts -/
def m1Of (x : Str) : Option M1 := if x = "partition" then some .partition else if x = "index" then some .index else if x = "split" then some .split else if x = "join" then some .join else none
def fmB : Expr → Bool
  | .FormattedValue .. => true
  | .Constant (.str _) _ _ => true
  | _ => false
def cX (f : Expr → Option E) : Expr → Option E
  | .Call (.Attribute o m apos) [a] [] pos => if (baseB o && (apos.endLine == pos.line) && nst a) = true then (match m1Of m, f o, f a with
    | some k, some o', some a' => some (.m1 k o' a')
    | _, _, _ => none) else none
  | .FormattedValue e c none _ => if c = -1 then (f e).map .fmt else none
  | .JoinedStr (a :: b :: r) _ => (mapO f (a :: b :: r)).map .fs
  | .JoinedStr [a] _ => f a
  | .Subscript a (.Slice none none (some (.UnaryOp .USub (.Constant (.int j) _ _) _)) _) _ => if j = 1 then (f a).map .rev else none
  | _ => none
def cE (T : Tb) : Nat → Cc → Expr → Option E
  | 0, _, _ => none
  | _ + 1, _, .Constant (.int i) _ _ => some (.k (.int i))
  | _ + 1, _, .Constant (.bool b) _ _ => some (.k (.bl b))
  | _ + 1, _, .Constant (.str s) _ _ => some (.k (.str s))
  | _ + 1, _, .Constant .none _ _ => some (.k .non)
  | _ + 1, c, .Name x _ => if (visB c.sc x && nmB x) = true then (ixOf c.N x).map .loc else if glB c.sc x = true then (csIx T.cs x).map .cst else none
  | n + 1, c, .BinOp a o b _ => match boF o, cE T n c a, cE T n c b with
    | some o, some a, some b => some (.bin o a b)
    | _, _, _ => none
  | n + 1, c, .UnaryOp .USub a _ => (cE T n c a).map .neg
  | n + 1, c, .UnaryOp .Not a _ => if tOk n a = true then (cE T n c a).map .notv else none
  | n + 1, c, .Compare a [.Is] [.Constant .none _ _] _ => (cE T n c a).map .isN
  | n + 1, c, .Compare a [.IsNot] [.Constant .none _ _] _ => (cE T n c a).map .notN
  | n + 1, c, .Compare a [o] [b] _ => match coF o, cE T n c a, cE T n c b with
    | some o', some a', some b' => if behindInMarks o b = false then some (.cmp o' a' b') else none
    | _, _, _ => none
  | n + 1, c, .Compare a [o, q] [b, d] _ => match coF o, coF q, cE T n c a, cE T n c b, cE T n c d with
    | some o', some q', some a', some b', some d' => if lastMarks [o, q] [b, d] = false then some (.chain o' q' a' b' d') else none
    | _, _, _, _, _ => none
  | n + 1, c, .BoolOp op es _ => if es.all (tOk n) = true then cB op (cE T n c) es else none
  | n + 1, c, .IfExp t a b _ => if tOk n t = true then (match cE T n c t, cE T n c a, cE T n c b with
    | some t, some a, some b => some (.ite t a b)
    | _, _, _ => none) else none
  | n + 1, c, .Tuple es _ _ => if es.all nst = true then (mapO (cE T n c) es).map .tup else none
  | n + 1, c, .List es _ => if es.all nst = true then (mapO (cE T n c) es).map .lst else none
  | n + 1, c, .Subscript a (.Slice lo hi none _) _ => match cE T n c a, cPart (cE T n c) lo, cPart (cE T n c) hi with
    | some a, some l, some h => some (.sl a l h)
    | _, _, _ => none
  | n + 1, c, .Subscript a (.Slice lo hi (some st) p1) p2 => cX (cE T n c) (.Subscript a (.Slice lo hi (some st) p1) p2)
  | n + 1, c, .Subscript a i _ => if plainB i = true then (match cE T n c a, cE T n c i with
    | some a, some i => some (.idx a i)
    | _, _ => none) else none
  | n + 1, c, .ListComp elt [⟨tg, it, ifs, 0⟩] scope _ => if (blkB c.N c.sc scope && !setE it) = true then (match ownOf c.N scope.names, cTg (blkC c scope) n tg, cIt c (cE T n c) tg it, cE T n (blkC c scope) elt with
    | some own, some t, some i, some el => if (slots t).all (fun j => (own.map (·.2)).contains j) = true then (match ifs with
      | [] => some (.comp (own.map (·.2)) t i [] el)
      | [g] => if tOk n g = true then (cE T n (blkC c scope) g).map fun g => .comp (own.map (·.2)) t i [g] el else none
      | _ => none) else none
    | _, _, _, _ => none) else none
  | n + 1, c, .Call (.Name x _) args [] _ => if (glB c.sc x && args.all nst) = true then (match args with
      | [] => (match fnIx T.fn x 0 with
        | some f => some (.call f [])
        | none => (frIx T.fr x).map fun f => .call f [])
      | a :: r =>
        if x = "isinstance" then (match r with
          | [.Name y _] => match tyOf y, cE T n c a with
            | some t, some m => if glB c.sc y = true then some (.isi m [t]) else none
            | _, _ => none
          | [.Tuple es _ _] => match tysOf c es, cE T n c a with
            | some ts, some m => if ts ≠ [] ∧ ts.length ≤ 100 then some (.isi m ts) else none
            | _, _ => none
          | _ => none)
        else match blOf x args.length with
        | some b => (mapO (cE T n c) args).map (.blt b)
        | none => match fnIx T.fn x args.length with
          | some f => (mapO (cE T n c) args).map (.call f)
          | none => match fkIx T.fk x args.length [] with
            | some (f, b) => (mapO (cE T n c) args).map fun es => .callK f b es []
            | none => match frIx T.fr x with
            | some f => (mapO (cE T n c) args).map (.call f)
            | none => if x = T.wy ∧ c.lam = true then (match a, r with
              | .Lambda params body scope _, [] => if (LamX.lamSB c.sc scope && noArgs params) = true then (cE T n (lamC c scope) body).map .why else none
              | _, _ => none) else none) else none
  | n + 1, c, .Call (.Name x _) args kws _ => if (glB c.sc x && args.all nst) = true then (match kwn kws with
      | some l => match fkIx T.fk x args.length l, mapO (cE T n c) args, mapO (cE T n c) (kws.map (·.value)) with
        | some (f, b), some es, some ks => some (.callK f b es ks)
        | _, _, _ => none
      | none => none) else none
  | n + 1, c, e => cX (cE T n c) e
end Mp
end
section
set_option Elab.async false
set_option linter.all false
set_option maxRecDepth 100000
set_option maxHeartbeats 8000000
/-! MpCompS: the turning of expressions is right. -/
namespace Mp
open PySem PySem.Spec PyProof.Rows L2

section
variable {T : Tb} {G : Gt} {k : Nat} {S : Sta}
theorem evs_F : ∀ ms : List E, evs G ms = evsF (ms.map (ev G))
  | [] => rfl
  | m :: ms => by
    funext fr h
    show (ev G m fr h).bind _ = (ev G m fr h).bind _
    rw [evs_F ms]
theorem Good.u {c : Cc} {X : Cx} {W : WX} (g : Good T G k c X S W) : X.A.units + 65 < cLine := by
  have := g.room.un
  omega
/-- an expression and, where it may be one, a test -/
def Snd (X : Cx) (S : Sta) (W : WX) (G : Gt) (n : Nat) (e : Expr) (m : E) : Prop := SE X S W e (ev G m) ∧ (tOk n e = true → STt X S W e (ev G m))
def IH (T : Tb) (G : Gt) (k : Nat) (S : Sta) (n : Nat) : Prop := ∀ c e m, cE T n c e = some m → ∀ X W, Good T G k c X S W → Snd X S W G n e m
theorem paO {n : Nat} (ih : IH T G k S n) {c : Cc} {X : Cx} {W : WX} (g : Good T G k c X S W) : ∀ {es : List Expr} {ms : List E}, mapO (cE T n c) es = some ms → es.all nst = true → PA X es (tRs S W (evs G ms))
  | [], ms, h, _ => by
    unfold mapO at h
    cases h
    exact sa_nil
  | e :: r, ms, h, hn => by
    unfold mapO at h
    split at h
    · rename_i a b h1 h2
      cases h
      rw [List.all_cons, Bool.and_eq_true] at hn
      have h3 := paO ih g h2 hn.2
      rw [evs_F] at h3 ⊢
      exact sa_cons (ih c e a h1 X W g).1 h3 (starEach_ns hn.1)
    · cases h
theorem pkO {n : Nat} (ih : IH T G k S n) {c : Cc} {X : Cx} {W : WX} (g : Good T G k c X S W) : ∀ {kws : List Keyword} {ms : List E}, mapO (cE T n c) (kws.map (·.value)) = some ms → PK X kws (tRs S W (evs G ms))
  | [], ms, h => by
    unfold mapO at h
    cases h
    exact sk_nil
  | ⟨nm, e, p⟩ :: r, ms, h => by
    rw [List.map_cons] at h
    unfold mapO at h
    split at h
    · rename_i a b h1 h2
      cases h
      have h3 := pkO ih g h2
      rw [evs_F] at h3 ⊢
      exact sk_cons (ih c e a h1 X W g).1 h3
    · cases h
theorem kwn_ok : ∀ {kws : List Keyword} {l : List Str}, kwn kws = some l → kws.map (·.arg) = l.map some
  | [], l, h => by unfold kwn at h; cases h; rfl
  | ⟨some nm, e, p⟩ :: r, l, h => by
    unfold kwn at h
    obtain ⟨l', h1, rfl⟩ := Option.map_eq_some_iff.mp h
    rw [List.map_cons, List.map_cons, kwn_ok h1]
  | ⟨none, e, p⟩ :: r, l, h => by unfold kwn at h; cases h
theorem evs_len {ms : List E} : ∀ {fr : Fr} {h : MH} {ds : List Mp.D} {h' : MH}, evs G ms fr h = .ok ds h' → ds.length = ms.length := by
  induction ms with
  | nil => intro fr h ds h' e; unfold evs at e; cases e; rfl
  | cons m ms ih =>
    intro fr h ds h' e
    unfold evs at e
    cases q : ev G m fr h with
    | bad => rw [q] at e; cases e
    | exc x h1 => rw [q] at e; cases e
    | ok d h1 =>
      rw [q, R.ok_bind] at e
      cases q2 : evs G ms fr h1 with
      | bad => rw [q2] at e; cases e
      | exc x h2 => rw [q2] at e; cases e
      | ok ds2 h2 =>
        rw [q2, R.ok_bind] at e
        cases e
        rw [List.length_cons, List.length_cons, ih q2]
theorem mapO_len {f : Expr → Option E} : ∀ {es : List Expr} {ms : List E}, mapO f es = some ms → ms.length = es.length
  | [], ms, h => by unfold mapO at h; cases h; rfl
  | e :: r, ms, h => by
    unfold mapO at h
    split at h
    · rename_i a b h1 h2
      cases h
      rw [List.length_cons, List.length_cons, mapO_len h2]
    · cases h
/-- a test by its value -/
theorem tst_val {X : Cx} {W : WX} {e : Expr} {f : Fe} (ov : Ov S X) (h : SE X S W e f) (he : ∀ whole, isTrue e X.env whole = (do let v ← whole; standAt e.pos; holding [v] (truthy v))) : SE X S W e f ∧ STt X S W e f := ⟨h, st_val ov h he⟩
theorem snd_val {X : Cx} {W : WX} {e : Expr} {m : E} {n : Nat} (ov : Ov S X) (h : SE X S W e (ev G m)) (he : ∀ whole, isTrue e X.env whole = (do let v ← whole; standAt e.pos; holding [v] (truthy v))) : Snd X S W G n e m := ⟨h, fun _ => st_val ov h he⟩

theorem whole_of {e : Expr} (h : match e with | .UnaryOp .Not _ _ => False | .BoolOp .. => False | .IfExp .. => False | .Compare .. => False | _ => True) {env : Env} : ∀ whole, isTrue e env whole = (do let v ← whole; standAt e.pos; holding [v] (truthy v)) := by
  intro whole
  cases e <;> first | rfl | exact h.elim | skip
  rename_i o a p
  cases o <;> first | rfl | exact h.elim
/-- and, or -/
theorem bool_ok {n : Nat} (ih : IH T G k S n) {c : Cc} {X : Cx} {W : WX} (g : Good T G k c X S W) {op : PySem.BoolOp} {pos : Pos} : ∀ {es : List Expr} {m : E}, es.all (tOk n) = true → cB op (cE T n c) es = some m → SE X S W (.BoolOp op es pos) (ev G m) ∧ PW X (.BoolOp op es pos) (tT S W (tst (ev G m)))
  | [], m, _, h => by unfold cB at h; cases h
  | [a], m, ht, h => by
    unfold cB at h
    have ha := ih c a m h X W g
    rw [List.all_cons, Bool.and_eq_true] at ht
    refine ⟨se_one ha.1, ?_⟩
    cases op with
    | And => exact pw_and1 (ha.2 ht.1)
    | Or => exact pw_or1 (ha.2 ht.1)
  | a :: b :: r, m, ht, h => by
    unfold cB at h
    rw [List.all_cons, Bool.and_eq_true] at ht
    split at h
    · rename_i x y h1 h2
      cases h
      have ha := ih c a x h1 X W g
      have hb := bool_ok ih g (pos := pos) ht.2 h2
      cases op with
      | And => exact ⟨se_and g.ov ha.1 hb.1, st_and (ha.2 ht.1) hb.2⟩
      | Or => exact ⟨se_or g.ov ha.1 hb.1, st_or (ha.2 ht.1) hb.2⟩
    · cases h
theorem part_ok {n : Nat} (ih : IH T G k S n) {c : Cc} {X : Cx} {W : WX} (g : Good T G k c X S W) : ∀ {e : Option Expr} {m : E}, cPart (cE T n c) e = some m → PO X e (tO S W (ev G m))
  | none, m, h => by
    unfold cPart at h
    cases h
    exact so_none
  | some e, m, h => by
    unfold cPart at h
    obtain ⟨m', h1, rfl⟩ := Option.map_eq_some_iff.mp h
    exact so_some (ih c e m' h1 X W g).1
theorem plain_ok {b : Expr} (h : plainB b = true) : PlainIx b := by
  intro o i
  cases b <;> first | rfl | cases h
theorem bname {S : Sta} {X : Cx} {x : Str} (ov : Ov S X) (tb : TbOk T G S k) (h : x ∈ bnames) : X.mg x = none := by
  rw [ov.mg]
  exact tb.bl x h
theorem blOf_name {x : Str} {n : Nat} {b : Bl} (h : blOf x n = some b) : x = blName b := by
  unfold blOf at h
  repeat' split at h
  all_goals first | (cases h; assumption) | (cases h; rename_i q; exact q.1) | cases h
theorem blName_mem (b : Bl) : blName b ∈ bnames := by
  cases b <;> decide +kernel
theorem tyOf_ok {x : Str} {t : Ty} (h : tyOf x = some t) : x ∈ bnames ∧ bootBuiltins x = some (.type (tyName t)) ∧ x ≠ "__name__" := by
  unfold tyOf at h
  repeat' split at h
  all_goals first | (cases h; rename_i q; subst q; decide +kernel) | cases h
theorem tys_ok {c : Cc} {X : Cx} {W : WX} (g : Good T G k c X S W) : ∀ {es : List Expr} {ts : List Ty}, tysOf c es = some ts → Paired (fun e t => ∃ x p, e = Expr.Name x p ∧ Gl X x ∧ X.mg x = none ∧ bootBuiltins x = some (.type (tyName t)) ∧ x ≠ "__name__" ∧ (x == ("__debug__" : Str)) = false) es ts
  | [], ts, h => by unfold tysOf at h; cases h; exact .nil
  | e :: r, ts, h => by
    unfold tysOf at h
    split at h
    · rename_i heq
      cases heq
    · rename_i x p r' heq
      cases heq
      split at h
      · rename_i t ts' h1 h2
        split at h
        · rename_i h3
          cases h
          obtain ⟨q1, q2, q3⟩ := tyOf_ok h1
          obtain ⟨q4, q5⟩ := glB_ok g.sc h3
          exact .cons ⟨x, p, rfl, q4, bname g.ov g.tb q1, q2, q3, q5⟩ (tys_ok g h2)
        · cases h
      · cases h
    · cases h
theorem boName {b : Bl} : blName b ≠ "__name__" := by cases b <;> decide +kernel
/-! targets -/
theorem asg_ns {e : Expr} {es : List Expr} {env : Env} (h : nst e = true) : assignEach (e :: es) env = (false, assign e env) :: assignEach es env := by
  cases e <;> first | rfl | cases h
mutual
theorem tg_ok {c : Cc} {X : Cx} {W : WX} (g : Good T G k c X S W) : ∀ (n : Nat) {e : Expr} {t : Tg}, cTg c n e = some t → PG X e (gR S t)
  | 0, _, _, h => by unfold cTg at h; cases h
  | n + 1, e, t, h => by
    unfold cTg at h
    split at h
    · rename_i heq; cases heq
    · split at h
      · rename_i i h1
        split at h
        · rename_i hl
          cases h
          refine sg_name g.nd (by rw [g.N]; exact ixOf_get h1) (by rw [g.sc]; exact hl.imp id (fun z => z.1)) ?_
          rcases hl with hl | hl
          · exact .inr (by rw [g.sc]; exact hl)
          · exact .inl (g.fn hl.2 _)
        · cases h
      · cases h
    · rename_i n' es kk pos heq
      cases heq
      obtain ⟨ts, h1, rfl⟩ := Option.map_eq_some_iff.mp h
      obtain ⟨q1, q2, q3⟩ := tgs_ok g n h1
      exact sg_tup g.ov g.calm q1 q2 q3
    · cases h
theorem tgs_ok {c : Cc} {X : Cx} {W : WX} (g : Good T G k c X S W) : ∀ (n : Nat) {es : List Expr} {ts : List Tg}, cTgs c n es = some ts → PGs X es (gRs S ts) ∧ (assignEach es X.env).length = ts.length ∧ (assignEach es X.env).findIdx? (·.1) = none
  | 0, _, _, h => by unfold cTgs at h; cases h
  | n + 1, [], ts, h => by
    unfold cTgs at h
    cases h
    exact ⟨sgs_nil, rfl, rfl⟩
  | n + 1, e :: r, ts, h => by
    unfold cTgs at h
    split at h
    · rename_i t ts' h1 h2
      split at h
      · rename_i hn
        cases h
        obtain ⟨q1, q2, q3⟩ := tgs_ok g n h2
        refine ⟨sgs_cons (tg_ok g n h1) q1 (by rw [asg_ns hn]; rfl), by rw [asg_ns hn, List.length_cons, List.length_cons, q2], ?_⟩
        rw [asg_ns hn, List.findIdx?_cons, q3]
        rfl
      · cases h
    · cases h
end
/-! iteration -/
theorem itF_rng1 (b : E) : itF (ev G (.rng1 b)) = rng1F (ev G b) := by
  funext fr m
  show ((ev G b fr m).bind _).bind _ = (ev G b fr m).bind _
  cases ev G b fr m with
  | ok y m1 =>
    simp only [R.ok_bind]
    cases rngD (.int 0) y with
    | none => rfl
    | some xs => rfl
  | exc x m1 => rfl
  | bad => rfl
theorem itF_rng2 (a b : E) : itF (ev G (.rng2 a b)) = rng2F (ev G a) (ev G b) := by
  funext fr m
  show ((ev G a fr m).bind _).bind _ = (ev G a fr m).bind _
  cases ev G a fr m with
  | ok x m1 =>
    simp only [R.ok_bind]
    cases ev G b fr m1 with
    | ok y m2 =>
      simp only [R.ok_bind]
      cases rngD x y with
      | none => rfl
      | some xs => rfl
    | exc x m1 => rfl
    | bad => rfl
  | exc x m1 => rfl
  | bad => rfl
theorem itF_zip (a b : E) : itF (ev G (.zip a b)) = zipF (ev G a) (ev G b) := by
  funext fr m
  show ((ev G a fr m).bind _).bind _ = (ev G a fr m).bind _
  cases ev G a fr m with
  | ok x m1 =>
    simp only [R.ok_bind]
    cases ev G b fr m1 with
    | ok y m2 =>
      simp only [R.ok_bind]
      cases zipD x y with
      | none => rfl
      | some xs => rfl
    | exc x m1 => rfl
    | bad => rfl
  | exc x m1 => rfl
  | bad => rfl
theorem it_ok {n : Nat} (ih : IH T G k S n) {c : Cc} {X : Cx} {W : WX} (g : Good T G k c X S W) {tg e : Expr} {m : E} (h : cIt c (cE T n c) tg e = some m) : PI X tg e (tI S W (itF (ev G m))) := by
  unfold cIt at h
  split at h
  · rename_i x p a q
    split at h
    · rename_i hc
      obtain ⟨rfl, hg, hn⟩ := hc
      obtain ⟨m', h1, rfl⟩ := Option.map_eq_some_iff.mp h
      rw [itF_rng1]
      exact si_rng1 (glB_ok g.sc hg).1 (bname g.ov g.tb (by decide +kernel)) (ih c a m' h1 X W g).1 hn
    · exact si_val g.ov (ih c _ m h X W g).1
  · rename_i x p a b q
    split at h
    · rename_i hc
      obtain ⟨rfl, hg, hn, hn2⟩ := hc
      split at h
      · rename_i u v h1 h2
        cases h
        rw [itF_rng2]
        exact si_rng2 (glB_ok g.sc hg).1 (bname g.ov g.tb (by decide +kernel)) (ih c a u h1 X W g).1 (ih c b v h2 X W g).1 hn hn2
      · cases h
    · split at h
      · rename_i hc
        obtain ⟨rfl, hg, hn, hn2⟩ := hc
        split at h
        · rename_i u v h1 h2
          cases h
          rw [itF_zip]
          exact si_zip g.ov (glB_ok g.sc hg).1 (bname g.ov g.tb (by decide +kernel)) (ih c a u h1 X W g).1 (ih c b v h2 X W g).1 hn hn2
        · cases h
      · exact si_val g.ov (ih c _ m h X W g).1
  · exact si_val g.ov (ih c _ m h X W g).1
/-! blocks -/
theorem own_ix {N : List Str} : ∀ {ns : List (Str × NameKind)} {own : List (Str × Nat)}, ownOf N ns = some own → (∀ p ∈ own, N[p.2]? = some p.1) ∧ ∀ y ∈ ns, y.2 = .local ∨ y.2 = .cell → y.1 ∈ own.map (·.1) ∨ y.1 ∉ N
  | [], own, h => by
    unfold ownOf at h
    cases h
    exact ⟨fun p hp => (by cases hp), fun y hy => (by cases hy)⟩
  | (x, kd) :: r, own, h => by
    have step : ∀ {i : Nat} {l : List (Str × Nat)}, ixOf N x = some i → ownOf N r = some l → own = (x, i) :: l → (∀ p ∈ own, N[p.2]? = some p.1) ∧ ∀ y ∈ (x, kd) :: r, y.2 = .local ∨ y.2 = .cell → y.1 ∈ own.map (·.1) ∨ y.1 ∉ N := by
      intro i l h1 h2 h3
      subst h3
      obtain ⟨q1, q2⟩ := own_ix h2
      refine ⟨fun p hp => ?_, fun y hy hk => ?_⟩
      · rcases List.mem_cons.mp hp with rfl | hp
        · exact ixOf_get h1
        · exact q1 p hp
      · rw [List.map_cons]
        rcases List.mem_cons.mp hy with rfl | hy
        · exact .inl (List.mem_cons_self ..)
        · exact (q2 y hy hk).imp (List.mem_cons_of_mem _) id
    have skip : ∀ {l : List (Str × Nat)}, ixOf N x = none → ownOf N r = some l → own = l → (∀ p ∈ own, N[p.2]? = some p.1) ∧ ∀ y ∈ (x, kd) :: r, y.2 = .local ∨ y.2 = .cell → y.1 ∈ own.map (·.1) ∨ y.1 ∉ N := by
      intro l h1 h2 h3
      subst h3
      obtain ⟨q1, q2⟩ := own_ix h2
      refine ⟨q1, fun y hy hk => ?_⟩
      rcases List.mem_cons.mp hy with rfl | hy
      · exact .inr (ixOf_none h1)
      · exact q2 y hy hk
    have pass : kd ≠ .local → kd ≠ .cell → ownOf N r = some own → (∀ p ∈ own, N[p.2]? = some p.1) ∧ ∀ y ∈ (x, kd) :: r, y.2 = .local ∨ y.2 = .cell → y.1 ∈ own.map (·.1) ∨ y.1 ∉ N := by
      intro n1 n2 h2
      obtain ⟨q1, q2⟩ := own_ix h2
      refine ⟨q1, fun y hy hk => ?_⟩
      rcases List.mem_cons.mp hy with rfl | hy
      · exact absurd hk (fun z => z.elim n1 n2)
      · exact q2 y hy hk
    cases kd with
    | «local» =>
      unfold ownOf at h
      split at h
      · rename_i i l h1 h2
        cases h
        exact step h1 h2 rfl
      · rename_i l h1 h2
        cases h
        exact skip h1 h2 rfl
      · cases h
    | cell =>
      unfold ownOf at h
      split at h
      · rename_i i l h1 h2
        cases h
        exact step h1 h2 rfl
      · rename_i l h1 h2
        cases h
        exact skip h1 h2 rfl
      · cases h
    | free => exact pass (fun z => nomatch z) (fun z => nomatch z) (by unfold ownOf at h; exact h)
    | globalExplicit => exact pass (fun z => nomatch z) (fun z => nomatch z) (by unfold ownOf at h; exact h)
    | globalImplicit => exact pass (fun z => nomatch z) (fun z => nomatch z) (by unfold ownOf at h; exact h)
theorem blk_ok {N : List Str} {sc scope : Scope} {own : List (Str × Nat)} (h : blkB N sc scope = true) (ho : ownOf N scope.names = some own) : BlkOk N sc scope own := by
  unfold blkB at h
  simp only [Bool.and_eq_true, Bool.or_eq_true, Bool.not_eq_true', decide_eq_true_eq, decide_eq_false_iff_not, List.all_eq_true] at h
  obtain ⟨⟨h1, h2⟩, h3⟩ := h
  obtain ⟨q1, q2⟩ := own_ix ho
  refine ⟨h1, h2, q1, fun y hy e => ?_, fun y hy e => q2 y hy e⟩
  rcases h3 y hy with (z | z) | z
  · exact absurd e z
  · exact .inl z
  · exact .inr z
theorem blk_good {c : Cc} {X : Cx} {W : WX} (g : Good T G k c X S W) {scope : Scope} (hk : scope.kind = .function) (s : Shared) (H : Hp) (C : Addr) (cl : List (Str × Addr)) (fp : List Addr) : Good T G k (blkC c scope) (X.blk s H scope (compEnvC scope cl C X.env) fp) S W0 where
  ov := ⟨g.ov.P, g.ov.w, g.ov.K, g.ov.mg, g.ov.base⟩
  calm := g.calm
  nd := g.nd
  N := g.N
  sc := by
    show relS scope X.env.scope = relS scope c.sc
    rw [g.sc]
  fn := fun z => nomatch z
  kind := hk
  room := g.room
  room2 := fun z => nomatch z
  tk := LamX.takes0
  tb := g.tb
  lam := fun z => nomatch z
  lev := fun z => nomatch z
theorem ev_comp (vs : List Nat) (t : Tg) (i el : E) (cs : List E) : ev G (.comp vs t i cs el) = compF vs t (itF (ev G i)) (evc G cs) (ev G el) := by
  funext fr m
  show (ev G i fr m).bind _ = ((ev G i fr m).bind _).bind _
  cases ev G i fr m with
  | ok x m1 =>
    simp only [R.ok_bind]
    cases itemsD x with
    | none => rfl
    | some xs => rfl
  | exc x m1 => rfl
  | bad => rfl
theorem PTs_nil {X : Cx} : PTs X [] (tT S W0 (condGo (evc G []))) :=
  ⟨fun pins s σ H Q I ⟨ow, io, fr, m, rp, p⟩ => pts_nil.run pins s σ H Q I (p io H (.refl _ _) rp.h)⟩
theorem pts_ok {X : Cx} {e : Expr} {f : Fe} (h : STt X S W0 e f) : PTs X [e] (tT S W0 (condGo [f])) := by
  refine ⟨fun pins s σ H Q I ⟨ow, io, fr, m, rp, p⟩ => (pts_one h).run pins s σ H Q I ?_⟩
  refine ⟨ow, io, fr, m, rp, ?_⟩
  unfold condGo at p
  unfold tst
  cases q : f fr m with
  | bad => rw [q] at p; exact p
  | exc x m1 => rw [q] at p; exact p.elim
  | ok d m1 =>
    rw [q] at p
    dsimp only [isOk, R.ok_bind] at p ⊢
    cases e : truD d with
    | none => rw [e] at p; exact p
    | some b => rw [e] at p; cases b <;> exact p
theorem m1Of_ok {x : Str} {q : M1} (h : m1Of x = some q) : m1Nm q = x := by
  unfold m1Of at h
  repeat' split at h
  all_goals first | (cases h; rename_i z; exact z.symm) | (cases h; rename_i z _; exact z.symm) | cases h
theorem pj_mapO {X : Cx} {W : WX} {f : Expr → Option E} (hf : ∀ e m, f e = some m → SE X S W e (ev G m)) : ∀ {es : List Expr} {ms : List E}, mapO f es = some ms → PJ X es ((ms.map (ev G)).map (tR S W))
  | [], ms, h => by unfold mapO at h; cases h; exact .nil
  | e :: r, ms, h => by
    unfold mapO at h
    split at h
    · rename_i a b h1 h2
      cases h
      exact .cons (hf e a h1) (pj_mapO hf h2)
    · cases h
theorem evf_F : ∀ (ms : List E) (acc : Str), evf G ms acc = fsF (ms.map (ev G)) acc
  | [], acc => rfl
  | m :: ms, acc => by
    funext fr h
    show (ev G m fr h).bind _ = (ev G m fr h).bind _
    congr 1
    funext x m1
    cases x <;> first | rfl | (dsimp only; rw [evf_F ms])
theorem cX_ok {c : Cc} {X : Cx} {W : WX} (g : Good T G k c X S W) {f : Expr → Option E} (hf : ∀ e m, f e = some m → SE X S W e (ev G m)) {n : Nat} {e : Expr} {m : E} (h : cX f e = some m) : Snd X S W G n e m := by
  unfold cX at h
  split at h
  · split at h
    · rename_i hc
      simp only [Bool.and_eq_true] at hc
      split at h
      · rename_i q o' a' h1 h2 h3
        cases h
        exact snd_val g.ov (se_m1 g.ov (m1Of_ok h1) (hf _ _ h2) (hf _ _ h3) hc.1.1 hc.2 hc.1.2) (whole_of True.intro)
      · cases h
    · cases h
  · split at h
    · rename_i hc
      obtain ⟨a', h1, rfl⟩ := Option.map_eq_some_iff.mp h
      subst hc
      exact snd_val g.ov (se_fmt (hf _ _ h1)) (whole_of True.intro)
    · cases h
  · obtain ⟨ms, h1, rfl⟩ := Option.map_eq_some_iff.mp h
    have z := se_fs (pos := ‹Pos›) (pj_mapO hf h1)
    rw [← evf_F] at z
    exact snd_val g.ov z (whole_of True.intro)
  · exact snd_val g.ov (pe_joined1 (hf _ _ h)) (whole_of True.intro)
  · split at h
    · rename_i hc
      subst hc
      obtain ⟨a', h1, rfl⟩ := Option.map_eq_some_iff.mp h
      exact snd_val g.ov (se_rev g.ov (hf _ _ h1)) (whole_of True.intro)
    · cases h
  · cases h
theorem cE_ok : ∀ n, IH T G k S n
  | 0 => fun c e m h => by unfold cE at h; cases h
  | n + 1 => fun c e m h X W g => by
    have ih : IH T G k S n := cE_ok n
    unfold cE at h
    split at h
    · cases h
    · cases h; exact snd_val g.ov se_k_int (whole_of True.intro)
    · cases h; exact snd_val g.ov se_k_bl (whole_of True.intro)
    · cases h; exact snd_val g.ov se_k_str (whole_of True.intro)
    · cases h; exact snd_val g.ov se_k_non (whole_of True.intro)
    · rename_i n' x pos heq
      cases heq
      split at h
      · rename_i hv
        rw [Bool.and_eq_true] at hv
        obtain ⟨i, h1, rfl⟩ := Option.map_eq_some_iff.mp h
        obtain ⟨d1, d2⟩ := nmB_ok hv.2
        exact snd_val g.ov (se_loc (by rw [g.N]; exact ixOf_get h1) (by rw [g.sc]; exact visB_ok hv.1) d1 d2) (whole_of True.intro)
      · split at h
        · rename_i hg
          obtain ⟨i, h1, rfl⟩ := Option.map_eq_some_iff.mp h
          obtain ⟨q1, q2⟩ := glB_ok g.sc hg
          exact snd_val g.ov (se_cst g.ov (g.tb.cs _ _ h1) q1 q2) (whole_of True.intro)
        · cases h
    · rename_i n' a o b pos heq
      cases heq
      split at h
      · rename_i o' a' b' h1 h2 h3
        cases h
        have e := boF_ok h1
        subst e
        exact snd_val g.ov (se_bin o' (ih _ a a' h2 X W g).1 (ih _ b b' h3 X W g).1) (whole_of True.intro)
      · cases h
    · rename_i n' a pos heq
      cases heq
      obtain ⟨a', h1, rfl⟩ := Option.map_eq_some_iff.mp h
      exact snd_val g.ov (se_neg (ih _ a a' h1 X W g).1) (whole_of True.intro)
    · rename_i n' a pos heq
      cases heq
      split at h
      · rename_i ht
        obtain ⟨a', h1, rfl⟩ := Option.map_eq_some_iff.mp h
        have ha := ih _ a a' h1 X W g
        exact ⟨se_not g.ov ha.1, fun _ => st_not (ha.2 ht)⟩
      · cases h
    · rename_i n' a kk p1 p2 heq
      cases heq
      obtain ⟨a', h1, rfl⟩ := Option.map_eq_some_iff.mp h
      have ha := ih _ a a' h1 X W g
      exact ⟨se_isN ha.1, fun _ => st_isN ha.1⟩
    · rename_i n' a kk p1 p2 heq
      cases heq
      obtain ⟨a', h1, rfl⟩ := Option.map_eq_some_iff.mp h
      have ha := ih _ a a' h1 X W g
      exact ⟨se_notN ha.1, fun _ => st_notN ha.1⟩
    · rename_i n' a o b pos y1 y2 heq
      cases heq
      split at h
      · rename_i o' a' b' h1 h2 h3
        split at h
        · rename_i hm
          cases h
          have e := coF_ok h1
          subst e
          have ha := ih _ a a' h2 X W g
          have hb := ih _ b b' h3 X W g
          exact ⟨se_cmp g.u g.ov o' ha.1 hb.1 hm, fun _ => st_cmp g.u g.ov o' ha.1 hb.1 hm⟩
        · cases h
      · cases h
    · rename_i n' a o q b d pos heq
      cases heq
      split at h
      · rename_i o' q' a' b' d' h1 h2 h3 h4 h5
        split at h
        · rename_i hm
          cases h
          have e := coF_ok h1
          subst e
          have e := coF_ok h2
          subst e
          have ha := ih _ a a' h3 X W g
          have hb := ih _ b b' h4 X W g
          have hd := ih _ d d' h5 X W g
          exact ⟨se_chain g.u g.ov o' q' ha.1 hb.1 hd.1 hm, fun _ => st_chain g.u g.ov o' q' ha.1 hb.1 hd.1 hm⟩
        · cases h
      · cases h
    · rename_i n' op es pos heq
      cases heq
      split at h
      · rename_i ht
        obtain ⟨q1, q2⟩ := bool_ok ih g (pos := pos) ht h
        exact ⟨q1, fun _ => q2.pt⟩
      · cases h
    · rename_i n' t a b pos heq
      cases heq
      split at h
      · rename_i ht
        split at h
        · rename_i t' a' b' h1 h2 h3
          cases h
          refine ⟨?_, fun z => by unfold tOk at z; cases z⟩
          have e := se_ite (pos := pos) ((ih _ t t' h1 X W g).2 ht) (ih _ a a' h2 X W g).1 (ih _ b b' h3 X W g).1
          exact e
        · cases h
      · cases h
    · rename_i n' es kk pos heq
      cases heq
      split at h
      · rename_i hn
        obtain ⟨ms, h1, rfl⟩ := Option.map_eq_some_iff.mp h
        exact snd_val g.ov (se_tup (paO ih g h1 hn)) (whole_of True.intro)
      · cases h
    · rename_i n' es pos heq
      cases heq
      split at h
      · rename_i hn
        obtain ⟨ms, h1, rfl⟩ := Option.map_eq_some_iff.mp h
        exact snd_val g.ov (se_lst (paO ih g h1 hn)) (whole_of True.intro)
      · cases h
    · rename_i n' a lo hi p1 p2 heq
      cases heq
      split at h
      · rename_i a' l' h' h1 h2 h3
        cases h
        exact snd_val g.ov (se_sl g.ov (ih _ a a' h1 X W g).1 (part_ok ih g h2) (part_ok ih g h3)) (whole_of True.intro)
      · cases h
    · injection ‹n + 1 = _ + 1› with hnn
      subst hnn
      exact cX_ok g (fun e m h => (ih _ e m h X W g).1) h
    · rename_i n' a i pos y1 y2 heq
      cases heq
      split at h
      · rename_i hp
        split at h
        · rename_i a' i' h1 h2
          cases h
          exact snd_val g.ov (se_idx g.ov (ih _ a a' h1 X W g).1 (ih _ i i' h2 X W g).1 (plain_ok hp)) (whole_of True.intro)
        · cases h
      · cases h
    · rename_i n' elt tg it ifs scope pos heq
      cases heq
      split at h
      · rename_i hb
        rw [Bool.and_eq_true] at hb
        split at h
        · rename_i own t i el h1 h2 h3 h4
          split at h
          · rename_i hs
            have hset : ∀ x, foldedSetIterable it X.env x = pure x := fun x => by
              have := hb.2
              cases it <;> first | rfl | cases this
            have hkind : scope.kind = .function := by
              have := hb.1
              unfold blkB at this
              simp only [Bool.and_eq_true, decide_eq_true_eq] at this
              exact this.1.1
            have hsl : ∀ j ∈ slots t, j ∈ own.map (·.2) := fun j hj => by
              rw [List.all_eq_true] at hs
              simpa using hs j hj
            have bg := fun s H C cl fp => blk_good (scope := scope) g hkind s H C cl fp
            have main : ∀ {cs : List E}, (∀ (s : Shared) (H : Hp) (C : Addr) (cl : List (Str × Addr)) (fp : List Addr), PTs (X.blk s H scope (compEnvC scope cl C X.env) fp) ifs (tT S W0 (condGo (evc G cs)))) → SE X S W (.ListComp elt [⟨tg, it, ifs, 0⟩] scope pos) (ev G (.comp (own.map (·.2)) t i cs el)) := fun {cs} ht => by
              rw [ev_comp]
              exact se_comp g.calm g.nd (it_ok ih g h3) (by rw [g.N, g.sc]; exact blk_ok hb.1 h1) (fun s H C cl fp => tg_ok (bg s H C cl fp) _ h2) ht (fun s H C cl fp => (ih _ elt el h4 _ _ (bg s H C cl fp)).1) hset hsl
            split at h
            · cases h
              exact snd_val g.ov (main fun s H C cl fp => PTs_nil) (whole_of True.intro)
            · rename_i gq
              split at h
              · rename_i hto
                obtain ⟨gm, h5, rfl⟩ := Option.map_eq_some_iff.mp h
                exact snd_val g.ov (main fun s H C cl fp => pts_ok ((ih _ gq gm h5 _ _ (bg s H C cl fp)).2 hto)) (whole_of True.intro)
              · cases h
            · cases h
          · cases h
        · cases h
      · cases h
    · rename_i n' x p args pos heq
      cases heq
      split at h
      · rename_i hc
        rw [Bool.and_eq_true] at hc
        obtain ⟨hg, hn⟩ := hc
        obtain ⟨q1, q2⟩ := glB_ok g.sc hg
        split at h
        · split at h
          · rename_i f h1
            cases h
            exact snd_val g.ov (se_call0 g.ov (g.tb.fn _ _ _ h1) g.room g.tk q1 q2) (whole_of True.intro)
          · obtain ⟨f, h1, rfl⟩ := Option.map_eq_some_iff.mp h
            exact snd_val g.ov (se_callR0 g.ov (g.tb.fr _ _ h1) g.room g.tk q1 q2) (whole_of True.intro)
        · rename_i a r
          split at h
          · rename_i hx
            subst hx
            rw [List.all_cons, Bool.and_eq_true] at hn
            have hm : X.mg "isinstance" = none := bname g.ov g.tb (by decide +kernel)
            split at h
            · rename_i y p3
              split at h
              · rename_i t m' h1 h2
                split at h
                · rename_i h3
                  cases h
                  obtain ⟨z1, z2, z3⟩ := tyOf_ok h1
                  obtain ⟨z4, z5⟩ := glB_ok g.sc h3
                  exact snd_val g.ov (se_isi1 g.ov q1 hm (ih _ a m' h2 X W g).1 hn.1 ⟨z4, bname g.ov g.tb z1, z2, z3, z5⟩) (whole_of True.intro)
                · cases h
              · cases h
            · rename_i es kt p3
              split at h
              · rename_i ts m' h1 h2
                split at h
                · rename_i h3
                  cases h
                  exact snd_val g.ov (se_isi2 g.ov q1 hm (ih _ a m' h2 X W g).1 hn.1 h3.1 h3.2 (tys_ok g h1)) (whole_of True.intro)
                · cases h
              · cases h
            · cases h
          · split at h
            · rename_i b hb
              obtain ⟨ms, h1, rfl⟩ := Option.map_eq_some_iff.mp h
              have e := blOf_name hb
              subst e
              have hm : S.mg (blName b) = none := g.tb.bl _ (blName_mem b)
              exact snd_val g.ov (se_blt g.ov g.calm q1 hm (paO ih g h1 hn) hn q2 boName) (whole_of True.intro)
            · split at h
              · rename_i f hf
                obtain ⟨ms, h1, rfl⟩ := Option.map_eq_some_iff.mp h
                exact snd_val g.ov (se_call g.ov (g.tb.fn _ _ _ hf) g.room g.tk q1 (paO ih g h1 hn) hn q2 (fun fr m ds m' e => by rw [evs_len e, mapO_len h1])) (whole_of True.intro)
              · split at h
                · rename_i f b hf
                  obtain ⟨ms, h1, rfl⟩ := Option.map_eq_some_iff.mp h
                  have e := se_callK (kws := []) (pos := pos) (p := p) g.ov (g.tb.fk _ _ _ _ _ hf) g.room g.tk q1 (paO ih g h1 hn) sk_nil rfl hn q2 (fun z => nomatch z)
                  exact snd_val g.ov e (whole_of True.intro)
                · split at h
                  · rename_i f hf
                    obtain ⟨ms, h1, rfl⟩ := Option.map_eq_some_iff.mp h
                    exact snd_val g.ov (se_callR g.ov (g.tb.fr _ _ hf) g.room g.tk q1 (paO ih g h1 hn) hn q2) (whole_of True.intro)
                  split at h
                  · rename_i hw
                    obtain ⟨rfl, hlam⟩ := hw
                    split at h
                    · rename_i params body scope lpos z1 z2 z3
                      split at h
                      · rename_i hl
                        rw [Bool.and_eq_true] at hl
                        obtain ⟨mb, h1, rfl⟩ := Option.map_eq_some_iff.mp h
                        obtain ⟨cA, P, l1, l2, l3, l4⟩ := g.lam hlam
                        have L : LamX.LamS X.env.scope scope := by rw [g.sc]; exact LamX.lamS_by hl.1
                        have hna := hl.2
                        have hd : defaultsOf params X.env = ([], []) := by
                          unfold noArgs at hna
                          split at hna
                          · rfl
                          · cases hna
                        have hbd : ∀ (q : Str) (cl : List (Str × Addr)) (pm cv ctv : Value), bindArgs (PySem.W.kla_fn "<lambda>" q params body scope cl pm cv ctv) ⟨[], []⟩ = pure [] := by
                          unfold noArgs at hna
                          split at hna
                          · exact fun _ _ _ _ _ => rfl
                          · cases hna
                        refine snd_val g.ov (se_why g.ov g.tb.wy ((g.room2 hlam)) ?_ q1 q2 l1 l2 l3 l4 L hd hbd fun A outer s H E f c' hr => ?_) (whole_of True.intro)
                        · exact g.lev hlam
                        · refine (ih _ body mb h1 (LamX.lamCx X A outer s H E scope f c') _ ?_).1
                          exact {
                            ov := ⟨g.ov.P, g.ov.w, g.ov.K, g.ov.mg, g.ov.base⟩
                            calm := rfl
                            nd := g.nd
                            N := g.N
                            sc := rfl
                            fn := fun z => nomatch z
                            kind := L.kind
                            room := hr
                            room2 := fun z => nomatch z
                            tk := takes_of (X := LamX.lamCx X A outer s H E scope f c') rfl rfl rfl rfl
                            tb := g.tb
                            lam := fun z => nomatch z
                            lev := fun z => nomatch z }
                      · cases h
                    · cases h
                  · cases h
      · cases h
    · rename_i n' x p args kws pos y1 heq
      cases heq
      split at h
      · rename_i hc
        rw [Bool.and_eq_true] at hc
        obtain ⟨hg, hn⟩ := hc
        obtain ⟨q1, q2⟩ := glB_ok g.sc hg
        split at h
        · rename_i l hl
          split at h
          · rename_i f b es ks h1 h2 h3
            cases h
            have e := se_callK (pos := pos) (p := p) g.ov (g.tb.fk _ _ _ _ _ h1) g.room g.tk q1 (paO ih g h2 hn) (pkO ih g h3) (kwn_ok hl) hn q2 (fun z => by
              subst z
              unfold mapO at h2
              cases h2
              rfl)
            exact snd_val g.ov e (whole_of True.intro)
          · cases h
        · cases h
      · cases h
    · injection ‹n + 1 = _ + 1› with hnn
      subst hnn
      exact cX_ok g (fun e m h => (ih _ e m h X W g).1) h
end
end Mp
end
section
set_option Elab.async false
set_option linter.all false
set_option maxRecDepth 100000
set_option maxHeartbeats 8000000
/-! MpCompT: the text's statements turned into the small language, and that this is right. -/
namespace Mp
open PySem PySem.Spec PyProof.Rows L2

def isComp : Expr → Bool
  | .ListComp .. => true
  | .SetComp .. => true
  | .DictComp .. => true
  | _ => false
theorem sw_comp {e : Expr} {t : Option Expr} {l : Nat} {env : Env} (h : isComp e = false) : swapsWith e t l env = pure false := by
  cases e <;> first | rfl | cases h
def swsB (sc : Scope) (t e : Expr) : Bool := !isComp e || (match t with
  | .Name x _ => !(sc.names.lookup x == some .local)
  | _ => true)
theorem sws_ok {sc : Scope} {t e : Expr} {l : Nat} {env : Env} (hs : env.scope = sc) (h : swsB sc t e = true) : swapsWithSole [t] e l env = pure false := by
  unfold swsB at h
  by_cases hc : isComp e = false
  · exact sw_comp hc
  · have hc : isComp e = true := by simpa using hc
    rw [hc] at h
    simp only [Bool.not_true, Bool.false_or] at h
    show swapsWith e (some t) l env = pure false
    cases t with
    | Name x p =>
      have hk : (env.kindOf x == some .local) = false := by
        show (env.scope.names.lookup x == some .local) = false
        rw [hs]
        simpa using h
      cases e <;> first | rfl | (unfold swapsWith; simp only [hk, Bool.and_false, Bool.false_and])
    | _ => cases e <;> rfl
/-- the names of a tuple that are stored in turn -/
def namesOf (sc : Scope) (ts : List Expr) (line : Nat) : List Str := ts.filterMap fun
  | .Name id pos => if sc.names.lookup id == some .local && pos.line == line then some id else none
  | _ => none
def lineOf (ts : List Expr) : Nat := (ts.head?.map (·.pos.line)).getD 0
/-- no swapped stores -/
def swNB (sc : Scope) : Expr → Expr → Bool
  | .Tuple ts _ _, .Tuple vs _ _ => !(ts.length == 2 || ts.length == 3) || vs.length != ts.length || (namesOf sc ts (lineOf ts)).length != ts.length
  | .List .., .Tuple .. => false
  | _, _ => true
theorem sw_none {t e : Expr} {env : Env} (h : swNB env.scope t e = true) (hk : env.scope.kind = .function) : swappedStores [t] e env = pure none := by
  have hb : env.blockKind = .function := by unfold Env.blockKind; rw [hk]; rfl
  unfold swNB at h
  split at h
  · rename_i ts k1 p1 vs k2 p2
    unfold swappedStores
    simp only [pure_bind]
    split
    · rfl
    · rename_i c1
      have c2 : ((namesOf env.scope ts (lineOf ts)).length != ts.length) = true := by
        rw [Bool.or_eq_true, Bool.or_eq_true] at h
        rcases h with h | h
        · exfalso
          apply c1
          rw [Bool.or_eq_true, Bool.or_eq_true]
          exact .inl h
        · exact h
      split
      · rfl
      · split
        · rfl
        · rename_i c4
          exact absurd ((Bool.or_eq_true _ _).mpr (.inl c2)) c4
  · cases h
  · rename_i n1 n2
    unfold swappedStores
    cases e <;> try (cases t <;> rfl)
    cases t <;> first | rfl | exact absurd rfl (n1 _ _ _ _ _ _ rfl) | exact absurd rfl (n2 _ _ _ _ _ rfl) | (exfalso; exact n1 _ _ _ _ _ _ rfl rfl) | (exfalso; exact n2 _ _ _ _ _ rfl rfl)
/-- swapped stores of two names -/
def sw2B (sc : Scope) (x : Str) (px : Pos) (y : Str) (py : Pos) (e1 e2 : Expr) : Bool :=
  (sc.names.lookup x == some .local) && (sc.names.lookup y == some .local) && !(x == y) && (py.line == px.line) && nst e1 && nst e2 && !([e1, e2].all (foldedForSure 8)) && !([e1, e2].all (constantsAlone 8))
def starB : Expr → Bool
  | .Starred .. => true
  | _ => false
theorem nst_star {e : Expr} (h : nst e = true) : starB e = false := by
  cases e <;> first | rfl | cases h
theorem sw_two {sc : Scope} {x y : Str} {px py pt pt2 : Pos} {kt k2 : Nat} {e1 e2 : Expr} {env : Env} (h : sw2B sc x px y py e1 e2 = true) (hs : env.scope = sc) (hk : env.scope.kind = .function) :
    swappedStores [.Tuple [.Name x px, .Name y py] kt pt] (.Tuple [e1, e2] k2 pt2) env = pure (some [x, y]) := by
  have hb : env.blockKind = .function := by unfold Env.blockKind; rw [hk]; rfl
  unfold sw2B at h
  simp only [Bool.and_eq_true, Bool.not_eq_true'] at h
  obtain ⟨⟨⟨⟨⟨⟨⟨h1, h2⟩, h3⟩, h4⟩, h5⟩, h6⟩, h7⟩, h8⟩ := h
  have kx : (env.kindOf x == some .local) = true := by
    show (env.scope.names.lookup x == some .local) = true
    rw [hs]; exact h1
  have ky : (env.kindOf y == some .local) = true := by
    show (env.scope.names.lookup y == some .local) = true
    rw [hs]; exact h2
  have s5 := nst_star h5
  have s6 := nst_star h6
  have hl : ((Expr.Name x px).pos.line) = px.line := rfl
  unfold swappedStores
  simp only [pure_bind]
  split
  · rename_i c
    rw [hb] at c
    have c0 : false = true := c
    cases c0
  · split
    · rename_i c
      have c0 : (starB e1 || (starB e2 || false)) = true := c
      rw [s5, s6] at c0
      cases c0
    · have nm : ([Expr.Name x px, Expr.Name y py].filterMap fun
            | .Name id pos => if env.kindOf id == some .local && pos.line == (([Expr.Name x px, Expr.Name y py] : List Expr).head?.map (·.pos.line)).getD 0 then some id else none
            | _ => none) = [x, y] := by
        simp only [List.filterMap_cons, List.filterMap_nil, List.head?_cons, Option.map_some, Option.getD_some, hl, kx, ky, h4, Bool.true_and, beq_self_eq_true, if_true]
      have ed : ([x, y].eraseDups).length = 2 := by
        have : (x == y) = false := h3
        have this2 : (y == x) = false := by
          rw [beq_eq_false_iff_ne] at this ⊢
          exact Ne.symm this
        simp [List.eraseDups_cons, this2]
      split
      · rename_i c
        exfalso
        have c' := c
        rw [Bool.or_eq_true] at c'
        rcases c' with c' | c'
        · have z := congrArg List.length nm
          have c2 : (([x, y] : List Str).length != 2) = true := by rw [← z]; exact c'
          have c3 : false = true := c2
          cases c3
        · have c2 : (([x, y] : List Str).eraseDups.length != ([x, y] : List Str).length) = true := by rw [← nm]; exact c'
          rw [ed] at c2
          have c3 : false = true := c2
          cases c3
      · split
        · rename_i c
          exact absurd (h7.symm.trans c) (by decide)
        · split
          · rename_i c
            exact absurd (h8.symm.trans c) (by decide)
          · show pure (some _) = pure (some _)
            exact congrArg (fun z => pure (some z)) nm
/-- name = [..] in one go -/
def setLcB (sc : Scope) (y : Str) (py : Pos) (scope : Scope) (pos : Pos) : Bool :=
  (match sc.names.lookup y with | some .local => true | _ => false) && (py.line == pos.line) && !(scope.names.any fun (n, k) => n == y && (k == .local || k == .cell))
section
variable {T : Tb} {G : Gt} {k : Nat} {S : Sta}
theorem ss_setLc {X : Cx} {W : WX} {i : Nat} {y : Str} {py : Pos} {elt tgE iterE : Expr} {ifs : List Expr} {scope : Scope} {own : List (Str × Nat)} {tg : Tg} {fi : Fes} {cs : List Fe} {fe : Fe} {pos spos : Pos} (hc : X.calm = true) (hN : X.N.Nodup) (hk : X.env.scope.kind = .function) (hy : X.N[i]? = some y) (hb : setLcB X.env.scope y py scope pos = true)
    (hi : PI X tgE iterE (tI S W fi)) (ok : BlkOk X.N X.env.scope scope own)
    (hg : ∀ (s : Shared) (H : Hp) (C : Addr) (cl : List (Str × Addr)) (fp : List Addr), PG (X.blk s H scope (compEnvC scope cl C X.env) fp) tgE (gR S tg))
    (ht : ∀ (s : Shared) (H : Hp) (C : Addr) (cl : List (Str × Addr)) (fp : List Addr), PTs (X.blk s H scope (compEnvC scope cl C X.env) fp) ifs (tT S W0 (condGo cs)))
    (he : ∀ (s : Shared) (H : Hp) (C : Addr) (cl : List (Str × Addr)) (fp : List Addr), PE (X.blk s H scope (compEnvC scope cl C X.env) fp) elt (tR S W0 fe))
    (hs : ∀ x, foldedSetIterable iterE X.env x = pure x) (hsl : ∀ i ∈ slots tg, i ∈ own.map (·.2)) :
    PS X (.Assign [.Name y py] (.ListComp elt [⟨tgE, iterE, ifs, 0⟩] scope pos) spos) (tS S W fun f m => SR.of (compF (own.map (·.2)) tg fi cs fe f m) f fun d m1 => match tgD (.nm i) d f with | some f1 => .nx f1 m1 | none => .bad) := by
  unfold setLcB at hb
  simp only [Bool.and_eq_true, Bool.not_eq_true'] at hb
  obtain ⟨⟨h1, h2⟩, h3⟩ := hb
  have hl : X.env.scope.names.lookup y = some .local := by
    split at h1
    · assumption
    · cases h1
  refine PS.imp (ps_setLc hc hN hy hl (sw_true hk hl h2 h3) hi ok hg ht he hs) fun D σ H ⟨ow0, io0, H0, ow, io, f, m, rs, p⟩ => ?_
  refine comp_imp (S := S) (W := W) hsl ⟨ow, io, f, m, rs.r, p.seq rs fun d m1 io1 H1 v x1 r1 v1 p1 => ?_⟩
  have e : tgD (.nm i) d f = some (f.set i (some (.val d))) := by unfold tgD; rfl
  rw [e] at p1
  have off : Off (slots (.nm i)) σ (σ.set i (some v)) := ⟨List.length_set, fun j hj => by
    unfold slots at hj
    rw [List.getElem?_set_ne (fun e => hj (by rw [e]; exact List.mem_singleton.mpr rfl))]⟩
  exact p1 ow io1 H1 _ (.refl _ _ _) (r1.asg e (r1.r.f.set (d := .val d) v1) off)
/-! ### the turning of statements -/
def cSs (T : Tb) (shr : Bool) : Nat → Cc → List Stmt → Option (List St)
  | 0, _, _ => none
  | _ + 1, _, [] => some []
  | n + 1, c, s :: r => match cSs T shr n c r with
    | none => none
    | some r' => (match s with
      | .Return none _ => some St.retN
      | .Return (some (.List es _)) _ => if es.all nst = true then (mapO (cE T n c) es).map fun ms => if shr = true then .retS (.lst ms) else .ret (.lst ms) else none
      | .Return (some e) _ => (cE T n c e).map .ret
      | .Pass _ => some .pas
      | .Break _ => some .brk
      | .Continue _ => some .cnt
      | .Expr e _ => if isComp e = true then none else (cE T n c e).map .exp
      | .If t a b _ => if tOk n t = true then (match cE T n c t, cSs T shr n c a, cSs T shr n c b with
        | some t, some a, some b => some (.ife t a b)
        | _, _, _ => none) else none
      | .While t a [] _ => if tOk n t = true then (match cE T n c t, cSs T shr n c a with
        | some t, some a => some (.whl t a)
        | _, _ => none) else none
      | .For tg it b [] _ => if setE it = true then none else (match cTg c n tg, cIt c (cE T n c) tg it, cSs T shr n c b with
        | some t, some i, some b => some (.for_ t i b)
        | _, _, _ => none)
      | .Raise (some (.Call (.Name x _) args [] _)) none _ => if (glB c.sc x && args.all nst) = true then (match fnIx T.xc x args.length, mapO (cE T n c) args with
        | some C, some ms => some (.rais C ms)
        | _, _ => none) else none
      | .Assign [.Subscript a i _] e _ => if (nsl i && !isComp e) = true then (match cE T n c e, cE T n c a, cE T n c i with
        | some e, some a, some i => some (.setX a i e)
        | _, _, _ => none) else none
      | .Assign [.Name y py] (.ListComp elt [⟨tg, it, ifs, 0⟩] scope pos) _ => if setLcB c.sc y py scope pos = true then (match ixOf c.N y, cE T (n + 1) c (.ListComp elt [⟨tg, it, ifs, 0⟩] scope pos) with
        | some i, some m => some (.asg (.nm i) m)
        | _, _ => none) else if swsB c.sc (.Name y py) (.ListComp elt [⟨tg, it, ifs, 0⟩] scope pos) = true then (match cTg c (n + 1) (.Name y py), cE T (n + 1) c (.ListComp elt [⟨tg, it, ifs, 0⟩] scope pos) with
        | some t, some m => some (.asg t m)
        | _, _ => none) else none
      | .Assign [.Tuple [.Name x px, .Name y py] _ _] (.Tuple [e1, e2] _ _) _ => if sw2B c.sc x px y py e1 e2 = true then (match ixOf c.N x, ixOf c.N y, cE T n c e1, cE T n c e2 with
        | some i, some j, some a, some b => if i ≠ j then some (.asg (.tup [.nm i, .nm j]) (.tup [a, b])) else none
        | _, _, _, _ => none)
        else if (nst e1 && nst e2 && swNB c.sc (.Tuple [.Name x px, .Name y py] 0 px) (.Tuple [e1, e2] 0 px)) = true then (match cTg c n (.Tuple [.Name x px, .Name y py] 0 px), cE T n c e1, cE T n c e2 with
        | some t, some a, some b => some (.asg t (.tup [a, b]))
        | _, _, _ => none) else none
      | .Assign [t] e _ => if (swsB c.sc t e && nst t && swNB c.sc t e) = true then (match cTg c n t, cE T n c e with
        | some t, some m => some (.asg t m)
        | _, _ => none) else none
      | _ => none).map (· :: r')
end
end Mp
end
section
set_option Elab.async false
set_option linter.all false
set_option maxRecDepth 100000
set_option maxHeartbeats 8000000
/-! MpCompV: the turning of statements is right. -/
namespace Mp
open PySem PySem.Spec PyProof.Rows L2

section
variable {T : Tb} {G : Gt} {k : Nat} {S : Sta} {mkx : Nat → List Mp.D → Option Exn} {shr : Bool}
def XcOk (T : Tb) (S : Sta) (mkx : Nat → List Mp.D → Option Exn) : Prop := ∀ x n C, fnIx T.xc x n = some C →
  (n = 0 ∧ ∃ tagN z, Xk S x C 0 (fun _ => [(S.nm tagN, .str z)]) ∧ mkx C [] = some ⟨C, [tagN], [.str z]⟩) ∨
  (n = 1 ∧ ∃ fldN tagN z, Xk S x C 1 (fun ws => [(S.nm fldN, ws.headD .non), (S.nm tagN, .str z)]) ∧ ∀ d, mkx C [d] = some ⟨C, [fldN, tagN], [d, .str z]⟩)
structure GoodS (T : Tb) (G : Gt) (mkx : Nat → List Mp.D → Option Exn) (k : Nat) (c : Cc) (X : Cx) (S : Sta) (W : WX) : Prop extends Good T G k c X S W where
  po : PassesOwn (model X.prog X.w) X.A X.env X.xe
  two : 2 ≤ k
  xc : XcOk T S mkx
theorem GoodS.kd {c : Cc} {X : Cx} {W : WX} (g : GoodS T G mkx k c X S W) : X.env.scope.kind = .function := by rw [g.sc]; exact g.kind
theorem sole {t e : Expr} {l : Nat} {env : Env} (h : isComp e = false) : swapsWithSole [t] e l env = pure false := sw_comp h
theorem set_fold {it : Expr} {env : Env} (h : ¬ setE it = true) : ∀ x, foldedSetIterable it env x = pure x := fun x => by
  cases it <;> first | rfl | exact absurd rfl h
theorem asg1 {t : Expr} {env : Env} (h : nst t = true) : (assignEach [t] env).map (·.2) = [assign t env] := by
  rw [asg_ns h]
  rfl
theorem ex_for (t : Tg) (i : E) (b : List St) : ex G mkx (.for_ t i b) = fun f m => SR.of (itF (ev G i) f m) f fun xs m1 => forS t (exs G mkx b) xs f m1 := by
  funext f m
  show SR.of (ev G i f m) f _ = SR.of ((ev G i f m).bind _) f _
  cases ev G i f m with
  | ok d m1 =>
    simp only [R.ok_bind, SR.of_ok]
    cases itemsD d with
    | none => rfl
    | some xs => rfl
  | exc x m1 => rfl
  | bad => rfl
theorem cS_ok : ∀ n, ∀ (c : Cc) (b : List Stmt) (m : List St), cSs T shr n c b = some m → ∀ (X : Cx) (W : WX), GoodS T G mkx k c X S W → PSs X b (tS S W (exs G mkx m))
  | 0 => fun c b m h => by unfold cSs at h; cases h
  | n + 1 => fun c b m h X W g => by
    have ih := cS_ok n
    have ihe : IH T G k S n := cE_ok n
    have ihe1 : IH T G k S (n + 1) := cE_ok (n + 1)
    have gg : Good T G k c X S W := g.toGood
    unfold cSs at h
    split at h
    · rename_i heq; cases heq
    · cases h; exact ss_nil
    · rename_i n' s r heq
      cases heq
      split at h
      · cases h
      · rename_i r' hr
        obtain ⟨st, h1, rfl⟩ := Option.map_eq_some_iff.mp h
        have rest := ih _ r r' hr X W g
        suffices hs : PS X s (tS S W (ex G mkx st)) from ss_cons hs rest
        clear h rest hr
        split at h1
        · -- return
          cases h1; exact ss_retN
        · -- return [..]
          rename_i es lp p
          split at h1
          · rename_i hn
            obtain ⟨ms, h2, rfl⟩ := Option.map_eq_some_iff.mp h1
            cases shr with
            | true =>
              rw [if_pos rfl]
              exact ss_retS (paO ihe gg h2 hn)
            | false =>
              rw [if_neg (by decide)]
              exact ss_ret (se_lst (paO ihe gg h2 hn))
          · cases h1
        · -- return e
          rename_i e p y1
          obtain ⟨m', h2, rfl⟩ := Option.map_eq_some_iff.mp h1
          exact ss_ret (ihe _ e m' h2 X W gg).1
        · cases h1; exact ss_pass
        · cases h1; exact ss_break
        · cases h1; exact ss_cont
        · -- expr
          rename_i e p
          split at h1
          · cases h1
          · rename_i hc
            obtain ⟨m', h2, rfl⟩ := Option.map_eq_some_iff.mp h1
            exact ss_exp (ihe _ e m' h2 X W gg).1 (sw_comp (by simpa using hc))
        · -- if
          rename_i t a b p
          split at h1
          · rename_i ht
            split at h1
            · rename_i t' a' b' h2 h3 h4
              cases h1
              exact ss_if ((ihe _ t t' h2 X W gg).2 ht) (ih _ a a' h3 X W g) (ih _ b b' h4 X W g)
            · cases h1
          · cases h1
        · -- while
          rename_i t a p
          split at h1
          · rename_i ht
            split at h1
            · rename_i t' a' h2 h3
              cases h1
              exact ss_while g.po ((ihe _ t t' h2 X W gg).2 ht) (ih _ a a' h3 X W g)
            · cases h1
          · cases h1
        · -- for
          rename_i tg it b p
          split at h1
          · cases h1
          · rename_i hse
            split at h1
            · rename_i t i b' h2 h3 h4
              cases h1
              rw [ex_for]
              exact ss_for g.po g.calm (it_ok ihe gg h3) (tg_ok gg _ h2) (ih _ b b' h4 X W g) (set_fold hse)
            · cases h1
        · -- raise
          rename_i x p args q p2
          split at h1
          · rename_i hc
            rw [Bool.and_eq_true] at hc
            obtain ⟨hg, hn⟩ := hc
            obtain ⟨q1, q2⟩ := glB_ok g.sc hg
            split at h1
            · rename_i C ms h2 h3
              cases h1
              have r2 : Room 2 X.A := g.room.mono g.two
              rcases g.xc _ _ _ h2 with ⟨e0, tagN, z, xk, hm⟩ | ⟨e0, fldN, tagN, z, xk, hm⟩
              · have : args = [] := List.eq_nil_of_length_eq_zero e0
                subst this
                unfold mapO at h3
                cases h3
                have e := ss_raise0 (pos := q) (pos' := p2) (p := p) g.ov xk r2 g.calm g.tk q1 q2
                refine PS.imp e fun D σ H h => ?_
                obtain ⟨ow0, io0, H0, ow, io, f, m, rs, pp⟩ := h
                refine ⟨ow0, io0, H0, ow, io, f, m, rs, ?_⟩
                have pp : PostS S W ow0 io0 H0 ow io H D (match mkx C [] with | some x => .ex x f m | none => .bad) := pp
                rw [hm] at pp
                exact pp
              · obtain ⟨a, rfl⟩ : ∃ a, args = [a] := by
                  match args, e0 with
                  | [a], _ => exact ⟨a, rfl⟩
                rw [List.all_cons, Bool.and_eq_true] at hn
                have e := ss_raise1 (pos := q) (pos' := p2) (p := p) g.ov xk r2 g.calm g.tk q1 (paO ihe gg h3 (by rw [List.all_cons, Bool.and_eq_true]; exact hn)) hn.1 q2
                refine PS.imp e fun D σ H h => ?_
                obtain ⟨ow0, io0, H0, ow, io, f, m, rs, pp⟩ := h
                refine ⟨ow0, io0, H0, ow, io, f, m, rs, ?_⟩
                have pp : PostS S W ow0 io0 H0 ow io H D (SR.of (evs G ms f m) f fun ds m1 => match mkx C ds with | some x => .ex x f m1 | none => .bad) := pp
                dsimp only
                cases q3 : evs G ms f m with
                | bad => rw [q3] at pp; exact pp
                | exc x m1 => rw [q3] at pp; exact pp
                | ok ds m1 =>
                  rw [q3] at pp
                  rw [SR.of_ok] at pp ⊢
                  have hl := evs_len q3
                  rw [mapO_len h3] at hl
                  match ds, hl with
                  | [d], _ =>
                    dsimp only at pp ⊢
                    rw [hm d] at pp
                    exact pp
            · cases h1
          · cases h1
        · -- a[i] = e
          rename_i a i p e p2
          split at h1
          · rename_i hc
            rw [Bool.and_eq_true] at hc
            split at h1
            · rename_i e' a' i' h2 h3 h4
              cases h1
              have hcm : isComp e = false := by simpa using hc.2
              exact ss_setX hc.1 (ihe _ e e' h2 X W gg).1 (ihe _ a a' h3 X W gg).1 (ihe _ i i' h4 X W gg).1 (sole hcm) (sw_none (by cases e <;> rfl) g.kd) rfl
            · cases h1
          · cases h1
        · -- name = [..]
          rename_i y py elt tg it ifs scope pos spos
          split at h1
          · rename_i hb
            split at h1
            · rename_i i m' h2 h3
              cases h1
              rw [cE] at h3
              split at h3
              · rename_i hb2
                rw [Bool.and_eq_true] at hb2
                split at h3
                · rename_i own t i' el k1 k2 k3 k4
                  split at h3
                  · rename_i hs
                    have hset : ∀ x, foldedSetIterable it X.env x = pure x := set_fold (by simpa using hb2.2)
                    have hkind : scope.kind = .function := by
                      have := hb2.1
                      unfold blkB at this
                      simp only [Bool.and_eq_true, decide_eq_true_eq] at this
                      exact this.1.1
                    have hsl : ∀ j ∈ slots t, j ∈ own.map (·.2) := fun j hj => by
                      rw [List.all_eq_true] at hs
                      simpa using hs j hj
                    have bg := fun s H C cl fp => blk_good (scope := scope) gg hkind s H C cl fp
                    have main : ∀ {cs : List E}, (∀ (s : Shared) (H : Hp) (C : Addr) (cl : List (Str × Addr)) (fp : List Addr), PTs (X.blk s H scope (compEnvC scope cl C X.env) fp) ifs (tT S W0 (condGo (evc G cs)))) →
                        PS X (.Assign [.Name y py] (.ListComp elt [⟨tg, it, ifs, 0⟩] scope pos) spos) (tS S W (ex G mkx (.asg (.nm i) (.comp (own.map (·.2)) t i' cs el)))) := fun {cs} ht => by
                      have e := ss_setLc (spos := spos) g.calm g.nd g.kd (by rw [g.N]; exact ixOf_get h2) (by rw [g.sc]; exact hb) (it_ok ihe gg k3) (by rw [g.N, g.sc]; exact blk_ok hb2.1 k1) (fun s H C cl fp => tg_ok (bg s H C cl fp) _ k2) ht (fun s H C cl fp => (ihe _ elt el k4 _ _ (bg s H C cl fp)).1) hset hsl
                      rw [← ev_comp] at e
                      exact e
                    split at h3
                    · cases h3
                      exact main fun s H C cl fp => PTs_nil
                    · rename_i gq
                      split at h3
                      · rename_i hto
                        obtain ⟨gm, k5, rfl⟩ := Option.map_eq_some_iff.mp h3
                        exact main fun s H C cl fp => pts_ok ((ihe _ gq gm k5 _ _ (bg s H C cl fp)).2 hto)
                      · cases h3
                    · cases h3
                  · cases h3
                · cases h3
              · cases h3
            · cases h1
          · split at h1
            · rename_i hc
              split at h1
              · rename_i t' m' h2 h3
                cases h1
                exact ss_asg (cE_ok (n + 1) _ _ m' h3 X W gg).1 (tg_ok gg _ h2) (sws_ok g.sc hc) (sw_none rfl g.kd) rfl
              · cases h1
            · cases h1
        · -- x, y = a, b
          rename_i x px y py kt pt e1 e2 k2 p2 p3
          split at h1
          · rename_i hb
            split at h1
            · rename_i i j a b h2 h3 h4 h5
              split at h1
              · rename_i hij
                cases h1
                have hb' := hb
                unfold sw2B at hb'
                simp only [Bool.and_eq_true, Bool.not_eq_true', beq_iff_eq] at hb'
                obtain ⟨⟨⟨⟨⟨⟨⟨z1, z2⟩, z3⟩, z4⟩, z5⟩, z6⟩, z7⟩, z8⟩ := hb'
                have hA : PA X [e1, e2] (tRs S W (evsF [ev G a, ev G b])) := sa_cons (ihe _ e1 a h4 X W gg).1 (sa_cons (ihe _ e2 b h5 X W gg).1 sa_nil (starEach_ns z6)) (starEach_ns z5)
                have e := ss_par (kt := kt) (pt := pt) (k2 := k2) (pt2 := p2) (pos := p3) g.calm g.nd (by rw [g.N]; exact ixOf_get h2) (by rw [g.N]; exact ixOf_get h3) hij (by rw [g.sc]; exact z1) (by rw [g.sc]; exact z2) hA (sw_two hb g.sc g.kd) (sole rfl)
                exact e
              · cases h1
            · cases h1
          · split at h1
            · rename_i hc
              simp only [Bool.and_eq_true] at hc
              obtain ⟨⟨c1, c2⟩, c3⟩ := hc
              split at h1
              · rename_i t a b h2 h3 h4
                cases h1
                have hA : PA X [e1, e2] (tRs S W (evsF [ev G a, ev G b])) := sa_cons (ihe _ e1 a h3 X W gg).1 (sa_cons (ihe _ e2 b h4 X W gg).1 sa_nil (starEach_ns c2)) (starEach_ns c1)
                have hE : SE X S W (.Tuple [e1, e2] k2 p2) (ev G (.tup [a, b])) := se_tup hA
                have hG : PG X (.Tuple [.Name x px, .Name y py] kt pt) (gR S t) := by
                  cases n with
                  | zero => unfold cTg at h2; cases h2
                  | succ n =>
                    unfold cTg at h2
                    obtain ⟨ts, k1, rfl⟩ := Option.map_eq_some_iff.mp h2
                    obtain ⟨q1, q2, q3⟩ := tgs_ok gg n k1
                    exact sg_tup g.ov g.calm q1 q2 q3
                exact ss_asg hE hG (sole rfl) (sw_none (by rw [g.sc]; exact c3) g.kd) rfl
              · cases h1
            · cases h1
        · -- t = e
          rename_i t e p y1 y2 y3
          split at h1
          · rename_i hc
            simp only [Bool.and_eq_true, Bool.not_eq_true'] at hc
            obtain ⟨⟨c1, c2⟩, c3⟩ := hc
            split at h1
            · rename_i t' m' h2 h3
              cases h1
              exact ss_asg (ihe _ e m' h3 X W gg).1 (tg_ok gg _ h2) (sws_ok g.sc c1) (sw_none (by rw [g.sc]; exact c3) g.kd) (asg1 c2)
            · cases h1
          · cases h1
        · cases h1
end
end Mp
end
section
set_option Elab.async false
set_option linter.all false
set_option maxRecDepth 100000
set_option maxHeartbeats 4000000
/-! MpHead: what the layer asks of the text's top, read by a Hook. -/
namespace Mp
open PySem PySem.Spec PyProof.Rows L2

abbrev Frag := PySem.W.Frag
/-! ### tables of lambdas' makers -/
def codeAd (K : Frag) (p : Str × Option Str) : Addr := match K.lookup (He.fAd K p) with
  | some ⟨_, _, .func fd, _⟩ => (match fd.code with
    | .ref c => c
    | _ => 0)
  | _ => 0
def tabAd (K : Frag) (p : Str × Option Str) : Addr := match K.lookup (codeAd K p) with
  | some ⟨_, _, .fields vs, _⟩ => (match vs.getD 11 .none with
    | .ref P => P
    | _ => 0)
  | _ => 0
def codeHdB (K : Frag) (c P : Addr) : Bool := match K.lookup c with
  | some ⟨.type t, _, .fields vs, _⟩ => decide (t = "code") && decide (vs[11]? = some (.ref P)) && decide (vs.getD 11 .none = .ref P) && (match vs.getD 18 .none with | .str _ _ => true | _ => false) && (match vs.getD 7 .none with | .int _ _ => true | _ => false) &&
      (match vs.getD 9 .none with | .bool _ => true | _ => false) && (match vs.getD 10 .none with | .int _ _ => true | _ => false) && decide (c ≠ P)
  | _ => false
theorem codeHdB_ok {K : Frag} {h : Heap} (X : K.In h) {c P : Addr} (e : codeHdB K c P = true) : PySem.W.CodeHd h c P := by
  unfold codeHdB at e
  split at e
  · rename_i t dd vs sl q
    simp only [Bool.and_eq_true, decide_eq_true_eq] at e
    obtain ⟨⟨⟨⟨⟨⟨⟨e1, e2⟩, e3⟩, e4⟩, e5⟩, e6⟩, e7⟩, e8⟩ := e
    split at e4
    · rename_i file tf q4
      split at e5
      · rename_i flags tg q5
        split at e6
        · rename_i inF q6
          split at e7
          · rename_i text tt q7
            exact ⟨_, vs, file, tf, flags, tg, inF, text, tt, X _ _ q, congrArg Value.type e1, rfl, e2, e3, q4, q5, q6, q7, e8⟩
          · cases e7
        · cases e6
      · cases e5
    · cases e4
  · cases e
def tabB0 (K : Frag) (P : Addr) : Bool := match K.lookup P with
  | some ⟨.none, none, .fields vs, sl⟩ => decide (vs = #[]) && decide (sl = #[])
  | _ => false
theorem tabB0_ok {K : Frag} {h : Heap} (X : K.In h) {P : Addr} (e : tabB0 K P = true) : h.get? P = some { cls := .none, data := .fields #[] } := by
  unfold tabB0 at e
  split at e
  · rename_i vs sl q
    rw [Bool.and_eq_true, decide_eq_true_eq, decide_eq_true_eq] at e
    obtain ⟨rfl, rfl⟩ := e
    exact X _ _ q
  · cases e
def tabsB (lam : List (Str × Option Str)) (K : Frag) : Bool := lam.all fun p => codeHdB K (codeAd K p) (tabAd K p) && tabB0 K (tabAd K p)
/-- the written part without the tables -/
def cutK (lam : List (Str × Option Str)) (K : Frag) : Frag := K.filter fun p => !((lam.map (tabAd K)).contains p.1)
theorem lookup_filter {K : Frag} {f : Addr → Bool} {a : Addr} : (K.filter fun p => f p.1).lookup a = if f a = true then K.lookup a else none := by
  induction K with
  | nil => cases f a <;> rfl
  | cons p r ih =>
    obtain ⟨b, o⟩ := p
    rw [List.filter_cons]
    by_cases hb : f b = true
    · rw [if_pos hb]
      by_cases h : a = b
      · subst h
        simp [List.lookup, hb]
      · have e : (a == b) = false := by simpa using h
        simp only [List.lookup, e]
        exact ih
    · rw [if_neg hb, ih]
      by_cases h : a = b
      · subst h
        rw [if_neg hb, if_neg hb]
      · have e : (a == b) = false := by simpa using h
        simp only [List.lookup, e]
theorem cut_lookup {lam : List (Str × Option Str)} {K : Frag} {a : Addr} : (cutK lam K).lookup a = if (!((lam.map (tabAd K)).contains a)) = true then K.lookup a else none := lookup_filter (f := fun a => !((lam.map (tabAd K)).contains a))
theorem cut_in {lam : List (Str × Option Str)} {K : Frag} {h : Heap} (X : K.In h) : (cutK lam K).In h := fun a o e => by
  rw [cut_lookup] at e
  split at e
  · exact X _ _ e
  · cases e
theorem cut_no {lam : List (Str × Option Str)} {K : Frag} {p : Str × Option Str} (hp : p ∈ lam) : (cutK lam K).lookup (tabAd K p) = none := by
  rw [cut_lookup, if_neg]
  simp only [Bool.not_eq_true', Bool.not_eq_false]
  have : tabAd K p ∈ lam.map (tabAd K) := List.mem_map_of_mem hp
  simpa using this
/-! ### an __init__ that closes over its class -/
abbrev FnC : Type := Option (Str × Str × Arguments × FuncBody × Scope × Addr × List Str × Addr)
def fnC (K : Frag) (p : Str × Option Str) : FnC := match K.lookup (He.fAd K p) with
  | some ⟨_, _, .func fd, _⟩ => some (fd.name, fd.qualname, fd.params, fd.body, fd.scope, fd.globals, fd.closure.map (·.1), fd.builtins)
  | _ => none
structure IniD where
  cls : Str
  qual : Str
  params : Arguments
  body : List Stmt
  scope : Scope
def IniD.val (d : IniD) : FnC := some ("__init__", d.qual, d.params, .stmts d.body, d.scope, mainGlobals, ["__class__"], builtinsNs)
def cellAd (K : Frag) (p : Str × Option Str) : Addr := match K.lookup (He.fAd K p) with
  | some ⟨_, _, .func fd, _⟩ => (match fd.closure with
    | (_, c) :: _ => c
    | _ => 0)
  | _ => 0
/-- the class at C is laid as an exception's -/
def oexB (K : Frag) (C : Addr) : Bool := match K.lookup C with
  | some ⟨.type t, _, .cls cd, sl⟩ => decide (t = "type") && cd.hasDict && !cd.hasDel && (match cd.mro, sl.toList with
    | .ref C' :: bm, [_, _, _, _, some (.builtin n), _] => decide (C' = C) && decide (n = "ValueError.__new__") && PySem.HandSPX.refsVE bm
    | _, _ => false)
  | _ => false
theorem oexB_ok {K : Frag} {C : Addr} (e : oexB K C = true) : ∃ nm q N bs bm sn sub ab col dd k0 k1 k2 k3 k5, K.lookup C = some (excClassObj nm q C N bs bm true sn sub ab col dd k0 k1 k2 k3 k5 "ValueError.__new__") ∧ PySem.HandSPX.refsVE bm = true := by
  unfold oexB at e
  split at e
  · rename_i t dd cd sl q
    simp only [Bool.and_eq_true, decide_eq_true_eq, Bool.not_eq_true'] at e
    obtain ⟨⟨⟨e1, e2⟩, e3⟩, e4⟩ := e
    split at e4
    · rename_i C' bm k0 k1 k2 k3 n k5 hm hs
      simp only [Bool.and_eq_true, decide_eq_true_eq] at e4
      obtain ⟨⟨rfl, rfl⟩, e6⟩ := e4
      obtain ⟨nm, bs, mro, ns, qn, hd, sn, sub, ab, col, del⟩ := cd
      dsimp only at hm e2 e3
      subst hm e2 e3 e1
      have hsl : sl = #[k0, k1, k2, k3, some (.builtin "ValueError.__new__"), k5] := by
        rw [← Array.toArray_toList (xs := sl), hs]
      subst hsl
      exact ⟨nm, qn, ns, bs, bm, sn, sub, ab, col, dd, k0, k1, k2, k3, k5, q, e6⟩
    · cases e4
  · cases e
def iniB (K : Frag) (C : Addr) (file qual : Str) (f : Addr) : Bool := match K.lookup f with
  | some ⟨_, _, .func fd, _⟩ => (match fd.code, fd.closure with
    | .ref cda, [(_, cc)] => PySem.W.codeIn K (.ref cda) qual && (match K.lookup cda with
      | some ⟨_, _, .fields vs, _⟩ => (match (vs[2]? : Option Value) with
        | some (Value.str z _) => decide (z = file)
        | _ => false)
      | _ => false) && (match K.lookup cc with
      | some ⟨_, _, .cell (some (.ref C')), _⟩ => decide (C' = C)
      | _ => false) && decide (fd.defaults = .none)
    | _, _ => false)
  | _ => false
def xcB (K : Frag) (file : Str) (ns : List Str) (d : IniD) : Bool :=
  decide (PySem.W.nsIn K mainGlobals d.cls = some (some (.ref (He.ga K d.cls)))) && oexB K (He.ga K d.cls) && decide (PySem.W.findIn K (.ref (He.ga K d.cls)) "__setattr__" = some (some (.builtin "object.__setattr__"))) &&
  decide (PySem.W.subIn K (.ref (He.ga K d.cls)) (.type "BaseException") = some true) && decide (PySem.W.subIn K (.ref (He.ga K d.cls)) (.type "ValueError") = some true) && decide (PySem.W.typeIn K (.ref (He.ga K d.cls)) = some (.type "type")) &&
  PySem.W.keepIn K (.ref (He.ga K d.cls)) && decide (PySem.W.findIn K (.ref (He.ga K d.cls)) "__init__" = some (some (.ref (He.ma K (He.ga K d.cls) "__init__")))) && decide (PySem.W.typeIn K (.ref (He.ma K (He.ga K d.cls) "__init__")) = some (.type "function")) &&
  decide (PySem.W.ks_superIn K (He.ga K d.cls) (He.ga K d.cls) "__init__" = some (some (.builtin "ValueError.__init__"))) && decide (PySem.W.nsIn K PySem.cStatics "thirdparty.any" = some none) && decide (PySem.W.mroIn K (He.ga K d.cls) (.ref (He.ga K d.cls)) = some true) &&
  (ns.all fun n => decide (PySem.W.findIn K (.ref (He.ga K d.cls)) n = some none)) && iniB K (He.ga K d.cls) file d.qual (He.ma K (He.ga K d.cls) "__init__")
structure XcAll (P : Program) (K : Frag) (ns : List Str) (d : IniD) (f cc cda : Addr) : Prop where
  glo : PySem.W.nsIn K mainGlobals d.cls = some (some (.ref (He.ga K d.cls)))
  oex : OexC K (He.ga K d.cls)
  ini : PySem.W.findIn K (.ref (He.ga K d.cls)) "__init__" = some (some (.ref f))
  tyI : PySem.W.typeIn K (.ref f) = some (.type "function")
  no : ∀ n ∈ ns, PySem.W.findIn K (.ref (He.ga K d.cls)) n = some none
  fn : ∃ oc od kV doc pm an ct osl, K.lookup f = some ⟨oc, od, .func (PySem.W.ksFn "__init__" d.qual d.params d.body d.scope .none kV doc pm an (.ref cda) ct cc), osl⟩
  xcf : XcF P K (He.ga K d.cls) f cc cda "__init__" d.qual d.params d.body d.scope
theorem xc_ok {P : Program} {K : Frag} {file : Str} {ns : List Str} {d : IniD} (e : fnC K (d.cls, some "__init__") = d.val) (c : xcB K file ns d = true) (hfile : ((P.main.file : Str) == file) = true) (ht : ("tag" : Str) ∈ ns) : ∃ f cc cda, XcAll P K ns d f cc cda := by
  unfold xcB at c
  simp only [Bool.and_eq_true, decide_eq_true_eq, List.all_eq_true] at c
  obtain ⟨⟨⟨⟨⟨⟨⟨⟨⟨⟨⟨⟨⟨c1, c2⟩, c3⟩, c4⟩, c5⟩, c6⟩, c7⟩, c8⟩, c9⟩, c10⟩, c11⟩, c12⟩, c13⟩, c14⟩ := c
  unfold iniB at c14
  split at c14
  rotate_left
  · cases c14
  rename_i oc od fd osl q
  unfold fnC at e
  have q' : K.lookup (He.fAd K (d.cls, some "__init__")) = some ⟨oc, od, .func fd, osl⟩ := q
  rw [q'] at e
  obtain ⟨n1, n2, n3, n4, n5, n6, n7, n8, n9, n10, n11, n12, n13, n14, n15⟩ := fd
  have e2 : (some (n1, n2, n3, n4, n5, n6, n7.map (·.1), n15) : FnC) = some (("__init__" : Str), d.qual, d.params, FuncBody.stmts d.body, d.scope, mainGlobals, [("__class__" : Str)], builtinsNs) := e
  simp only [Option.some.injEq, Prod.mk.injEq] at e2
  obtain ⟨h1, h2, h3, h4, h5, h6, h7, h8⟩ := e2
  dsimp only at c14
  split at c14
  rotate_left
  · cases c14
  rename_i cda x cc
  have h7 : [x] = [("__class__" : Str)] := by simpa using h7
  cases h7
  subst h1 h2 h3 h4 h5 h6 h8
  simp only [Bool.and_eq_true] at c14
  obtain ⟨⟨⟨d1, d2⟩, d3⟩, d4⟩ := c14
  rw [decide_eq_true_eq] at d4
  have d4 : n8 = .none := d4
  subst d4
  have fnE : ∃ oc od kV doc pm an ct osl, K.lookup (He.ma K (He.ga K d.cls) "__init__") = some ⟨oc, od, .func (PySem.W.ksFn "__init__" d.qual d.params d.body d.scope .none kV doc pm an (.ref cda) ct cc), osl⟩ := ⟨oc, od, n9, n10, n11, n12, n14, osl, q⟩
  refine ⟨He.ma K (He.ga K d.cls) "__init__", cc, cda, c1, ⟨oexB_ok c2, c3, c4, c6, c7⟩, c8, c9, c13, fnE, ⟨oexB_ok c2, c3, c4, c5, c6, c7, c8, c9, c10, c11, (let ⟨a1, a2, a3, a4, a5, a6, a7, a8, a9⟩ := fnE; ⟨a1, a2, .none, a3, a4, a5, a6, a7, a8, a9⟩), d1, ?_, ?_, c12, c13 _ ht⟩⟩
  · split at d2
    · rename_i oc2 od2 vs sl2 q2
      split at d2
      · rename_i z tf q3
        rw [decide_eq_true_eq] at d2
        exact ⟨oc2, od2, vs, sl2, z, tf, q2, q3, by rw [d2]; exact hfile⟩
      · cases d2
    · cases d2
  · split at d3
    · rename_i oc2 od2 C' sl2 q2
      rw [decide_eq_true_eq] at d3
      rw [d3] at q2
      exact ⟨oc2, od2, sl2, q2⟩
    · cases d3
end Mp
end
section
set_option Elab.async false
set_option linter.all false
set_option maxRecDepth 100000
set_option maxHeartbeats 4000000
/-! MpHead2: own exception classes from the top. -/
namespace Mp
open PySem PySem.Spec PyProof.Rows L2

/-- what the line numbers of super().__init__(z) say (by rfl at each class) -/
def IniW (qual : Str) (scope : Scope) : List Stmt → Prop
  | .Expr (.Call (.Attribute o name apos) args [] pos) _ :: _ => ∀ (L f cda cc : Addr), ∃ pl, eval (.Call (.Attribute o name apos) args [] pos) (PySem.W.ksEnv qual scope L f (.ref cda) cc) = (do
        let ov ← attributeBase o name (PySem.W.ksEnv qual scope L f (.ref cda) cc) (eval o (PySem.W.ksEnv qual scope L f (.ref cda) cc))
        standAt apos.atName
        let (fv, first) ← holding [ov] (getMethod ov name pl)
        callWith pos fv first (backTo pos (starEach args (PySem.W.ksEnv qual scope L f (.ref cda) cc))) [])
  | _ => False
theorem xcw_of {qual : Str} {scope : Scope} {f cda cc : Addr} {z tag : Str} {p0 p1 p2 p3 p4 p5 p7 p9 : Pos} {j1 j2 : Nat} {p6 p8 : Pos} {more : List Stmt} (hk : scope.kind = .function) (hw : IniW qual scope (initB z p0 p1 p2 p3 p4 p5 p6 p7 p8 p9 j1 j2 tag more)) : XcW qual scope f cda cc z tag p0 p1 p2 p3 p4 p5 p7 p9 j1 j2 p6 p8 where
  hev := fun L => hw L f cda cc
  hint := fun L => by
    unfold interactive
    rw [show (PySem.W.ksEnv qual scope L f (.ref cda) cc).scope.kind = .function from hk]
    rfl
  hsw := fun L => rfl
  hs := fun L => rfl
def iniDec : List Stmt → Option (Str × Str × Option (Str × Str))
  | [.Expr (.Call (.Attribute (.Call (.Name s1 _) [] [] _) ini _) [.Constant (.str z) _ _] [] _) _, .Assign [.Attribute (.Name s2 _) tag _] (.Constant (.str z2) _ _) _] => if s1 = "super" ∧ ini = "__init__" ∧ s2 = "self" ∧ z2 = z then some (z, tag, none) else none
  | [.Expr (.Call (.Attribute (.Call (.Name s1 _) [] [] _) ini _) [.Constant (.str z) _ _] [] _) _, .Assign [.Attribute (.Name s2 _) tag _] (.Constant (.str z2) _ _) _, .Assign [.Attribute (.Name s3 _) fld _] (.Name y _) _] =>
    if s1 = "super" ∧ ini = "__init__" ∧ s2 = "self" ∧ z2 = z ∧ s3 = "self" then some (z, tag, some (fld, y)) else none
  | _ => none
def xcsB (file : Str) (params : Arguments) (scope : Scope) : Bool :=
  decide ((params.posonlyargs ++ params.args).head?.map (·.arg) = some "self") && decide (scope.names.lookup ("super" : Str) = some .globalImplicit) && decide (scope.names.lookup ("__class__" : Str) = some .free) && decide (scope.names.lookup ("self" : Str) = some .local) &&
  decide (scope.kind = .function) && !scope.isCoroutine && !scope.isGenerator && scope.names.all fun x => !decide (x.2 = .cell)
theorem xcs_ok {P : Program} {file : Str} {params : Arguments} {scope : Scope} (h : xcsB file params scope = true) (top : (P.main.scope.names.lookup ("super" : Str)).isSome = false) : XcS P params scope := by
  unfold xcsB at h
  simp only [Bool.and_eq_true, decide_eq_true_eq, Bool.not_eq_true', decide_eq_false_iff_not, List.all_eq_true] at h
  obtain ⟨⟨⟨⟨⟨⟨⟨h1, h2⟩, h3⟩, h4⟩, h5⟩, h6⟩, h7⟩, h8⟩ := h
  exact ⟨h1, h2, h3, h4, h5, h6, h7, h8, top⟩
section
variable {S : Sta} {d : IniD} {f cc cda : Addr} {ns : List Str} {z tag : Str}
/-- an own exception without fields of its own -/
theorem xk0_of (A : XcAll S.P S.K ns d f cc cda) (sc : XcS S.P d.params d.scope) (hd : iniDec d.body = some (z, tag, none)) (hw : IniW d.qual d.scope d.body) (hm : S.mg d.cls = some (.ref (He.ga S.K d.cls))) (hs : S.mg "super" = none) (ht : tag ∈ ns) {C tagN : Nat} (hC : S.ca C = He.ga S.K d.cls) (hT : S.nm tagN = tag)
    (hb : ∀ (cl : List (Str × Addr)) (kV doc pm : Value) (an : Option Addr) (cdv ct : Value) (us : List Value), us.length = 1 → bindArgs (PySem.W.fnX "__init__" d.qual d.params d.body d.scope cl .none kV doc pm an cdv ct) ⟨us, []⟩ = pure ([("self" : Str)].zip us)) : Xk S d.cls C 0 (fun _ => [(S.nm tagN, .str z)]) := by
  have hm' : S.mg d.cls = some (.ref (S.ca C)) := by rw [hC]; exact hm
  have hno := A.no _ ht
  obtain ⟨oc, od, kV, doc, pm, an, ct, osl, hf⟩ := A.fn
  have T := A.xcf
  unfold iniDec at hd
  split at hd
  · rename_i s1 p0 p1 ini p2 z' j1 p3 p4 p5 s2 p6 tag' p7 z2 j2 p8 p9 hbd
    split at hd
    · rename_i hc
      obtain ⟨rfl, rfl, rfl, rfl⟩ := hc
      cases hd
      have hB : d.body = initB z p0 p1 p2 p3 p4 p5 p6 p7 p8 p9 j1 j2 tag [] := hbd
      rw [hB] at hf T hw
      have F := fn_ini0 (w := S.w) (base := S.base) (k := 0) T sc (xcw_of sc.kind hw) hs hno hf
      rw [← hC, ← hT] at F
      refine ⟨hm', by rw [hC]; exact A.oex, _, _, _, _, rfl, by rw [hC]; exact A.ini, A.tyI, .all fun us hu => ?_, Nat.le_refl _, F⟩
      have := hb [("__class__", cc)] kV doc pm an (.ref cda) ct us hu
      rw [hB] at this
      exact this
    · cases hd
  · split at hd <;> cases hd
  · cases hd
end
end Mp
end
section
set_option Elab.async false
set_option linter.all false
set_option maxRecDepth 100000
set_option maxHeartbeats 4000000
/-! MpHead3: the Hook, constants, the asking def. -/
namespace Mp
open PySem PySem.Spec PyProof.Rows L2

/-! ### the Hook -/
abbrev AlM : Type := Bool × He.AlD × List FnC
def obsM (lam : List (Str × Option Str)) (x : Frag → Bool) (fa : List He.Fa) (fn : List He.DefD) (ini : List IniD) (K0 : Frag) : AlM :=
  (tabsB lam K0 && ((lam.all fun p => decide (codeAd (cutK lam K0) p = codeAd K0 p)) && x (cutK lam K0)), He.obsD fa fn (cutK lam K0), ini.map fun d => fnC (cutK lam K0) (d.cls, some "__init__"))
def valM (fn : List He.DefD) (ini : List IniD) : AlM := (true, He.valD fn, ini.map IniD.val)
def SaysM (lam : List (Str × Option Str)) (x : Frag → Bool) (fa : List He.Fa) (fn : List He.DefD) (ini : List IniD) (K0 : Frag) : Prop := obsM lam x fa fn ini K0 = valM fn ini
def asM (g : Addr → Option Obj) (n : Nat) : List Addr := He.asD g n ++ [PySem.cStatics]
def obsMG (n : Nat) (lam : List (Str × Option Str)) (x : Frag → Bool) (fa : List He.Fa) (fn : List He.DefD) (ini : List IniD) (g : Addr → Option Obj) : AlM := obsM lam x fa fn ini (He.frG g (asM g n))
def hookM (n : Nat) (lam : List (Str × Option Str)) (x : Frag → Bool) (fa : List He.Fa) (fn : List He.DefD) (ini : List IniD) : PySem.W.Hook where
  α := AlM
  obs := fun s => obsMG n lam x fa fn ini s.heap.get?
  val := fun _ => valM fn ini
  says := fun _ h => ∃ K0 : Frag, K0.In h ∧ SaysM lam x fa fn ini K0
  of := fun _ _ e => ⟨_, He.frG_in, e⟩
  keeps := fun _ _ _ ⟨K, hK, c⟩ k => ⟨K, PySem.W.Frag.In.keeps hK k, c⟩
theorem obsMG_eq {n : Nat} {lam : List (Str × Option Str)} {x : Frag → Bool} {fa : List He.Fa} {fn : List He.DefD} {ini : List IniD} {g : Addr → Option Obj} {s : Shared} (h : ∀ a, g a = s.heap.get? a) : obsMG n lam x fa fn ini g = (hookM n lam x fa fn ini).obs s := by
  have e : g = s.heap.get? := funext h
  rw [e] <;> rfl
section
variable {lam : List (Str × Option Str)} {x : Frag → Bool} {fa : List He.Fa} {fn : List He.DefD} {ini : List IniD} {K0 : Frag}
theorem SaysM.tab (c : SaysM lam x fa fn ini K0) : tabsB lam K0 = true := (He.ba (show (tabsB lam K0 && ((lam.all fun p => decide (codeAd (cutK lam K0) p = codeAd K0 p)) && x (cutK lam K0))) = true from congrArg (fun z : AlM => z.1) c)).1
theorem SaysM.ex (c : SaysM lam x fa fn ini K0) : x (cutK lam K0) = true := (He.ba (He.ba (show (tabsB lam K0 && ((lam.all fun p => decide (codeAd (cutK lam K0) p = codeAd K0 p)) && x (cutK lam K0))) = true from congrArg (fun z : AlM => z.1) c)).2).2
theorem SaysM.cod (c : SaysM lam x fa fn ini K0) {p : Str × Option Str} (hp : p ∈ lam) : codeAd (cutK lam K0) p = codeAd K0 p := by
  have h := (He.ba (He.ba (show (tabsB lam K0 && ((lam.all fun p => decide (codeAd (cutK lam K0) p = codeAd K0 p)) && x (cutK lam K0))) = true from congrArg (fun z : AlM => z.1) c)).2).1
  exact of_decide_eq_true (List.all_eq_true.mp h p hp)
theorem SaysM.d (c : SaysM lam x fa fn ini K0) : He.SaysD fa fn (cutK lam K0) := congrArg (fun z : AlM => z.2.1) c
theorem SaysM.ini_ (c : SaysM lam x fa fn ini K0) (i : Nat) {d : IniD} (h : ini[i]? = some d := by rfl) : fnC (cutK lam K0) (d.cls, some "__init__") = d.val := by
  have e : (ini.map fun d => fnC (cutK lam K0) (d.cls, some "__init__")) = ini.map IniD.val := congrArg (fun z : AlM => z.2.2) c
  have e2 : (ini.map fun d => fnC (cutK lam K0) (d.cls, some "__init__"))[i]? = (ini.map IniD.val)[i]? := by rw [e]
  rw [List.getElem?_map, List.getElem?_map, h] at e2
  exact Option.some.inj e2
end
theorem code_is {K : Frag} {p : Str × Option Str} (h : codeAd K p ≠ 0) {oc : Value} {od : Option Addr} {fd : FuncData} {sl : Array (Option Value)} (e : K.lookup (He.fAd K p) = some ⟨oc, od, .func fd, sl⟩) : fd.code = .ref (codeAd K p) := by
  unfold codeAd at h ⊢
  rw [e] at h ⊢
  dsimp only at h ⊢
  split
  · assumption
  · rename_i n
    split at h
    · rename_i c hc
      exact absurd hc (n c)
    · exact absurd rfl h
theorem walk_ofTE {l : PySem.W.OpenLaw} {n k : Nat} {q : Program} {loose : List Str} {XP : (Str → Option Value) → Heap → Prop} {YP : World → Heap → Prop} {d : DefRec} {CX : World → CXT} {x : Str}
    (hn : l.most = some n) (hn2 : n ≤ sizeLine) (hdf : d.params.defaults = []) (hr : Room k callerA)
    (F : ∀ (w : World) (mg : Str → Option Value) (fa : Addr) (h : Heap), YP w h → h.Ns mainGlobals mg → mg d.name = some (.ref fa) → ∃ K : Frag, K.In h ∧ LamX.LawAtS l w K (CX w) k n x mg fa h)
    (hCX : ∀ (w : World) (H : Hp) (s : Shared) (e : Value) (s' : Shared), CX w [] H s (fun _ _ _ => False) e s' → False) :
    PySem.W.WalkO q loose XP YP l.row.toRowW d [] (fun f vs => PySem.call f vs) := by
  refine Att.attach_callB hn hdf fun w s₀ s₁ mg mb fa o pm cd doc a vs ns G Y ho hd hcd hmg hobj hints hlen hbits hg => ?_
  obtain ⟨K, KX, fd, cs, sp, hT, nT, C, hb, hsp, hF⟩ := F w mg fa _ Y G.T.g hmg
  exact LamX.law_callTs KX G.T.g G.T.b G.T.builtins G.T.nolimit hg hT nT C G.T.bmain hobj hints (Nat.le_trans hlen hn2) hr hF hb (fun H hH hS => hsp H a ns hlen hbits hH hS) fun H e s' => hCX w H s₁ e s'
/-! ### constants -/
mutual
def cvB (K : Frag) : Nat → Value → D → Bool
  | 0, _, _ => false
  | _ + 1, .none, .non => true
  | _ + 1, .bool b, .bl c => decide (b = c)
  | _ + 1, .int i _, .int j => decide (i = j)
  | _ + 1, .str x _, .str y => decide (x = y)
  | n + 1, .ref a, .tup xs => (match K.lookup a with
    | some ⟨.type t, _, .seq its _, _⟩ => decide (t = "tuple") && decide (its.size ≤ sizeLine) && cvsB K n its.toList xs
    | _ => false)
  | _, _, _ => false
def cvsB (K : Frag) : Nat → List Value → List D → Bool
  | 0, _, _ => false
  | _ + 1, [], [] => true
  | n + 1, u :: us, d :: ds => cvB K n u d && cvsB K n us ds
  | _, _, _ => false
end
mutual
theorem cvB_ok {S : Sta} : ∀ (n : Nat) {u : Value} {d : D}, cvB S.K n u d = true → ∃ v, RelV v u ∧ ∀ (ow : Addr → Prop) (io : List Addr) (H : Hp), RV S ow io H d v
  | 0, _, _, h => by unfold cvB at h; cases h
  | n + 1, u, d, h => by
    unfold cvB at h
    split at h
    · cases h
    · exact ⟨.non, rfl, fun _ _ _ => .mk_non⟩
    · rename_i b c _
      rw [decide_eq_true_eq] at h
      subst h
      exact ⟨.bl b, rfl, fun _ _ _ => .mk_bl⟩
    · rename_i i t j _
      rw [decide_eq_true_eq] at h
      subst h
      exact ⟨.int i, ⟨t, rfl⟩, fun _ _ _ => .mk_int⟩
    · rename_i x t y _
      rw [decide_eq_true_eq] at h
      subst h
      exact ⟨.str x, ⟨t, rfl⟩, fun _ _ _ => .mk_str⟩
    · rename_i n' a xs heq
      cases heq
      split at h
      · rename_i t dd its m sl q
        simp only [Bool.and_eq_true, decide_eq_true_eq] at h
        obtain ⟨⟨h1, h2⟩, h3⟩ := h
        obtain ⟨vs, r, hv⟩ := cvsB_ok n h3
        refine ⟨.ref a, rfl, fun ow io H => ?_⟩
        unfold RV
        exact ⟨a, vs, rfl, .inr ⟨_, its, m, q, congrArg Value.type h1, rfl, h2, r⟩, hv ow io H⟩
      · cases h
    · cases h
theorem cvsB_ok {S : Sta} : ∀ (n : Nat) {us : List Value} {ds : List D}, cvsB S.K n us ds = true → ∃ vs, Vals vs us ∧ ∀ (ow : Addr → Prop) (io : List Addr) (H : Hp), RVs S ow io H ds vs
  | 0, _, _, h => by unfold cvsB at h; cases h
  | n + 1, us, ds, h => by
    unfold cvsB at h
    split at h
    · cases h
    · exact ⟨[], .nil, fun _ _ _ => .nil⟩
    · rename_i n' u us d ds heq
      cases heq
      rw [Bool.and_eq_true] at h
      obtain ⟨v, r, hv⟩ := cvB_ok n h.1
      obtain ⟨vs, rs, hvs⟩ := cvsB_ok n h.2
      exact ⟨v :: vs, .cons r rs, fun ow io H => .cons (hv ow io H) (hvs ow io H)⟩
    · cases h
end
def cstB (K : Frag) (x : Str) (d : D) : Bool := match PySem.W.nsIn K mainGlobals x with
  | some (some u) => cvB K 60 u d
  | _ => false
theorem cst_ok {S : Sta} {h : Heap} (X : S.K.In h) (G : h.Ns mainGlobals S.mg) {x : Str} {d : D} (c : cstB S.K x d = true) : CstOk S x d := by
  unfold cstB at c
  split at c
  · rename_i u q
    obtain ⟨v, r, hv⟩ := cvB_ok 60 c
    exact ⟨u, v, PySem.W.mg_of X G q, r, hv⟩
  · cases c
end Mp
end
section
set_option Elab.async false
set_option linter.all false
set_option maxRecDepth 100000
set_option maxHeartbeats 4000000
/-! MpHead4: defs keep what their turning means. -/
namespace Mp
open PySem PySem.Spec PyProof.Rows L2

section
variable {T : Tb} {G : Gt} {k : Nat} {S : Sta} {mkx : Nat → List Mp.D → Option Exn} {shr : Bool}
theorem good_cx {N ps : List Str} {qual : Str} {scope : Scope} {fa : Addr} {cdv : Value} {A : Around} {outer : List Env} {s : Shared} {H : Hp} {E : XK} (sc : FnScope N ps scope) (tb : TbOk T G S k) (h2 : 2 ≤ k) (xc : XcOk T S mkx) (hr : Room k (A.deeper (envOfC qual scope s.heap.objs.size fa cdv))) :
    GoodS T G mkx k { N := N, sc := scope, fnT := true, lam := false } (cxOf (L2.CX S.P S.w) S.P S.w S.K S.mg S.base N qual scope fa cdv A outer s H E) S (fun c d _ H' => E c d H') where
  ov := ⟨rfl, rfl, rfl, rfl, rfl⟩
  calm := rfl
  nd := sc.nd
  N := rfl
  sc := rfl
  fn := fun _ _ => rfl
  kind := sc.kind
  room := hr
  room2 := fun z => nomatch z
  tk := takes_of (X := cxOf (L2.CX S.P S.w) S.P S.w S.K S.mg S.base N qual scope fa cdv A outer s H E) rfl rfl rfl rfl
  tb := tb
  lam := fun z => nomatch z
  lev := fun z => nomatch z
  po := passes_of (X := cxOf (L2.CX S.P S.w) S.P S.w S.K S.mg S.base N qual scope fa cdv A outer s H E) rfl
  two := h2
  xc := xc
/-- a def without lambdas -/
theorem def_ok {x qual : Str} {params : Arguments} {body : List Stmt} {scope : Scope} {dvs : List V} {kws : List (Str × V)} {fa : Addr} {fd : FuncData} {N ps : List Str} {n : Nat} {m : List St} (FD : FunD S.K x qual params body scope dvs kws fa fd) (sc : FnScope N ps scope) (hps : ps.length = n)
    (tb : TbOk T G S k) (h2 : 2 ≤ k) (xc : XcOk T S mkx) (hc : cSs T shr 60 { N := N, sc := scope, fnT := true, lam := false } body = some m) :
    FnOk S.P S.w S.K S.mg S.base (L2.CX S.P S.w) (k + 1) fa fd ps (spOf S n (runF G mkx n N.length m)) :=
  fn_ok FD sc hps fun cdv A outer s H E hr => cS_ok 60 _ body m hc _ _ (good_cx sc tb h2 xc hr)
def lamQ (qual : Str) (scope : Scope) : Str := (envOfC qual scope 0 0 .none).qual ++ "<lambda>"
/-- a def with lambdas, its code at c, its table at P -/
theorem def_okL {x qual : Str} {params : Arguments} {body : List Stmt} {scope : Scope} {dvs : List V} {kws : List (Str × V)} {fa : Addr} {fd : FuncData} {N ps : List Str} {n : Nat} {m : List St} {c P : Addr} (FD : FunD S.K x qual params body scope dvs kws fa fd) (sc : FnScope N ps scope) (hps : ps.length = n)
    (tb : TbOk T G S k) (h2 : 2 ≤ k) (xc : XcOk T S mkx) (hcode : ∀ oc od fd' sl, S.K.lookup fa = some ⟨oc, od, .func fd', sl⟩ → fd'.code = .ref c) (TB : LamX.TabB S.base S.mg c P) (hT : (P, lamQ qual scope) ∈ S.tb) (hu : ∀ q ∈ S.tb, q.1 = P → q.2 = lamQ qual scope)
    (hc : cSs T shr 60 { N := N, sc := scope, fnT := true, lam := true } body = some m) :
    FnOk S.P S.w S.K S.mg S.base (L2.CX S.P S.w) (k + 3) fa fd ps (spOf S n (runF G mkx n N.length m)) := by
  have hpl : n ≤ N.length := by
    have := congrArg List.length sc.pre
    rw [List.length_take] at this
    omega
  obtain ⟨oc, od, dV, kV, doc, pm, an, cdv, ct, osl, rfl, lk, hcd, _, _⟩ := FD.ex
  have hcdv : cdv = .ref c := hcode _ _ _ _ lk
  subst hcdv
  refine fn_of (k := k + 2) lk hcd sc (fun vs H Q E h => ?_) fun A outer s H vs Q E hr h => ⟨tS S (fun c d _ H' => E c d H') (exs G mkx m), cS_ok (k := k) 60 _ body m hc _ _ ?_, ?_⟩
  · obtain ⟨ow, io, ds, m, _, _, hv, hl, _⟩ := h
    rw [← hv.length, hl, hps]
  · have g := good_cx (cdv := .ref c) (qual := qual) (fa := fa) (A := A) (outer := outer) (s := s) (H := H) (E := E) sc tb h2 xc (hr.mono (Nat.le_add_right k 2))
    exact { g with
      room2 := fun _ => hr
      lam := fun _ => ⟨c, P, TB, rfl, hT, hu⟩
      lev := fun _ => Nat.le_trans (by decide) h2 }
  · exact start_wish sc hps hpl h
end
end Mp
end
section
set_option Elab.async false
set_option linter.all false
set_option maxRecDepth 100000
set_option maxHeartbeats 4000000
/-! MpHead5: binding with defaults and keywords; calls from the facts of the top. -/
namespace Mp
open PySem PySem.Spec PyProof.Rows L2

section
variable {K : Frag} {x qual : Str} {params : Arguments} {body : List Stmt} {scope : Scope} {dvs : List V} {kws : List (Str × V)} {f : Addr} {fd : FuncData} {ps : List Str}
/-- n values by place, the keywords ks, defaults for the others (g puts them in order) -/
theorem kb_dfl (F : FunD K x qual params body scope dvs kws f fd) (n : Nat) (ks : List Str) (g : {α : Type} → List α → List α → List α → List α) (hd : dvs ≠ [])
    (hrel : ∀ {vs ds zs : List V} {us its ws : List Value}, Vals vs us → Vals ds its → Vals zs ws → Vals (g vs ds zs) (g us its ws))
    (h : ∀ (T : Addr) (kV doc pm : Value) (an : Option Addr) (cdv ct : Value) (us its ws : List Value), us.length = n → its.length = dvs.length → ws.length = ks.length →
      ∃ k, bindArgs (PySem.W.fnOf x qual params body scope (.ref T) kV doc pm an cdv ct) ⟨us, ks.zip ws⟩ = seqItems? (.ref T) >>= k ∧ k (some its.toArray) = pure (ps.zip (g us its ws))) :
    ∃ its : List Value, KBn K fd ps n ks (fun us ws => g us its ws) (fun vs zs => g vs dvs zs) := by
  obtain ⟨oc, od, dV, kV, doc, pm, an, cdv, ct, osl, rfl, lk, hcd, hD, hK⟩ := F.ex
  rcases hD with ⟨e, _⟩ | ⟨_, T, o, its, m, rfl, lT, oT, rT⟩
  · exact absurd e hd
  · refine ⟨its, ⟨fun s us ws X l1 l2 => ?_, fun r rz => hrel r rT rz⟩⟩
    obtain ⟨k, h1, h2⟩ := h T kV doc pm an cdv ct us its ws l1 rT.length.symm l2
    exact .of_defaults (fd := PySem.W.fnOf x qual params body scope (.ref T) kV doc pm an cdv ct) rfl (X _ _ lT) oT h1 h2
/-- no defaults -/
theorem kb_plain (F : FunD K x qual params body scope [] kws f fd) (n : Nat) (ks : List Str) (g : {α : Type} → List α → List α → List α)
    (hrel : ∀ {vs zs : List V} {us ws : List Value}, Vals vs us → Vals zs ws → Vals (g vs zs) (g us ws))
    (h : ∀ (kV doc pm : Value) (an : Option Addr) (cdv ct : Value) (us ws : List Value), us.length = n → ws.length = ks.length → bindArgs (PySem.W.fnOf x qual params body scope .none kV doc pm an cdv ct) ⟨us, ks.zip ws⟩ = pure (ps.zip (g us ws))) :
    KBn K fd ps n ks (fun us ws => g us ws) (fun vs zs => g vs zs) := by
  obtain ⟨oc, od, dV, kV, doc, pm, an, cdv, ct, osl, rfl, lk, hcd, hD, hK⟩ := F.ex
  rcases hD with ⟨_, rfl⟩ | ⟨e, _⟩
  · exact ⟨fun s us ws X l1 l2 => .of_eq (h kV doc pm an cdv ct us ws l1 l2), fun r rz => hrel r rz⟩
  · exact absurd rfl e
/-- all by place, some have defaults -/
theorem bd_full (F : FunD K x qual params body scope dvs kws f fd) (h : ∀ (dV kV doc pm : Value) (an : Option Addr) (cdv ct : Value) (us : List Value), us.length = ps.length → bindArgs (PySem.W.fnOf x qual params body scope dV kV doc pm an cdv ct) ⟨us, []⟩ = pure (ps.zip us)) : Binds K fd ps [] := by
  obtain ⟨oc, od, dV, kV, doc, pm, an, cdv, ct, osl, rfl, lk, hcd, hD, hK⟩ := F.ex
  exact .all (h dV kV doc pm an cdv ct)
end
theorem saysD_mem {fa : List He.Fa} {fn : List He.DefD} {K : Frag} (c : He.SaysD fa fn K) {f : He.Fa} (hf : f ∈ fa) : f.ok K = true := by
  have c1 := (He.ba (show ((fa.all fun f => f.ok K) && fn.all fun d => d.ok K) = true from congrArg (fun z : He.AlD => z.1) c)).1
  exact List.all_eq_true.mp c1 f hf
theorem cal_mono {S : Sta} {j k : Nat} {x : Str} {n : Nat} {f : List Mp.D → MH → R Mp.D} (C : CalOk S j x n f) (h : j ≤ k) : CalOk S k x n f := by
  obtain ⟨fa, fd, ps, h1, h2, h3, h4, h5⟩ := C
  exact ⟨fa, fd, ps, h1, h2, h3, h4, h5.mono h⟩
theorem calK_mono {S : Sta} {j k : Nat} {x : Str} {n : Nat} {ks : List Str} {b : List Mp.D → List Mp.D → Option (List Mp.D)} {f : List Mp.D → MH → R Mp.D} (C : CalKOk S j x n ks b f) (h : j ≤ k) : CalKOk S k x n ks b f := by
  obtain ⟨fa, fd, ps, g, gV, h1, h2, h3, h4, h5, h6⟩ := C
  exact ⟨fa, fd, ps, g, gV, h1, h2, h3, h4, h5, h6.mono h⟩
theorem fnIx_nil {x : Str} {n f : Nat} (h : fnIx [] x n = some f) : False := by cases h
/-- the table of the defs, one by one -/
theorem fnIx_cons {y : Str} {k f : Nat} {r : List (Str × Nat × Nat)} {P : Str → Nat → Nat → Prop} (h0 : P y k f) (hr : ∀ x n g, fnIx r x n = some g → P x n g) : ∀ x n g, fnIx ((y, k, f) :: r) x n = some g → P x n g := fun x n g h => by
  unfold fnIx at h
  split at h
  · rename_i e
    obtain ⟨rfl, rfl⟩ := e
    cases h
    exact h0
  · exact hr x n g h
theorem fkIx_cons {y : Str} {k f b : Nat} {ks : List Str} {r : List (Str × Nat × List Str × Nat × Nat)} {P : Str → Nat → List Str → Nat → Nat → Prop} (h0 : P y k ks f b) (hr : ∀ x n l g c, fkIx r x n l = some (g, c) → P x n l g c) : ∀ x n l g c, fkIx ((y, k, ks, f, b) :: r) x n l = some (g, c) → P x n l g c := fun x n l g c h => by
  unfold fkIx at h
  split at h
  · rename_i e
    obtain ⟨rfl, rfl, rfl⟩ := e
    cases h
    exact h0
  · exact hr x n l g c h
theorem csIx_cons {y : Str} {f : Nat} {r : List (Str × Nat)} {P : Str → Nat → Prop} (h0 : P y f) (hr : ∀ x g, csIx r x = some g → P x g) : ∀ x g, csIx ((y, f) :: r) x = some g → P x g := fun x g h => by
  unfold csIx at h
  split at h
  · rename_i e
    subst e
    cases h
    exact h0
  · exact hr x g h
end Mp
end
section
set_option Elab.async false
set_option linter.all false
set_option maxRecDepth 100000
set_option maxHeartbeats 4000000
/-! MpHead6: the asking def and the field reader of the laws. -/
namespace Mp
open PySem PySem.Spec PyProof.Rows L2

/-- the field reader's steps: the same text in every law -/
def fdPs : List (List Str × Str) := [(["InvalidFraction", "InvalidStocks", "InvalidAmounts", "InvalidShare", "InvalidWeighing"], "given"), (["InvalidDistance", "InvalidLimit"], "given"), (["InvalidStep", "InvalidCondition", "InvalidRow", "InvalidCommand"], "index"),
  (["InvalidName", "WrongKind", "DuplicateName", "Circular", "UnknownName"], "name"), (["TooMany", "Full"], "limit"), (["TooLittle"], "stock"), (["InvalidRun"], "place"), (["InvalidPlan"], "part"), (["InUse"], "user")]
def fdL : Str × Str := ("InvalidPage", "line")
def fdNs : List Str := ["given", "index", "name", "limit", "stock", "place", "part", "user", "tag", "line"]
theorem fd_sub : ∀ n ∈ fdNames fdPs fdL, n ∈ fdNs := by decide +kernel
section
variable {S : Sta} {pw pf : Arguments} {bw bf : List Stmt} {sw sf : Scope} {kw kf : List (Str × V)} {gw gf : Addr} {fw ff : FuncData}
theorem fdOk_of (FF : FunD S.K "_law_field" "_law_field" pf bf sf [] kf gf ff) (hm : S.mg "_law_field" = some (.ref gf)) (sc : FnScope ["_law_e"] ["_law_e"] sf) (hb : fdBody "_law_e" bf = some (fdPs, fdL)) (hv : sf.names.lookup ("_law_e" : Str) = some .local)
    (hB : ∀ (kV doc pm : Value) (an : Option Addr) (cdv ct : Value) (us : List Value), us.length = 1 → bindArgs (PySem.W.fnOf "_law_field" "_law_field" pf bf sf .none kV doc pm an cdv ct) ⟨us, []⟩ = pure ([("_law_e" : Str)].zip us)) : FdOk S.K S.mg "_law_field" fdPs fdL := by
  have hbind := FF.bindsN (ps := ["_law_e"]) hB
  obtain ⟨oc, od, dV, kV, doc, pm, an, cdv, ct, osl, rfl, lk, hcd, _, _⟩ := FF.ex
  exact ⟨gf, cdv, "_law_e", ["_law_e"], _, pf, bf, sf, dV, kV, doc, pm, ct, oc, an, od, osl, hm, FF.kp, lk, hcd, sc, hbind, rfl, .inl hv, by decide +kernel, by decide +kernel, hb⟩
theorem whyDef_of {wd : Exn → Option Mp.D} {c1 c2 c3 : Value} (FW : FunD S.K "_law_why" "_law_why" pw bw sw [] kw gw fw) (hm : S.mg "_law_why" = some (.ref gw)) (sc : FnScope ["_law_ask", "_law_e"] ["_law_ask"] sw) (hb : whyB "_law_ask" "_law_e" "BodyError" "Missing" "NothingLeft" "_law_field" bw = true)
    (hva : sw.names.lookup ("_law_ask" : Str) = some .local) (hve : sw.names.lookup ("_law_e" : Str) = some .local) (h1 : sw.names.lookup ("BodyError" : Str) = some .globalImplicit) (h2 : sw.names.lookup ("Missing" : Str) = some .globalImplicit) (h3 : sw.names.lookup ("NothingLeft" : Str) = some .globalImplicit)
    (h4 : sw.names.lookup ("_law_field" : Str) = some .globalImplicit) (m1 : S.mg "BodyError" = some c1) (m2 : S.mg "Missing" = some c2) (m3 : S.mg "NothingLeft" = some c3) (F : FdOk S.K S.mg "_law_field" fdPs fdL) (W : WhyOk S [c1, c2, c3] fdPs fdL wd)
    (hB : ∀ (kV doc pm : Value) (an : Option Addr) (cdv ct : Value) (us : List Value), us.length = 1 → bindArgs (PySem.W.fnOf "_law_why" "_law_why" pw bw sw .none kV doc pm an cdv ct) ⟨us, []⟩ = pure ([("_law_ask" : Str)].zip us)) : WhyDef S "_law_why" wd := by
  have hbind := FW.bindsN (ps := ["_law_ask"]) hB
  obtain ⟨oc, od, dV, kV, doc, pm, an, cdv, ct, osl, rfl, lk, hcd, _, _⟩ := FW.ex
  exact ⟨gw, "_law_ask", "_law_e", "BodyError", "Missing", "NothingLeft", "_law_field", pw, bw, sw, dV, kV, doc, pm, cdv, ct, oc, c1, c2, c3, an, od, osl, ["_law_ask", "_law_e"], fdPs, fdL,
    hm, FW.kp, lk, hcd, hbind, sc, rfl, by decide +kernel, .inl hva, by decide +kernel, by decide +kernel, hb, ⟨h1, by decide +kernel, m1⟩, ⟨h2, by decide +kernel, m2⟩, ⟨h3, by decide +kernel, m3⟩, h4, by decide +kernel, F, hve, by decide +kernel, by decide +kernel, W⟩
end
end Mp
end
section
set_option Elab.async false
set_option linter.all false
set_option maxRecDepth 100000
set_option maxHeartbeats 4000000
/-! MpHead7: own exceptions with a field; the asking def for a list of classes. -/
namespace Mp
open PySem PySem.Spec PyProof.Rows L2
section
variable {S : Sta} {d : IniD} {f cc cda : Addr} {ns : List Str} {z tag : Str}
/-- an own exception with one field -/
theorem xk1_of {fld y : Str} (A : XcAll S.P S.K ns d f cc cda) (sc : XcS S.P d.params d.scope) (hd : iniDec d.body = some (z, tag, some (fld, y))) (hw : IniW d.qual d.scope d.body) (hm : S.mg d.cls = some (.ref (He.ga S.K d.cls))) (hs : S.mg "super" = none) (ht : tag ∈ ns) (hf' : fld ∈ ns) {C tagN fldN : Nat} (hC : S.ca C = He.ga S.K d.cls) (hT : S.nm tagN = tag) (hF : S.nm fldN = fld)
    (ny : (y == ("self" : Str)) = false) (nd : (y == ("__debug__" : Str)) = false) (ly : d.scope.names.lookup y = some .local) (nf : fld ≠ tag)
    (hb : ∀ (cl : List (Str × Addr)) (kV doc pm : Value) (an : Option Addr) (cdv ct : Value) (us : List Value), us.length = 2 → bindArgs (PySem.W.fnX "__init__" d.qual d.params d.body d.scope cl .none kV doc pm an cdv ct) ⟨us, []⟩ = pure ([("self" : Str), y].zip us)) : Xk S d.cls C 1 (fun ws => [(S.nm fldN, ws.headD .non), (S.nm tagN, .str z)]) := by
  have hm' : S.mg d.cls = some (.ref (S.ca C)) := by rw [hC]; exact hm
  have hno := A.no _ ht
  have hnf := A.no _ hf'
  obtain ⟨oc, od, kV, doc, pm, an, ct, osl, hf⟩ := A.fn
  have T := A.xcf
  unfold iniDec at hd
  split at hd
  · split at hd <;> cases hd
  · rename_i s1 p0 p1 ini p2 z' j1 p3 p4 p5 s2 p6 tag' p7 z2 j2 p8 p9 s3 q6 fld' q7 y' q8 q9 hbd
    split at hd
    · rename_i hc
      obtain ⟨rfl, rfl, rfl, rfl, rfl⟩ := hc
      cases hd
      have hB : d.body = initB z p0 p1 p2 p3 p4 p5 p6 p7 p8 p9 j1 j2 tag [.Assign [.Attribute (.Name "self" q6) fld q7] (.Name y q8) q9] := hbd
      rw [hB] at hf T hw
      have F := fn_ini1 (w := S.w) (base := S.base) (k := 0) T sc (xcw_of sc.kind hw) hs ny nd ly (fun L => rfl) nf hnf hno hf
      rw [← hC, ← hT, ← hF] at F
      refine ⟨hm', by rw [hC]; exact A.oex, _, _, _, _, rfl, by rw [hC]; exact A.ini, A.tyI, .all fun us hu => ?_, Nat.le_refl _, F⟩
      have := hb [("__class__", cc)] kV doc pm an (.ref cda) ct us hu
      rw [hB] at this
      exact this
    · cases hd
  · cases hd
end
end Mp
end
section
set_option Elab.async false
set_option linter.all false
set_option maxRecDepth 100000
set_option maxHeartbeats 1000000
/-! MpSimp: the evaluator's equations. -/
namespace Mp
open PySem PySem.Spec PyProof.Rows L2
section
variable (G : Gt) (mkx : Nat → List D → Option Exn) (fr : Fr) (m : MH) (d : D) (i j f g b0 : Nat) (a b c l h : E) (es ks cs : List E) (o p : CO) (q : BO) (ts : List Ty) (vs : List Nat) (tg : Tg) (bl : Bl) (s : St) (ss s1 s2 : List St)
@[simp] theorem ev_k : ev G (.k d) fr m = .ok d m := rfl
theorem ev_loc_ (h : fr[i]? = some (some (.val d))) : ev G (.loc i) fr m = .ok d m := by
  show (match fr[i]? with | some (some (.val d)) => R.ok d m | _ => R.bad) = _
  rw [h]
@[simp] theorem ev_loc_zero : ev G (.loc 0) (some (.val d) :: fr) m = .ok d m := rfl
@[simp] theorem ev_loc_succ (s0 : Option Sl) : ev G (.loc (i + 1)) (s0 :: fr) m = ev G (.loc i) fr m := rfl
@[simp] theorem ev_cst : ev G (.cst g) fr m = .ok (G.cst g) m := rfl
@[simp] theorem ev_bin : ev G (.bin q a b) fr m = (ev G a fr m).bind fun x m1 => (ev G b fr m1).bind fun y m2 => optR (binD q x y) m2 := rfl
@[simp] theorem ev_neg : ev G (.neg a) fr m = (ev G a fr m).bind fun x m1 => match x with | .int i => .ok (.int (-i)) m1 | _ => .bad := rfl
@[simp] theorem ev_cmp : ev G (.cmp o a b) fr m = (ev G a fr m).bind fun x m1 => (ev G b fr m1).bind fun y m2 => optR (cmpD o x y) m2 := rfl
@[simp] theorem ev_isN : ev G (.isN a) fr m = (ev G a fr m).bind fun x m1 => .ok (.bl (isNonD x)) m1 := rfl
@[simp] theorem ev_notN : ev G (.notN a) fr m = (ev G a fr m).bind fun x m1 => .ok (.bl (!isNonD x)) m1 := rfl
@[simp] theorem ev_andv : ev G (.andv a b) fr m = (ev G a fr m).bind fun x m1 => match truD x with | some true => ev G b fr m1 | some false => .ok x m1 | none => .bad := rfl
@[simp] theorem ev_orv : ev G (.orv a b) fr m = (ev G a fr m).bind fun x m1 => match truD x with | some true => .ok x m1 | some false => ev G b fr m1 | none => .bad := rfl
@[simp] theorem ev_notv : ev G (.notv a) fr m = (ev G a fr m).bind fun x m1 => match truD x with | some t => .ok (.bl (!t)) m1 | none => .bad := rfl
@[simp] theorem ev_ite : ev G (.ite c a b) fr m = (ev G c fr m).bind fun x m1 => match truD x with | some true => ev G a fr m1 | some false => ev G b fr m1 | none => .bad := rfl
@[simp] theorem ev_tup : ev G (.tup es) fr m = (evs G es fr m).bind fun ds m1 => if ds.length ≤ sizeLine then .ok (.tup ds) m1 else .bad := rfl
@[simp] theorem ev_lst : ev G (.lst es) fr m = (evs G es fr m).bind fun ds m1 => if ds.length ≤ sizeLine then .ok (.lst ds) m1 else .bad := rfl
@[simp] theorem ev_idx : ev G (.idx a b) fr m = (ev G a fr m).bind fun x m1 => (ev G b fr m1).bind fun y m2 => optR (idxD x y m2) m2 := rfl
@[simp] theorem ev_prt : ev G (.prt a) fr m = (ev G a fr m).bind fun x m1 => match x with | .int i => .ok (.int i) m1 | _ => .bad := rfl
@[simp] theorem ev_sl : ev G (.sl a l h) fr m = (ev G a fr m).bind fun x m1 => (ev G l fr m1).bind fun l m2 => match optI l with
    | some l => (ev G h fr m2).bind fun h m3 => match optI h with | some h => optR (slD x l h) m3 | none => .bad
    | none => .bad := rfl
@[simp] theorem ev_call : ev G (.call f es) fr m = (evs G es fr m).bind fun ds m1 => G.fn f ds m1 := rfl
@[simp] theorem ev_callK : ev G (.callK f b0 es ks) fr m = (evs G es fr m).bind fun ds m1 => (evs G ks fr m1).bind fun zs m2 => match G.bnd b0 ds zs with | some as => G.fn f as m2 | none => .bad := rfl
@[simp] theorem ev_blt : ev G (.blt bl es) fr m = (evs G es fr m).bind fun ds m1 => optR (bltD bl ds m1) m1 := rfl
@[simp] theorem ev_isi : ev G (.isi a ts) fr m = (ev G a fr m).bind fun x m1 => optR ((isTys x m1 ts).map .bl) m1 := rfl
@[simp] theorem ev_comp_ : ev G (.comp vs tg a cs b) fr m = (ev G a fr m).bind fun x m1 => match itemsD x with | some xs => (compGo vs tg (evc G cs) (ev G b) fr xs [] m1).bind fun ys m2 => .ok (.lst ys) m2 | none => .bad := rfl
@[simp] theorem ev_rng1 : ev G (.rng1 a) fr m = (ev G a fr m).bind fun y m1 => match rngD (.int 0) y with | some xs => .ok (.lst xs) m1 | none => .bad := rfl
@[simp] theorem ev_zip : ev G (.zip a b) fr m = (ev G a fr m).bind fun x m1 => (ev G b fr m1).bind fun y m2 => match zipD x y with | some xs => .ok (.lst xs) m2 | none => .bad := rfl
@[simp] theorem ev_why : ev G (.why a) fr m = whyR G.why (ev G a fr m) := rfl
@[simp] theorem evs_nil : evs G [] fr m = .ok [] m := rfl
@[simp] theorem evs_cons : evs G (a :: es) fr m = (ev G a fr m).bind fun x m1 => (evs G es fr m1).bind fun xs m2 => .ok (x :: xs) m2 := rfl
@[simp] theorem evc_nil : evc G [] = [] := rfl
@[simp] theorem evc_cons : evc G (a :: es) = ev G a :: evc G es := rfl
@[simp] theorem exs_nil : exs G mkx [] fr m = .nx fr m := rfl
@[simp] theorem exs_cons : exs G mkx (s :: ss) fr m = (ex G mkx s fr m).then_ fun f1 m1 => exs G mkx ss f1 m1 := rfl
@[simp] theorem ex_asg : ex G mkx (.asg tg a) fr m = SR.of (ev G a fr m) fr fun d m1 => match tgD tg d fr with | some f1 => .nx f1 m1 | none => .bad := rfl
@[simp] theorem ex_ret : ex G mkx (.ret a) fr m = SR.of (ev G a fr m) fr fun d m1 => .rt d m1 := rfl
@[simp] theorem ex_retS : ex G mkx (.retS a) fr m = SR.of (ev G a fr m) fr fun d m1 => match d with | .lst xs => .rt (.ref m1.length) (m1 ++ [.lst xs]) | _ => .bad := rfl
@[simp] theorem ex_ife : ex G mkx (.ife a s1 s2) fr m = SR.of (tst (ev G a) fr m) fr fun t m1 => match t with | true => exs G mkx s1 fr m1 | false => exs G mkx s2 fr m1 := rfl
@[simp] theorem ex_whl : ex G mkx (.whl a s1) fr m = whileS (tst (ev G a)) (exs G mkx s1) fr m := rfl
@[simp] theorem ex_for0 : ex G mkx (.for_ tg a s1) fr m = SR.of (ev G a fr m) fr fun d m1 => match itemsD d with | some xs => forS tg (exs G mkx s1) xs fr m1 | none => .bad := rfl
@[simp] theorem ex_rais : ex G mkx (.rais i es) fr m = SR.of (evs G es fr m) fr fun ds m1 => match mkx i ds with | some x => .ex x fr m1 | none => .bad := rfl
@[simp] theorem ex_setX : ex G mkx (.setX a b c) fr m = SR.of (ev G c fr m) fr fun d m1 => SR.of (ev G a fr m1) fr fun x m2 => SR.of (ev G b fr m2) fr fun y m3 => match setXD x y d m3 with | some m4 => .nx fr m4 | none => .bad := rfl
@[simp] theorem ev_chain (e3 : E) : ev G (.chain o p a b e3) fr m = (ev G a fr m).bind fun x m1 => (ev G b fr m1).bind fun y m2 => match cmpD o x y with | some (.bl true) => (ev G e3 fr m2).bind fun z m3 => optR (cmpD p y z) m3 | some (.bl false) => .ok (.bl false) m2 | _ => .bad := rfl
@[simp] theorem ev_rng2 : ev G (.rng2 a b) fr m = (ev G a fr m).bind fun x m1 => (ev G b fr m1).bind fun y m2 => match rngD x y with | some xs => .ok (.lst xs) m2 | none => .bad := rfl
@[simp] theorem ev_fld : ev G (.fld a f) fr m = (ev G a fr m).bind fun x m1 => match x with | .ins _ ns ds => (match (ns.zip ds).lookup f with | some d => .ok d m1 | none => .bad) | _ => .bad := rfl
@[simp] theorem ev_m1 (k1 : M1) : ev G (.m1 k1 a b) fr m = (ev G a fr m).bind fun x m1 => match x with | .str z => (ev G b fr m1).bind fun y m2 => optR (m1D k1 z y m2) m2 | _ => .bad := rfl
@[simp] theorem ev_fmt : ev G (.fmt a) fr m = (ev G a fr m).bind fun x m1 => optR (fmtD x) m1 := rfl
@[simp] theorem ev_fs : ev G (.fs es) fr m = evf G es Str.empty fr m := rfl
@[simp] theorem evf_nil (acc : Str) : evf G [] acc fr m = .ok (.str acc) m := rfl
@[simp] theorem evf_cons (acc : Str) : evf G (a :: es) acc fr m = (ev G a fr m).bind fun x m1 => match x with | .str y => if (acc ++ y).length ≤ sizeLine then evf G es (acc ++ y) fr m1 else .bad | _ => .bad := rfl
@[simp] theorem ev_rev : ev G (.rev a) fr m = (ev G a fr m).bind fun x m1 => optR (revD x) m1 := rfl
@[simp] theorem ex_exp : ex G mkx (.exp a) fr m = SR.of (ev G a fr m) fr fun _ m1 => .nx fr m1 := rfl
@[simp] theorem ex_retN : ex G mkx .retN fr m = .rt .non m := rfl
@[simp] theorem ex_pas : ex G mkx .pas fr m = .nx fr m := rfl
@[simp] theorem ex_brk : ex G mkx .brk fr m = .bk fr m := rfl
@[simp] theorem ex_cnt : ex G mkx .cnt fr m = .ct fr m := rfl
end
@[simp] theorem tgD_nm (i : Nat) (d : D) (fr : Fr) : tgD (.nm i) d fr = some (fr.set i (some (.val d))) := by unfold tgD; rfl
@[simp] theorem tgD_tup (ts : List Tg) (ds : List D) (fr : Fr) : tgD (.tup ts) (.tup ds) fr = tgDs ts ds fr := by
  conv => lhs; unfold tgD
@[simp] theorem tgD_tupl (ts : List Tg) (ds : List D) (fr : Fr) : tgD (.tup ts) (.lst ds) fr = tgDs ts ds fr := by
  conv => lhs; unfold tgD
@[simp] theorem tgDs_nil (fr : Fr) : tgDs [] [] fr = some fr := by unfold tgDs; rfl
@[simp] theorem tgDs_cons (t : Tg) (ts : List Tg) (d : D) (ds : List D) (fr : Fr) : tgDs (t :: ts) (d :: ds) fr = (tgD t d fr).bind (tgDs ts ds) := by
  conv => lhs; unfold tgDs
theorem le_line {n : Nat} (h : n ≤ 1000) : n ≤ sizeLine := by
  rw [sizeLine_eq]
  omega
theorem runF_rt {G : Gt} {mkx : Nat → List D → Option Exn} {n N : Nat} {b : List St} {ds : List D} {m m1 : MH} {d : D} (hl : ds.length = n) (h : exs G mkx b (ds.map (fun d => some (.val d)) ++ List.replicate (N - n) none) m = .rt d m1) : runF G mkx n N b ds m = .ok d m1 := by
  unfold runF
  rw [if_pos hl, h]
theorem runF_ex {G : Gt} {mkx : Nat → List D → Option Exn} {n N : Nat} {b : List St} {ds : List D} {m m1 : MH} {x : Exn} {f : F} (hl : ds.length = n) (h : exs G mkx b (ds.map (fun d => some (.val d)) ++ List.replicate (N - n) none) m = .ex x f m1) : runF G mkx n N b ds m = .exc x m1 := by
  unfold runF
  rw [if_pos hl, h]
end Mp
end
section
set_option Elab.async false
set_option linter.all false
set_option maxRecDepth 100000
set_option maxHeartbeats 1000000
/-! MpEq: what the operations give on data of a known kind (a simp set: give none of the operations themselves to simp). -/
namespace Mp
open PySem PySem.Spec PyProof.Rows L2
theorem lt_line {n : Nat} (h : n < 1000) : n < sizeLine := by
  rw [sizeLine_eq]
  omega
section
variable (b c : Bool) (i j : Int) (x y : Str) (xs ys : List D) (d e : D) (m : MH) (n k : Nat)
@[simp] theorem isNonD_non : isNonD .non = true := rfl
@[simp] theorem isNonD_bl : isNonD (.bl b) = false := rfl
@[simp] theorem isNonD_int : isNonD (.int i) = false := rfl
@[simp] theorem isNonD_str : isNonD (.str x) = false := rfl
@[simp] theorem isNonD_tup : isNonD (.tup xs) = false := rfl
@[simp] theorem isNonD_lst : isNonD (.lst xs) = false := rfl
@[simp] theorem isNonD_fz : isNonD (.fz xs) = false := rfl
@[simp] theorem isNonD_ref : isNonD (.ref n) = false := rfl
@[simp] theorem truD_non : truD .non = some false := rfl
@[simp] theorem truD_bl : truD (.bl b) = some b := rfl
@[simp] theorem truD_int : truD (.int i) = some (i != 0) := rfl
@[simp] theorem truD_tup : truD (.tup xs) = some (!xs.isEmpty) := rfl
@[simp] theorem truD_lst : truD (.lst xs) = some (!xs.isEmpty) := rfl
theorem truD_str (h : x.length ≤ sizeLine) : truD (.str x) = some ((x.length : Int) != 0) := by
  show (if _ then _ else _) = _
  rw [if_pos h]
@[simp] theorem cmp_eq_int : cmpD .eq (.int i) (.int j) = some (.bl (decide (i = j))) := rfl
@[simp] theorem cmp_ne_int : cmpD .ne (.int i) (.int j) = some (.bl (!decide (i = j))) := rfl
@[simp] theorem cmp_eq_bl : cmpD .eq (.bl b) (.bl c) = some (.bl (decide (b = c))) := rfl
@[simp] theorem cmp_ne_bl : cmpD .ne (.bl b) (.bl c) = some (.bl (!decide (b = c))) := rfl
@[simp] theorem cmp_eq_str : cmpD .eq (.str x) (.str y) = some (.bl (decide (x = y))) := rfl
@[simp] theorem cmp_ne_str : cmpD .ne (.str x) (.str y) = some (.bl (!decide (x = y))) := rfl
@[simp] theorem cmp_lt_int : cmpD .lt (.int i) (.int j) = some (.bl (decide (i < j))) := rfl
@[simp] theorem cmp_le_int : cmpD .le (.int i) (.int j) = some (.bl (decide (i ≤ j))) := rfl
@[simp] theorem cmp_gt_int : cmpD .gt (.int i) (.int j) = some (.bl (decide (j < i))) := rfl
@[simp] theorem cmp_ge_int : cmpD .ge (.int i) (.int j) = some (.bl (decide (j ≤ i))) := rfl
@[simp] theorem bin_add_int : binD .add (.int i) (.int j) = some (.int (i + j)) := rfl
@[simp] theorem bin_sub_int : binD .sub (.int i) (.int j) = some (.int (i - j)) := rfl
theorem bin_mul_int (h : mulOk i j = true) : binD .mul (.int i) (.int j) = some (.int (i * j)) := by
  show (if _ then _ else _) = _
  rw [if_pos h]
theorem bin_fdiv_int (h : divOk j = true) : binD .fdiv (.int i) (.int j) = some (.int (i / j)) := by
  show (if _ then _ else _) = _
  rw [if_pos h]
theorem bin_mod_int (h : 0 < j) : binD .mod (.int i) (.int j) = some (.int (i % j)) := by
  show (if _ then _ else _) = _
  rw [if_pos h]
theorem bin_add_str (h : x.length + y.length ≤ sizeLine) : binD .add (.str x) (.str y) = some (.str (x ++ y)) := by
  show (if _ then _ else _) = _
  rw [if_pos h]
theorem bin_add_lst (h : xs.length + ys.length ≤ sizeLine) : binD .add (.lst xs) (.lst ys) = some (.lst (xs ++ ys)) := by
  show (if _ then _ else _) = _
  rw [if_pos h]
@[simp] theorem isTys_nil : isTys d m [] = some false := rfl
theorem isTys_one (t : Ty) : isTys d m [t] = (isTy d m t).map id := by
  show (match isTy d m t with | some true => some true | some false => isTys d m [] | none => none) = _
  cases h : isTy d m t with
  | none => rfl
  | some z => cases z <;> rfl
@[simp] theorem isTy_int (t : Ty) (h : ∀ C, t ≠ .cls C) : isTys (.int i) m [t] = some (match t with | .int => true | _ => false) := by
  cases t <;> first | rfl | exact absurd rfl (h _)
@[simp] theorem isTy_bl (t : Ty) (h : ∀ C, t ≠ .cls C) : isTys (.bl b) m [t] = some (match t with | .int => true | .bool => true | _ => false) := by
  cases t <;> first | rfl | exact absurd rfl (h _)
@[simp] theorem isTy_non (t : Ty) (h : ∀ C, t ≠ .cls C) : isTys .non m [t] = some false := by
  cases t <;> first | rfl | exact absurd rfl (h _)
@[simp] theorem isTy_str (t : Ty) (h : ∀ C, t ≠ .cls C) : isTys (.str x) m [t] = some (match t with | .str => true | _ => false) := by
  cases t <;> first | rfl | exact absurd rfl (h _)
@[simp] theorem isTy_tup (t : Ty) (h : ∀ C, t ≠ .cls C) : isTys (.tup xs) m [t] = some (match t with | .tuple => true | _ => false) := by
  cases t <;> first | rfl | exact absurd rfl (h _)
@[simp] theorem isTy_lst (t : Ty) (h : ∀ C, t ≠ .cls C) : isTys (.lst xs) m [t] = some (match t with | .list => true | _ => false) := by
  cases t <;> first | rfl | exact absurd rfl (h _)
@[simp] theorem len_tup : bltD .len [.tup xs] m = some (.int xs.length) := rfl
@[simp] theorem len_lst : bltD .len [.lst xs] m = some (.int xs.length) := rfl
@[simp] theorem len_fz : bltD .len [.fz xs] m = some (.int xs.length) := rfl
theorem len_str (h : x.length ≤ sizeLine) : bltD .len [.str x] m = some (.int x.length) := by
  simp [bltD, lenB, lenD, h]
@[simp] theorem int_int : bltD .int_ [.int i] m = some (.int i) := rfl
@[simp] theorem int_bl : bltD .int_ [.bl b] m = some (.int (if b then 1 else 0)) := rfl
@[simp] theorem abs_int : bltD .abs [.int i] m = some (.int (if i < 0 then -i else i)) := rfl
@[simp] theorem list_lst : bltD .list [.lst xs] m = some (.lst xs) := rfl
@[simp] theorem list_tup : bltD .list [.tup xs] m = some (.lst xs) := rfl
@[simp] theorem list_fz : bltD .list [.fz xs] m = some (.lst xs) := rfl
@[simp] theorem tuple_lst : bltD .tuple [.lst xs] m = some (.tup xs) := rfl
@[simp] theorem tuple_tup : bltD .tuple [.tup xs] m = some (.tup xs) := rfl
@[simp] theorem max2_int : bltD .max2 [.int i, .int j] m = some (.int (if j > i then j else i)) := rfl
@[simp] theorem min2_int : bltD .min2 [.int i, .int j] m = some (.int (if j < i then j else i)) := rfl
theorem blsD_map : ∀ bs : List Bool, blsD (bs.map D.bl) = some bs
  | [] => rfl
  | b :: bs => by rw [List.map_cons, blsD, blsD_map bs]; rfl
theorem all_map (bs : List Bool) : bltD .all [.lst (bs.map D.bl)] m = some (.bl (bs.all id)) := by
  show (blsD _).map _ = _
  rw [blsD_map]
  rfl
theorem any_map (bs : List Bool) : bltD .any [.lst (bs.map D.bl)] m = some (.bl (bs.any id)) := by
  show (blsD _).map _ = _
  rw [blsD_map]
  rfl
theorem intsD_map : ∀ bs : List Int, intsD (bs.map D.int) = some bs
  | [] => rfl
  | b :: bs => by rw [List.map_cons, intsD, intsD_map bs]; rfl
theorem sum_map (bs : List Int) : bltD .sum [.lst (bs.map D.int)] m = some (.int bs.sum) := by
  show (intsD _).map _ = _
  rw [intsD_map]
  rfl
theorem atI0 : atI (d :: xs) 0 = some d := by
  unfold atI ixN
  rw [if_pos (by omega), if_pos (by simp)]
  rfl
theorem atI1 : atI (d :: e :: xs) 1 = some e := by
  unfold atI ixN
  rw [if_pos (by omega), if_pos (by simp; omega)]
  rfl
@[simp] theorem idx_tup0 : idxD (.tup (d :: xs)) (.int 0) m = some d := atI0 xs d
@[simp] theorem idx_tup1 : idxD (.tup (d :: e :: xs)) (.int 1) m = some e := atI1 xs d e
@[simp] theorem idx_lst0 : idxD (.lst (d :: xs)) (.int 0) m = some d := atI0 xs d
@[simp] theorem idx_lst1 : idxD (.lst (d :: e :: xs)) (.int 1) m = some e := idx_tup1 xs d e m
theorem atI_nat (h : n < xs.length) : atI xs (n : Int) = some xs[n] := by
  unfold atI ixN
  rw [if_pos (by omega), if_pos (by omega)]
  simp [h]
theorem idx_lst_nat (h : n < xs.length) : idxD (.lst xs) (.int (n : Int)) m = some xs[n] := atI_nat xs n h
theorem idx_tup_nat (h : n < xs.length) : idxD (.tup xs) (.int (n : Int)) m = some xs[n] := atI_nat xs n h
@[simp] theorem items_lst : itemsD (.lst xs) = some xs := rfl
@[simp] theorem items_fz : itemsD (.fz xs) = some xs := rfl
@[simp] theorem items_tup : itemsD (.tup xs) = some xs := rfl
@[simp] theorem zip_tup : zipD (.tup xs) (.tup ys) = some ((xs.zip ys).map pairD) := rfl
@[simp] theorem zip_lst : zipD (.lst xs) (.lst ys) = some ((xs.zip ys).map pairD) := rfl
end
theorem tst_ok {f : Fr → MH → R D} {fr : Fr} {m m1 : MH} {d : D} {b : Bool} (h : f fr m = .ok d m1) (t : truD d = some b) : tst f fr m = .ok b m1 := by
  unfold tst
  rw [h]
  simp only [R.ok_bind, t]
end Mp
end
section
set_option Elab.async false
set_option linter.all false
set_option maxRecDepth 100000
set_option maxHeartbeats 1000000
/-! MpPl: plain data are equal to themselves. -/
namespace Mp
open PySem PySem.Spec PyProof.Rows L2
/-- plain data, so deep -/
def Pl : Nat → D → Prop
  | _, .non => True
  | _, .bl _ => True
  | _, .int _ => True
  | _, .str x => PyData.strOk x = true
  | k + 1, .tup xs => ∀ x ∈ xs, Pl k x
  | k + 1, .lst xs => ∀ x ∈ xs, Pl k x
  | k + 1, .fz xs => ∀ x ∈ xs, Pl k x
  | _, _ => False
def PdOk (k : Nat) (p : PyData) : Prop := p.canLay0 = true ∧ p.depth ≤ k ∧ PyData.eqv p p = true
theorem pdAll_ok (k : Nat) (h : ∀ d, Pl k d → ∃ p, pdOf d = some p ∧ PdOk k p) : ∀ ds : List D, (∀ d ∈ ds, Pl k d) → ∃ ps, pdAll ds = some ps ∧ PyData.canLayAll0 ps = true ∧ PyData.depthAll ps ≤ k ∧ PyData.eqvAll ps ps = true
  | [], _ => ⟨[], rfl, rfl, Nat.zero_le _, by unfold PyData.eqvAll; rfl⟩
  | d :: ds, hd => by
    obtain ⟨p, e1, p1, p2, p3⟩ := h d (hd d (List.mem_cons_self ..))
    obtain ⟨ps, e2, q1, q2, q3⟩ := pdAll_ok k h ds fun x hx => hd x (List.mem_cons_of_mem _ hx)
    refine ⟨p :: ps, by rw [pdAll, e1, e2], ?_, ?_, ?_⟩
    · rw [PyData.canLayAll0, p1, q1]; rfl
    · rw [PyData.depthAll]; omega
    · unfold PyData.eqvAll; rw [p3, q3]; rfl
theorem pd_ok : ∀ (k : Nat) (d : D), Pl k d → ∃ p, pdOf d = some p ∧ PdOk k p
  | k, .non, _ => ⟨.none, rfl, rfl, Nat.zero_le _, by unfold PyData.eqv; rfl⟩
  | k, .bl b, _ => ⟨.bool b, rfl, rfl, Nat.zero_le _, by unfold PyData.eqv; simp⟩
  | k, .int b, _ => ⟨.int b, rfl, rfl, Nat.zero_le _, by unfold PyData.eqv; simp⟩
  | k, .str x, h => ⟨.str x, rfl, by unfold Pl at h; exact h, Nat.zero_le _, by unfold PyData.eqv; simp⟩
  | k + 1, .tup xs, h => by
    obtain ⟨ps, e, h1, h2, h3⟩ := pdAll_ok k (pd_ok k) xs h
    exact ⟨.tuple ps, by rw [pdOf, e]; rfl, h1, by rw [PyData.depth]; omega, by unfold PyData.eqv; exact h3⟩
  | k + 1, .lst xs, h => by
    obtain ⟨ps, e, h1, h2, h3⟩ := pdAll_ok k (pd_ok k) xs h
    exact ⟨.list ps, by rw [pdOf, e]; rfl, h1, by rw [PyData.depth]; omega, by unfold PyData.eqv; exact h3⟩
  | k + 1, .fz xs, h => by
    obtain ⟨ps, e, h1, h2, h3⟩ := pdAll_ok k (pd_ok k) xs h
    exact ⟨.list ps, by rw [pdOf, e]; rfl, h1, by rw [PyData.depth]; omega, by unfold PyData.eqv; exact h3⟩
  | 0, .tup _, h => h.elim
  | 0, .lst _, h => h.elim
  | 0, .fz _, h => h.elim
  | 0, .dct _ _, h => h.elim
  | 0, .ins _ _ _, h => h.elim
  | 0, .ref _, h => h.elim
  | _ + 1, .dct _ _, h => h.elim
  | _ + 1, .ins _ _ _, h => h.elim
  | _ + 1, .ref _, h => h.elim
theorem shaped_of {k : Nat} {p : PyData} (hk : k ≤ 64) (h : PdOk k p) : SeqAt.shaped p = true := by
  unfold SeqAt.shaped
  rw [h.1, Bool.true_and]
  exact decide_eq_true (Nat.le_trans h.2.1 hk)
/-- Python's == on plain data, as a truth value -/
def eqv (a b : D) : Bool := match pdOf a, pdOf b with
  | some p, some q => PyData.eqv p q
  | _, _ => false
theorem eqDeep_pl {k : Nat} (hk : k ≤ 64) {a b : D} (ha : Pl k a) (hb : Pl k b) : eqDeep a b = some (eqv a b) := by
  obtain ⟨p, e1, p1⟩ := pd_ok k a ha
  obtain ⟨q, e2, q1⟩ := pd_ok k b hb
  unfold eqDeep eqv
  rw [e1, e2]
  dsimp only
  rw [shaped_of hk p1, shaped_of hk q1]
  rfl
theorem eqv_refl {k : Nat} {a : D} (ha : Pl k a) : eqv a a = true := by
  obtain ⟨p, e1, p1⟩ := pd_ok k a ha
  unfold eqv
  rw [e1]
  exact p1.2.2
theorem eqS_eqv {a b : D} {z : Bool} (h : eqS a b = some z) : eqv a b = z := by
  unfold eqS at h
  split at h <;> cases h <;> (unfold eqv pdOf; simp only [PyData.eqv]) <;> (rename_i i j; by_cases e : i = j <;> simp [e])
theorem eqD_ok {k : Nat} (hk : k ≤ 64) {a b : D} (ha : Pl k a) (hb : Pl k b) : eqD a b = some (eqv a b) := by
  unfold eqD
  cases e : eqS a b with
  | none => exact eqDeep_pl hk ha hb
  | some z => rw [eqS_eqv e]
theorem cmp_eq {k : Nat} (hk : k ≤ 64) {a b : D} (ha : Pl k a) (hb : Pl k b) : cmpD .eq a b = some (.bl (eqv a b)) := by
  have e : cmpD .eq a b = (eqD a b).map .bl := rfl
  rw [e, eqD_ok hk ha hb]
  rfl
theorem cmp_ne {k : Nat} (hk : k ≤ 64) {a b : D} (ha : Pl k a) (hb : Pl k b) : cmpD .ne a b = some (.bl (!eqv a b)) := by
  have e : cmpD .ne a b = (eqD a b).map fun z => .bl (!z) := rfl
  rw [e, eqD_ok hk ha hb]
  rfl
theorem any_self {p : PyData} : ∀ {ps : List PyData}, p ∈ ps → PyData.eqv p p = true → (ps.any fun z => PyData.eqv z p) = true := fun h e => List.any_eq_true.mpr ⟨p, h, e⟩
theorem pdAll_mem {x : D} {p : PyData} (e : pdOf x = some p) : ∀ {ys : List D} {ps : List PyData}, pdAll ys = some ps → x ∈ ys → p ∈ ps
  | [], _, _, h => nomatch h
  | y :: ys, ps, e2, h => by
    unfold pdAll at e2
    split at e2
    · rename_i d ds h1 h2
      cases e2
      rcases List.mem_cons.mp h with rfl | h
      · rw [e] at h1; cases h1; exact List.mem_cons_self ..
      · exact List.mem_cons_of_mem _ (pdAll_mem e h2 h)
    · cases e2
/-- a thing of a list is in it (no flat one) -/
theorem mem_self {k : Nat} (hk : k < 64) {x : D} {ys : List D} (hx : flatD x = false) (hy : ∀ y ∈ ys, Pl k y) (h : x ∈ ys) : memD x (.lst ys) = some true := by
  obtain ⟨p, e1, p1⟩ := pd_ok k x (hy x h)
  obtain ⟨ps, e2, q1, q2, q3⟩ := pdAll_ok k (pd_ok k) ys hy
  have s1 := shaped_of (Nat.le_of_lt hk) p1
  have s2 : SeqAt.shaped (.list ps) = true := shaped_of (k := k + 1) hk ⟨q1, by rw [PyData.depth]; omega, by unfold PyData.eqv; exact q3⟩
  have f : memF x ys = none := by unfold memF; rw [hx]; rfl
  show (match memF x ys with | some b => some b | none => memDeep x ys) = _
  rw [f]
  dsimp only
  unfold memDeep
  rw [e1, e2]
  dsimp only
  rw [s1, s2]
  exact congrArg some (any_self (pdAll_mem e1 e2 h) p1.2.2)
theorem cmp_nmem_self {k : Nat} (hk : k < 64) {x : D} {ys : List D} (hx : flatD x = false) (hy : ∀ y ∈ ys, Pl k y) (h : x ∈ ys) : cmpD .nmem x (.lst ys) = some (.bl false) := by
  have e : cmpD .nmem x (.lst ys) = (memD x (.lst ys)).map fun z => .bl (!z) := rfl
  rw [e, mem_self hk hx hy h]
  rfl
end Mp
end
section
set_option Elab.async false
set_option linter.all false
set_option maxRecDepth 100000
set_option maxHeartbeats 1000000
/-! MpCut: slices. -/
namespace Mp
open PySem PySem.Spec PyProof.Rows L2
theorem sIx_nat (n d i : Nat) : HT.sIx n d (some (i : Int)) = min i n := by
  unfold HT.sIx
  dsimp only
  rw [if_neg (by omega)]
  rfl
theorem sIx_none (n d : Nat) : HT.sIx n d none = d := rfl
theorem cut_from (xs : List D) (i : Nat) : cutD xs (some (i : Int)) none = xs.drop i := by
  unfold cutD
  rw [sIx_nat, sIx_none]
  by_cases h : i ≤ xs.length
  · rw [Nat.min_eq_left h]
    exact List.take_of_length_le (by rw [List.length_drop]; exact Nat.le_refl _)
  · rw [Nat.min_eq_right (by omega), Nat.sub_self, List.take_zero, List.drop_eq_nil_of_le (by omega)]
theorem cut_to (xs : List D) (j : Nat) : cutD xs none (some (j : Int)) = xs.take j := by
  unfold cutD
  rw [sIx_nat, sIx_none, List.drop_zero, Nat.sub_zero, ← List.take_take, List.take_length]
theorem cut_to' (xs : List D) (j : Nat) : cutD xs (some 0) (some (j : Int)) = xs.take j := cut_to xs j
end Mp
end
section
set_option Elab.async false
set_option linter.all false
set_option maxRecDepth 100000
set_option maxHeartbeats 1000000
/-! MpAlike: a law's own comparison: equal data are alike. -/
namespace Mp
open PySem PySem.Spec PyProof.Rows L2
def mAlike (n : Nat) : List St := [.ife (.orv (.isN (.loc 1)) (.isN (.loc 0))) [.ret (.andv (.isN (.loc 1)) (.isN (.loc 0)))] [], .ife (.orv (.isi (.loc 1) [.bool]) (.isi (.loc 0) [.bool])) [.ret (.andv (.isi (.loc 1) [.bool]) (.andv (.isi (.loc 0) [.bool]) (.cmp .eq (.loc 0) (.loc 1))))] [], .ife (.orv (.isi (.loc 1) [.str]) (.isi (.loc 0) [.str])) [.ret (.andv (.isi (.loc 1) [.str]) (.andv (.isi (.loc 0) [.str]) (.cmp .eq (.loc 0) (.loc 1))))] [], .ife (.orv (.isi (.loc 1) [.int]) (.isi (.loc 0) [.int])) [.ret (.andv (.isi (.loc 1) [.int]) (.andv (.isi (.loc 0) [.int]) (.cmp .eq (.loc 0) (.loc 1))))] [], .ife (.cmp .ne (.isi (.loc 1) [.tuple]) (.isi (.loc 0) [.tuple])) [.ret (.k (.bl false))] [], .ife (.cmp .ne (.isi (.loc 1) [.list]) (.isi (.loc 0) [.list])) [.ret (.k (.bl false))] [], .ret (.andv (.cmp .eq (.blt .len [(.loc 0)]) (.blt .len [(.loc 1)])) (.blt .all [(.comp [2, 3] (.tup [.nm 2, .nm 3]) (.zip (.loc 0) (.loc 1)) [] (.call n [(.loc 2), (.loc 3)]))]))]
/-- data that the comparison goes through, so deep -/
def Alk : Nat → D → Prop
  | 0, _ => False
  | _ + 1, .non => True
  | _ + 1, .bl _ => True
  | _ + 1, .int _ => True
  | _ + 1, .str _ => True
  | k + 1, .tup xs => xs.length ≤ sizeLine ∧ ∀ x ∈ xs, Alk k x
  | k + 1, .lst xs => xs.length ≤ sizeLine ∧ ∀ x ∈ xs, Alk k x
  | _ + 1, _ => False
theorem Alk.up : ∀ {k : Nat} {d : D}, Alk k d → Alk (k + 1) d
  | 0, _, h => h.elim
  | _ + 1, .non, _ => True.intro
  | _ + 1, .bl _, _ => True.intro
  | _ + 1, .int _, _ => True.intro
  | _ + 1, .str _, _ => True.intro
  | k + 1, .tup xs, h => ⟨h.1, fun x hx => Alk.up (h.2 x hx)⟩
  | k + 1, .lst xs, h => ⟨h.1, fun x hx => Alk.up (h.2 x hx)⟩
  | _ + 1, .fz _, h => h.elim
  | _ + 1, .dct _ _, h => h.elim
  | _ + 1, .ins _ _ _, h => h.elim
  | _ + 1, .ref _, h => h.elim
section
variable (G : Gt) (mkx : Nat → List D → Option Exn) (n : Nat)
theorem alike_comp (P : D → Prop) (h : ∀ d m, P d → G.fn n [d, d] m = .ok (.bl true) m) (f0 f1 f2 f3 : Option Sl) (m : MH) : ∀ (xs : List D) (acc : List D), (∀ x ∈ xs, P x) → acc.length + xs.length ≤ sizeLine →
    compGo [2, 3] (.tup [.nm 2, .nm 3]) [] (ev G (.call n [(.loc 2), (.loc 3)])) [f0, f1, f2, f3] ((xs.zip xs).map pairD) acc m = .ok (acc ++ List.replicate xs.length (.bl true)) m
  | [], acc, _, _ => by simp [compGo]
  | x :: xs, acc, hx, hl => by
    rw [List.zip_cons_cons, List.map_cons]
    have hl1 : acc.length < sizeLine := by simp at hl; omega
    have ih := alike_comp P h f0 f1 f2 f3 m xs (acc ++ [.bl true]) (fun y hy => hx y (List.mem_cons_of_mem _ hy)) (by simp at hl ⊢; omega)
    unfold compGo
    have t : tgD (.tup [.nm 2, .nm 3]) (pairD (x, x)) (wipeF [f0, f1, f2, f3] [2, 3]) = some [f0, f1, some (.val x), some (.val x)] := by
      simp [pairD, wipeF]
    rw [t]
    have hx0 := h x m (hx x (List.mem_cons_self ..))
    simp only [condGo, R.ok_bind, ev_call, evs_cons, evs_nil, ev_loc_succ, ev_loc_zero, hx0, isOk, hl1, if_true]
    rw [ih]
    simp [List.replicate_succ]
theorem alike_all (k : Nat) (m : MH) : bltD .all [.lst (List.replicate k (.bl true))] m = some (.bl true) := by
  have : ∀ k, blsD (List.replicate k (.bl true)) = some (List.replicate k true) := fun k => by
    induction k with
    | zero => rfl
    | succ k ih => rw [List.replicate_succ, blsD, ih]; rfl
  show (blsD (List.replicate k (.bl true))).map _ = _
  rw [this]
  simp
theorem alike_step (k : Nat) (h : ∀ d m, Alk k d → G.fn n [d, d] m = .ok (.bl true) m) (d : D) (m : MH) (hd : Alk (k + 1) d) : runF G mkx 2 4 (mAlike n) [d, d] m = .ok (.bl true) m := by
  refine runF_rt rfl ?_
  show exs G mkx (mAlike n) [some (.val d), some (.val d), none, none] m = _
  cases d with
  | non => simp [mAlike, tst]
  | bl b => simp [mAlike, tst]
  | int b => simp [mAlike, tst]
  | str b => simp [mAlike, tst]
  | tup xs =>
    have e := alike_comp G n (Alk k) h (some (.val (.tup xs))) (some (.val (.tup xs))) none none m xs [] hd.2 (by simpa using hd.1)
    simp [mAlike, tst, e, alike_all]
  | lst xs =>
    have e := alike_comp G n (Alk k) h (some (.val (.lst xs))) (some (.val (.lst xs))) none none m xs [] hd.2 (by simpa using hd.1)
    simp [mAlike, tst, e, alike_all]
  | fz _ => exact hd.elim
  | dct _ _ => exact hd.elim
  | ins _ _ _ => exact hd.elim
  | ref _ => exact hd.elim
end
end Mp
end
section
set_option Elab.async false
set_option linter.all false
set_option maxRecDepth 100000
set_option maxHeartbeats 1000000
/-! MpFn: one meaning for all defs of a program, by a bound on the depth of calls; what every law's joining needs. -/
namespace Mp
open PySem PySem.Spec PyProof.Rows L2
structure Pr where
  np : Nat
  st : Bool
  nl : Nat
  b : List St
structure Wl where
  mkx : Nat → List D → Option Exn
  why : Exn → Option D
  cst : Nat → D
  bnd : Nat → List D → List D → Option (List D)
  body : Nat → Pr
abbrev Fn : Type := List D → MH → R D
def gtW (P : Wl) (fn : Nat → Fn) : Gt := { fn := fn, cst := P.cst, bnd := P.bnd, why := P.why }
noncomputable def runP (P : Wl) (fn : Nat → Fn) (p : Pr) : Fn := if p.st = true then runFS (gtW P fn) P.mkx p.np p.nl p.b else runF (gtW P fn) P.mkx p.np p.nl p.b
noncomputable def FN (P : Wl) : Nat → Nat → Fn
  | 0, _ => fun _ _ => .bad
  | k + 1, f => runP P (FN P k) (P.body f)
@[simp] theorem gtW_fn (P : Wl) (fn : Nat → Fn) (f : Nat) : (gtW P fn).fn f = fn f := rfl
@[simp] theorem gtW_cst (P : Wl) (fn : Nat → Fn) (f : Nat) : (gtW P fn).cst f = P.cst f := rfl
@[simp] theorem gtW_bnd (P : Wl) (fn : Nat → Fn) (f : Nat) : (gtW P fn).bnd f = P.bnd f := rfl
@[simp] theorem gtW_why (P : Wl) (fn : Nat → Fn) : (gtW P fn).why = P.why := rfl
/-- an exception asked for by the law's own def: its tag and its field, if its class is among these -/
def wdG (nm : Nat → Str) (cl : List Nat) (x : Exn) : Option D := if x.c ∈ cl then (match ((x.ns.map nm).zip x.ds).lookup ("tag" : Str) with
  | some (D.str z) => (fdRunG D.non fdPs fdL z ((x.ns.map nm).zip x.ds)).map fun d => .tup [.str z, d]
  | _ => none) else none
theorem wdG_ok {S : Sta} {cl : List Nat} {cs : List Value} (h : ∀ C ∈ cl, PySem.W.exmAny S.K (.ref (S.ca C)) cs = some true ∧ Xfs S.K (S.ca C) (fdNames fdPs fdL)) : WhyOk S cs fdPs fdL (wdG S.nm cl) := ⟨fun x d e => by
  unfold wdG at e
  split at e
  · rename_i hc
    refine ⟨(h _ hc).1, (h _ hc).2, ?_⟩
    split at e
    · rename_i z hz
      obtain ⟨dv, e1, rfl⟩ := Option.map_eq_some_iff.mp e
      exact ⟨z, dv, hz, e1, rfl⟩
    · cases e
  · cases e⟩
/-! ### a call's values put in place -/
inductive Bp where
  | p (i : Nat) | k (i : Nat) | d (i : Nat)
def pick {A : Type} (l : List Bp) (us its ws : List A) : List A := l.filterMap fun b => match b with
  | .p i => us[i]?
  | .k i => ws[i]?
  | .d i => its[i]?
theorem vals_get {vs : List V} {us : List Value} (h : Vals vs us) : ∀ i : Nat, (vs[i]? = none ∧ us[i]? = none) ∨ ∃ v u, vs[i]? = some v ∧ us[i]? = some u ∧ RelV v u := by
  induction h with
  | nil => exact fun i => .inl ⟨rfl, rfl⟩
  | cons r t ih =>
    intro i
    cases i with
    | zero => exact .inr ⟨_, _, rfl, rfl, r⟩
    | succ i => simpa using ih i
theorem pick_rel {vs dvs zs : List V} {us its ws : List Value} : ∀ (l : List Bp), Vals vs us → Vals dvs its → Vals zs ws → Vals (pick l vs dvs zs) (pick l us its ws)
  | [], _, _, _ => .nil
  | b :: l, r, rT, rz => by
    have ih := pick_rel l r rT rz
    unfold pick at ih ⊢
    rw [List.filterMap_cons, List.filterMap_cons]
    cases b with
    | p i =>
      dsimp only
      rcases vals_get r i with ⟨e1, e2⟩ | ⟨v, u, e1, e2, q⟩
      · rw [e1, e2]; exact ih
      · rw [e1, e2]; exact .cons q ih
    | k i =>
      dsimp only
      rcases vals_get rz i with ⟨e1, e2⟩ | ⟨v, u, e1, e2, q⟩
      · rw [e1, e2]; exact ih
      · rw [e1, e2]; exact .cons q ih
    | d i =>
      dsimp only
      rcases vals_get rT i with ⟨e1, e2⟩ | ⟨v, u, e1, e2, q⟩
      · rw [e1, e2]; exact ih
      · rw [e1, e2]; exact .cons q ih
section
variable {S : Sta}
theorem RVs.uncons {ow : Addr → Prop} {io : List Addr} {H : Hp} {d : D} {ds : List D} {vs : List V} (h : RVs S ow io H (d :: ds) vs) : ∃ v r, vs = v :: r ∧ RV S ow io H d v ∧ RVs S ow io H ds r := by
  unfold RVs at h
  exact h
theorem RVs.unnil {ow : Addr → Prop} {io : List Addr} {H : Hp} {vs : List V} (h : RVs S ow io H [] vs) : vs = [] := by
  unfold RVs at h
  exact h
theorem cal0 {k : Nat} {x : Str} {n : Nat} {fa : Addr} {fd : FuncData} {ps : List Str} (h1 : S.mg x = some (.ref fa)) (h2 : PySem.W.keepIn S.K (.ref fa) = true) (h3 : ps.length = n) (h4 : Binds S.K fd ps []) : CalOk S k x n (fun _ _ => .bad) :=
  ⟨fa, fd, ps, h1, h2, h3, h4, ⟨fun vs H Q E h => by obtain ⟨_, _, _, _, _, _, _, _, p⟩ := h; exact p.elim, fun A outer s H args us vs Q E _ _ _ _ h => by obtain ⟨_, _, _, _, _, _, _, _, p⟩ := h; exact p.elim⟩⟩
theorem fn0_ok {k : Nat} {n : Nat} {fa : Addr} {fd : FuncData} {ps : List Str} : FnOk S.P S.w S.K S.mg S.base (L2.CX S.P S.w) k fa fd ps (spOf S n (fun _ _ => .bad)) :=
  ⟨fun vs H Q E h => by obtain ⟨_, _, _, _, _, _, _, _, p⟩ := h; exact p.elim, fun A outer s H args us vs Q E _ _ _ _ h => by obtain ⟨_, _, _, _, _, _, _, _, p⟩ := h; exact p.elim⟩
theorem fnr0_ok {k : Nat} {fa : Addr} : FnR S.P S.w S.K S.mg S.base (L2.CX S.P S.w) k fa (spR S (fun _ _ => .bad)) := by
  intro A outer s H us vs Q E _ _ _ h
  obtain ⟨_, _, _, _, _, _, _, p⟩ := h
  exact p.elim
theorem calR_mono {j k : Nat} {x : Str} {f : List D → MH → R D} (C : CalROk S j x f) (h : j ≤ k) : CalROk S k x f := by
  obtain ⟨fa, h1, h2, F⟩ := C
  exact ⟨fa, h1, h2, F.mono h⟩
theorem frIx_nil {x : Str} {f : Nat} (h : frIx [] x = some f) : False := by cases h
theorem frIx_cons {y : Str} {f : Nat} {r : List (Str × Nat)} {P : Str → Nat → Prop} (h0 : P y f) (hr : ∀ x g, frIx r x = some g → P x g) : ∀ x g, frIx ((y, f) :: r) x = some g → P x g := fun x g h => by
  unfold frIx at h
  split at h
  · rename_i e
    cases h
    subst e
    exact h0
  · exact hr x g h
end
end Mp
end
section
set_option Elab.async false
set_option linter.all false
set_option maxRecDepth 100000
set_option maxHeartbeats 0

/-! PProg: the defs of the program and of the laws, as the layer turns them; numbers. -/
namespace Kb
open PySem PySem.Spec PyProof.Rows L2 Mp
abbrev n_is_number : Nat := 0
def m_is_number : List Mp.St := [.ret (.andv (.isi (.loc 0) [.int]) (.notv (.isi (.loc 0) [.bool])))]
abbrev n_common : Nat := 1
def m_common : List Mp.St := [.whl (.cmp .gt (.loc 1) (.k (.int 0))) [.asg (.tup [.nm 0, .nm 1]) (.tup [(.loc 1), (.bin .mod (.loc 0) (.loc 1))])], .ret (.loc 0)]
abbrev n_fraction : Nat := 2
def m_fraction : List Mp.St := [.ife (.cmp .eq (.loc 1) (.k (.int 0))) [.rais 2 []] [], .ife (.cmp .lt (.loc 1) (.k (.int 0))) [.asg (.tup [.nm 0, .nm 1]) (.tup [(.neg (.loc 0)), (.neg (.loc 1))])] [], .asg (.nm 2) (.call 1 [(.blt .abs [(.loc 0)]), (.loc 1)]), .ret (.tup [(.bin .fdiv (.loc 0) (.loc 2)), (.bin .fdiv (.loc 1) (.loc 2))])]
abbrev n_is_fraction : Nat := 3
def m_is_fraction : List Mp.St := [.ife (.orv (.notv (.isi (.loc 0) [.tuple])) (.orv (.cmp .ne (.blt .len [(.loc 0)]) (.k (.int 2))) (.notv (.blt .all [(.comp [1] (.nm 1) (.loc 0) [] (.call 0 [(.loc 1)]))])))) [.ret (.k (.bl false))] [], .ret (.andv (.cmp .gt (.idx (.loc 0) (.k (.int 1))) (.k (.int 0))) (.cmp .eq (.call 1 [(.blt .abs [(.idx (.loc 0) (.k (.int 0)))]), (.idx (.loc 0) (.k (.int 1)))]) (.k (.int 1))))]
abbrev n__law_bag : Nat := 4
def m__law_bag : List Mp.St := [.asg (.nm 1) (.blt .list [(.sl (.loc 0) (.k .non) (.prt (.k (.int 63))))]), .asg (.nm 2) (.bin .add (.k (.int 3848)) (.bin .mul (.k (.int 29)) (.blt .len [(.loc 1)]))), .for_ (.nm 3) (.loc 1) [.asg (.nm 2) (.bin .mod (.blt .int_ [(.bin .add (.bin .add (.bin .mul (.loc 2) (.k (.int 40507))) (.bin .mod (.blt .int_ [(.loc 3)]) (.k (.int 2147483399)))) (.k (.int 13)))]) (.k (.int 2147483563)))], .retS (.lst [(.loc 1), .k (.int 0), .k (.int 0), (.loc 2)])]
abbrev n__law_draw : Nat := 5
def m__law_draw : List Mp.St := [.ife (.andv (.cmp .eq (.idx (.loc 0) (.k (.int 2))) (.k (.int 0))) (.cmp .lt (.idx (.loc 0) (.k (.int 1))) (.blt .len [(.idx (.loc 0) (.k (.int 0)))]))) [.asg (.nm 2) (.idx (.idx (.loc 0) (.k (.int 0))) (.idx (.loc 0) (.k (.int 1)))), .setX (.loc 0) (.k (.int 1)) (.bin .add (.idx (.loc 0) (.k (.int 1))) (.k (.int 1))), .ife (.cmp .ge (.loc 2) (.bin .pow (.k (.int 10)) (.k (.int 18)))) [.setX (.loc 0) (.k (.int 2)) (.loc 2)] [.asg (.nm 4) (.bin .add (.bin .mul (.idx (.loc 0) (.k (.int 3))) (.k (.int 39373))) (.bin .mod (.blt .int_ [(.loc 2)]) (.k (.int 2000000011)))), .setX (.loc 0) (.k (.int 3)) (.bin .mod (.blt .int_ [(.bin .add (.loc 4) (.idx (.loc 0) (.k (.int 1))))]) (.k (.int 2147483563)))]] [], .ife (.cmp .gt (.idx (.loc 0) (.k (.int 2))) (.k (.int 0))) [.asg (.nm 3) (.bin .mod (.blt .int_ [(.idx (.loc 0) (.k (.int 2)))]) (.loc 1)), .setX (.loc 0) (.k (.int 2)) (.bin .fdiv (.idx (.loc 0) (.k (.int 2))) (.loc 1)), .ret (.loc 3)] [], .setX (.loc 0) (.k (.int 3)) (.bin .mod (.blt .int_ [(.bin .add (.bin .mul (.idx (.loc 0) (.k (.int 3))) (.k (.int 48889))) (.k (.int 1013)))]) (.k (.int 2147483563))), .ret (.bin .mod (.blt .int_ [(.bin .fdiv (.bin .mod (.blt .int_ [(.bin .mul (.idx (.loc 0) (.k (.int 3))) (.idx (.loc 0) (.k (.int 3))))]) (.k (.int 999999937))) (.k (.int 31)))]) (.loc 1))]
abbrev n__law_of : Nat := 6
def m__law_of : List Mp.St := [.ret (.idx (.loc 1) (.call 5 [(.loc 0), (.blt .len [(.loc 1)])]))]
abbrev n__law_low : Nat := 7
def m__law_low : List Mp.St := [.asg (.tup [.nm 3, .nm 4]) (.tup [(.blt .abs [(.loc 0)]), (.blt .abs [(.loc 1)])]), .whl (.cmp .gt (.loc 4) (.k (.int 0))) [.asg (.tup [.nm 3, .nm 4]) (.tup [(.loc 4), (.bin .mod (.blt .int_ [(.loc 3)]) (.loc 4))])], .asg (.nm 2) (.ite (.cmp .lt (.loc 1) (.k (.int 0))) (.neg (.k (.int 1))) (.k (.int 1))), .ret (.tup [(.bin .fdiv (.bin .mul (.loc 2) (.loc 0)) (.loc 3)), (.bin .fdiv (.bin .mul (.loc 2) (.loc 1)) (.loc 3))])]
abbrev n__law_alike : Nat := 8
def m__law_alike : List Mp.St := [.ife (.orv (.isN (.loc 1)) (.isN (.loc 0))) [.ret (.andv (.isN (.loc 1)) (.isN (.loc 0)))] [], .ife (.orv (.isi (.loc 1) [.bool]) (.isi (.loc 0) [.bool])) [.ret (.andv (.isi (.loc 1) [.bool]) (.andv (.isi (.loc 0) [.bool]) (.cmp .eq (.loc 0) (.loc 1))))] [], .ife (.orv (.isi (.loc 1) [.str]) (.isi (.loc 0) [.str])) [.ret (.andv (.isi (.loc 1) [.str]) (.andv (.isi (.loc 0) [.str]) (.cmp .eq (.loc 0) (.loc 1))))] [], .ife (.orv (.isi (.loc 1) [.int]) (.isi (.loc 0) [.int])) [.ret (.andv (.isi (.loc 1) [.int]) (.andv (.isi (.loc 0) [.int]) (.cmp .eq (.loc 0) (.loc 1))))] [], .ife (.cmp .ne (.isi (.loc 1) [.tuple]) (.isi (.loc 0) [.tuple])) [.ret (.k (.bl false))] [], .ife (.cmp .ne (.isi (.loc 1) [.list]) (.isi (.loc 0) [.list])) [.ret (.k (.bl false))] [], .ret (.andv (.cmp .eq (.blt .len [(.loc 0)]) (.blt .len [(.loc 1)])) (.blt .all [(.comp [2, 3] (.tup [.nm 2, .nm 3]) (.zip (.loc 0) (.loc 1)) [] (.call 8 [(.loc 2), (.loc 3)]))]))]
abbrev n_fraction_text : Nat := 12
def m_fraction_text : List Mp.St := [.ret (.ite (.cmp .eq (.idx (.loc 0) (.k (.int 1))) (.k (.int 1))) (.fmt (.idx (.loc 0) (.k (.int 0)))) (.fs [(.fmt (.idx (.loc 0) (.k (.int 0)))), .k (.str "/"), (.fmt (.idx (.loc 0) (.k (.int 1))))]))]
abbrev n_number_in : Nat := 13
def m_number_in : List Mp.St := [.ife (.orv (.cmp .eq (.loc 0) (.k (.str ""))) (.orv (.notv (.blt .all [(.comp [2] (.nm 2) (.loc 0) [] (.cmp .mem (.loc 2) (.cst 2)))])) (.andv (.cmp .gt (.blt .len [(.loc 0)]) (.k (.int 1))) (.cmp .eq (.idx (.loc 0) (.k (.int 0))) (.k (.str "0")))))) [.ret (.k .non)] [], .asg (.nm 1) (.k (.int 0)), .for_ (.nm 2) (.loc 0) [.asg (.nm 1) (.bin .add (.bin .mul (.k (.int 10)) (.loc 1)) (.m1 .index (.cst 2) (.loc 2)))], .ret (.loc 1)]
abbrev n_integer_in : Nat := 14
def m_integer_in : List Mp.St := [.ife (.cmp .ne (.sl (.loc 0) (.k .non) (.prt (.k (.int 1)))) (.k (.str "-"))) [.ret (.call 13 [(.loc 0)])] [], .asg (.nm 1) (.call 13 [(.sl (.loc 0) (.prt (.k (.int 1))) (.k .non))]), .ret (.ite (.orv (.isN (.loc 1)) (.cmp .eq (.loc 1) (.k (.int 0)))) (.k .non) (.neg (.loc 1)))]
abbrev n_fraction_in : Nat := 15
def m_fraction_in : List Mp.St := [.asg (.tup [.nm 2, .nm 3, .nm 4]) (.m1 .partition (.loc 0) (.k (.str "/"))), .asg (.nm 1) (.tup [(.call 14 [(.loc 2)]), (.ite (.cmp .eq (.loc 3) (.k (.str ""))) (.k (.int 1)) (.call 13 [(.loc 4)]))]), .ife (.orv (.cmp .mem (.k .non) (.loc 1)) (.andv (.cmp .ne (.loc 3) (.k (.str ""))) (.cmp .lt (.idx (.loc 1) (.k (.int 1))) (.k (.int 2))))) [.ret (.k .non)] [], .ret (.ite (.call 3 [(.loc 1)]) (.loc 1) (.k .non))]
abbrev n_read_fraction : Nat := 16
def m_read_fraction : List Mp.St := [.asg (.nm 1) (.call 15 [(.loc 0)]), .ife (.isN (.loc 1)) [.rais 4 [(.loc 0)]] [], .ret (.loc 1)]
abbrev n__law_some_fraction : Nat := 17
def m__law_some_fraction : List Mp.St := [.asg (.tup [.nm 1, .nm 2]) (.tup [(.call 6 [(.loc 0), (.lst [.k (.int 0), .k (.int 1), .k (.int 2), .k (.int 5), (.call 5 [(.loc 0), .k (.int 30)])])]), (.call 6 [(.loc 0), (.lst [.k (.int 1), .k (.int 1), .k (.int 2), .k (.int 3), (.bin .add (.k (.int 1)) (.call 5 [(.loc 0), .k (.int 12)]))])])]), .ret (.call 7 [(.call 6 [(.loc 0), (.lst [(.loc 1), (.loc 1), (.neg (.loc 1))])]), (.loc 2)])]
abbrev n__law_fraction_text : Nat := 18
def m__law_fraction_text : List Mp.St := [.ret (.bin .add (.blt .str [(.idx (.loc 0) (.k (.int 0)))]) (.ite (.cmp .eq (.idx (.loc 0) (.k (.int 1))) (.k (.int 1))) (.k (.str "")) (.bin .add (.k (.str "/")) (.blt .str [(.idx (.loc 0) (.k (.int 1)))]))))]
abbrev n_law_k02 : Nat := 19
def m_law_k02 : List Mp.St := [.asg (.nm 1) (.call 4 [(.loc 0)]), .for_ (.nm 2) (.rng1 (.k (.int 8))) [.asg (.nm 3) (.call 6 [(.loc 1), (.lst [(.call 17 [(.loc 1)]), (.call 7 [(.bin .sub (.call 5 [(.loc 1), (.bin .pow (.k (.int 10)) (.k (.int 9)))]) (.bin .mul (.k (.int 5)) (.bin .pow (.k (.int 10)) (.k (.int 8))))), (.bin .add (.k (.int 1)) (.call 5 [(.loc 1), (.bin .pow (.k (.int 10)) (.k (.int 8)))]))])])]), .asg (.nm 4) (.call 18 [(.loc 3)]), .asg (.nm 5) (.lst [(.call 12 [(.loc 3)]), (.call 16 [(.loc 4)]), (.callK 16 3 [] [(.callK 12 4 [] [(.loc 3)])])]), .ife (.notv (.call 8 [(.loc 5), (.lst [(.loc 4), (.loc 3), (.loc 3)])])) [.ret (.k (.bl false))] [], .asg (.nm 6) (.call 6 [(.loc 1), (.lst [.k (.str ""), .k (.str "-"), .k (.str "-0"), .k (.str "01"), .k (.str "1/1"), .k (.str "2/4"), .k (.str "3/"), .k (.str "/3"), .k (.str "1/0"), .k (.str "1/02"), .k (.str "--1"), .k (.str "+1"), .k (.str "1/-2"), .k (.str " 1"), .k (.str "1 "), .k (.str "1/2/3"), .k (.str "a"), .k (.str "0/3")])]), .ife (.cmp .ne (.why (.call 16 [(.loc 6)])) (.tup [.k (.str "InvalidFraction"), (.loc 6)])) [.ret (.k (.bl false))] [], .asg (.nm 7) (.call 5 [(.loc 1), (.bin .add (.blt .len [(.loc 4)]) (.k (.int 1)))]), .asg (.nm 8) (.bin .add (.bin .add (.sl (.loc 4) (.k .non) (.prt (.loc 7))) (.call 6 [(.loc 1), (.lst [.k (.str " "), .k (.str "x"), .k (.str "+"), .k (.str ".")])])) (.sl (.loc 4) (.prt (.loc 7)) (.k .non))), .ife (.cmp .ne (.why (.call 16 [(.loc 8)])) (.tup [.k (.str "InvalidFraction"), (.loc 8)])) [.ret (.k (.bl false))] []], .ret (.cmp .eq (.lst [(.call 12 [(.tup [(.neg (.k (.int 7))), .k (.int 2)])]), (.call 16 [.k (.str "0")]), (.call 16 [.k (.str "-12/5")])]) (.lst [.k (.str "-7/2"), (.tup [.k (.int 0), .k (.int 1)]), (.tup [(.neg (.k (.int 12))), .k (.int 5)])]))]
abbrev n_plus : Nat := 20
def m_plus : List Mp.St := [.ret (.call 2 [(.bin .add (.bin .mul (.idx (.loc 0) (.k (.int 0))) (.idx (.loc 1) (.k (.int 1)))) (.bin .mul (.idx (.loc 1) (.k (.int 0))) (.idx (.loc 0) (.k (.int 1))))), (.bin .mul (.idx (.loc 0) (.k (.int 1))) (.idx (.loc 1) (.k (.int 1))))])]
abbrev n_minus : Nat := 21
def m_minus : List Mp.St := [.ret (.call 2 [(.bin .sub (.bin .mul (.idx (.loc 0) (.k (.int 0))) (.idx (.loc 1) (.k (.int 1)))) (.bin .mul (.idx (.loc 1) (.k (.int 0))) (.idx (.loc 0) (.k (.int 1))))), (.bin .mul (.idx (.loc 0) (.k (.int 1))) (.idx (.loc 1) (.k (.int 1))))])]
abbrev n_times : Nat := 22
def m_times : List Mp.St := [.ret (.call 2 [(.bin .mul (.idx (.loc 0) (.k (.int 0))) (.idx (.loc 1) (.k (.int 0)))), (.bin .mul (.idx (.loc 0) (.k (.int 1))) (.idx (.loc 1) (.k (.int 1))))])]
abbrev n_divided : Nat := 23
def m_divided : List Mp.St := [.ret (.call 2 [(.bin .mul (.idx (.loc 0) (.k (.int 0))) (.idx (.loc 1) (.k (.int 1)))), (.bin .mul (.idx (.loc 0) (.k (.int 1))) (.idx (.loc 1) (.k (.int 0))))])]
abbrev n_total : Nat := 24
def m_total : List Mp.St := [.asg (.nm 1) (.cst 0), .for_ (.nm 2) (.loc 0) [.asg (.nm 1) (.call 20 [(.loc 1), (.loc 2)])], .ret (.loc 1)]
abbrev n_order : Nat := 25
def m_order : List Mp.St := [.asg (.tup [.nm 2, .nm 3]) (.tup [(.bin .mul (.idx (.loc 0) (.k (.int 0))) (.idx (.loc 1) (.k (.int 1)))), (.bin .mul (.idx (.loc 1) (.k (.int 0))) (.idx (.loc 0) (.k (.int 1))))]), .ret (.bin .sub (.blt .int_ [(.cmp .gt (.loc 2) (.loc 3))]) (.blt .int_ [(.cmp .lt (.loc 2) (.loc 3))]))]
abbrev n_least : Nat := 26
def m_least : List Mp.St := [.asg (.nm 1) (.idx (.loc 0) (.k (.int 0))), .for_ (.nm 2) (.sl (.loc 0) (.prt (.k (.int 1))) (.k .non)) [.ife (.cmp .lt (.call 25 [(.loc 2), (.loc 1)]) (.k (.int 0))) [.asg (.nm 1) (.loc 2)] []], .ret (.loc 1)]
abbrev n__law_add : Nat := 27
def m__law_add : List Mp.St := [.ret (.call 7 [(.bin .add (.bin .mul (.idx (.loc 0) (.k (.int 0))) (.idx (.loc 1) (.k (.int 1)))) (.bin .mul (.idx (.loc 1) (.k (.int 0))) (.idx (.loc 0) (.k (.int 1))))), (.bin .mul (.idx (.loc 0) (.k (.int 1))) (.idx (.loc 1) (.k (.int 1))))])]
abbrev n__law_mul : Nat := 28
def m__law_mul : List Mp.St := [.ret (.call 7 [(.bin .mul (.idx (.loc 0) (.k (.int 0))) (.idx (.loc 1) (.k (.int 0)))), (.bin .mul (.idx (.loc 0) (.k (.int 1))) (.idx (.loc 1) (.k (.int 1))))])]
abbrev n_law_k03 : Nat := 29
def m_law_k03 : List Mp.St := [.asg (.nm 1) (.call 4 [(.loc 0)]), .for_ (.nm 2) (.rng1 (.k (.int 8))) [.asg (.tup [.nm 10, .nm 11, .nm 12]) (.comp [13] (.nm 13) (.rng1 (.k (.int 3))) [] (.call 17 [(.loc 1)])), .asg (.nm 3) (.bin .sub (.bin .mul (.idx (.loc 10) (.k (.int 0))) (.idx (.loc 11) (.k (.int 1)))) (.bin .mul (.idx (.loc 11) (.k (.int 0))) (.idx (.loc 10) (.k (.int 1))))), .asg (.nm 4) (.lst [(.call 20 [(.loc 10), (.loc 11)]), (.call 21 [(.loc 10), (.loc 11)]), (.call 22 [(.loc 10), (.loc 11)]), (.call 25 [(.loc 10), (.loc 11)]), (.call 25 [(.loc 11), (.loc 10)])]), .asg (.nm 5) (.lst [(.call 27 [(.loc 10), (.loc 11)]), (.call 27 [(.loc 10), (.tup [(.neg (.idx (.loc 11) (.k (.int 0)))), (.idx (.loc 11) (.k (.int 1)))])]), (.call 28 [(.loc 10), (.loc 11)])]), .asg (.nm 6) (.bin .sub (.blt .int_ [(.cmp .gt (.loc 3) (.k (.int 0)))]) (.blt .int_ [(.cmp .lt (.loc 3) (.k (.int 0)))])), .ife (.notv (.call 8 [(.loc 4), (.bin .add (.loc 5) (.lst [(.loc 6), (.bin .sub (.k (.int 0)) (.loc 6))]))])) [.ret (.k (.bl false))] [], .asg (.nm 7) (.ite (.cmp .eq (.idx (.loc 11) (.k (.int 0))) (.k (.int 0))) (.tup [.k (.str "ZeroDivisor"), .k .non]) (.tup [.k (.str ""), (.call 7 [(.bin .mul (.idx (.loc 10) (.k (.int 0))) (.idx (.loc 11) (.k (.int 1)))), (.bin .mul (.idx (.loc 10) (.k (.int 1))) (.idx (.loc 11) (.k (.int 0))))])])), .ife (.notv (.call 8 [(.why (.call 23 [(.loc 10), (.loc 11)])), (.loc 7)])) [.ret (.k (.bl false))] [], .asg (.nm 8) (.call 27 [(.call 27 [(.loc 10), (.loc 11)]), (.loc 12)]), .ife (.notv (.call 8 [(.lst [(.call 24 [(.loc 10), (.loc 11), (.loc 12)]), (.call 24 [(.loc 12)]), (.call 24 []), (.call 24 [(.loc 11), (.loc 11), (.loc 10), (.loc 10)])]), (.lst [(.loc 8), (.loc 12), (.tup [.k (.int 0), .k (.int 1)]), (.call 28 [(.call 27 [(.loc 10), (.loc 11)]), (.tup [.k (.int 2), .k (.int 1)])])])])) [.ret (.k (.bl false))] [], .asg (.nm 9) (.call 26 [(.loc 10), (.loc 11), (.loc 12)]), .ife (.orv (.cmp .nmem (.loc 9) (.lst [(.loc 10), (.loc 11), (.loc 12)])) (.blt .any [(.comp [14] (.nm 14) (.lst [(.loc 10), (.loc 11), (.loc 12)]) [] (.cmp .gt (.bin .mul (.idx (.loc 9) (.k (.int 0))) (.idx (.loc 14) (.k (.int 1)))) (.bin .mul (.idx (.loc 14) (.k (.int 0))) (.idx (.loc 9) (.k (.int 1))))))])) [.ret (.k (.bl false))] [], .ife (.cmp .ne (.lst [(.call 26 [(.loc 11)]), (.callK 25 5 [] [(.loc 10), (.loc 10)]), (.callK 20 6 [] [(.loc 11), (.loc 10)])]) (.lst [(.loc 11), .k (.int 0), (.idx (.loc 5) (.k (.int 0)))])) [.ret (.k (.bl false))] []], .ret (.k (.bl true))]
def nmG : Nat → Str
  | 0 => "tag"
  | 1 => "given"
  | 2 => "index"
  | 3 => "limit"
  | 4 => "stock"
  | 5 => "place"
  | 6 => "part"
  | 7 => "name"
  | 8 => "user"
  | 9 => "line"
  | _ => ""
def cnG : Nat → Str
  | 0 => "BodyError"
  | 1 => "Missing"
  | 2 => "ZeroDivisor"
  | 3 => "NothingLeft"
  | 4 => "InvalidFraction"
  | 5 => "InvalidStocks"
  | 6 => "InvalidStep"
  | 7 => "InvalidText"
  | 8 => "Work"
  | 9 => "StocksDiffer"
  | 10 => "TooMany"
  | 11 => "InvalidAmounts"
  | 12 => "InvalidShare"
  | 13 => "TooLittle"
  | 14 => "Vessel"
  | 15 => "InvalidCondition"
  | 16 => "Gate"
  | 17 => "InvalidChain"
  | 18 => "Chain"
  | 19 => "InvalidRun"
  | 20 => "Run"
  | 21 => "InvalidRow"
  | 22 => "Table"
  | 23 => "System"
  | 24 => "Family"
  | 25 => "Answer"
  | 26 => "Found"
  | 27 => "Never"
  | 28 => "InvalidWeighing"
  | 29 => "InvalidDistance"
  | 30 => "Reached"
  | 31 => "Approached"
  | 32 => "Endless"
  | 33 => "InvalidPlan"
  | 34 => "PlanReader"
  | 35 => "Circular"
  | 36 => "UnknownName"
  | 37 => "Expander"
  | 38 => "InvalidName"
  | 39 => "WrongKind"
  | 40 => "DuplicateName"
  | 41 => "Full"
  | 42 => "InUse"
  | 43 => "InvalidCommand"
  | 44 => "InvalidLimit"
  | 45 => "Shelf"
  | 46 => "InvalidPage"
  | 47 => "Desk"
  | _ => ""
def mkxG : Nat → List Mp.D → Option Exn := fun C ds => match C, ds with
  | 2, [] => some ⟨2, [0], [.str "ZeroDivisor"]⟩
  | 3, [] => some ⟨3, [0], [.str "NothingLeft"]⟩
  | 4, [d] => some ⟨4, [1, 0], [d, .str "InvalidFraction"]⟩
  | 5, [d] => some ⟨5, [1, 0], [d, .str "InvalidStocks"]⟩
  | 6, [d] => some ⟨6, [2, 0], [d, .str "InvalidStep"]⟩
  | 7, [] => some ⟨7, [0], [.str "InvalidText"]⟩
  | 9, [] => some ⟨9, [0], [.str "StocksDiffer"]⟩
  | 10, [d] => some ⟨10, [3, 0], [d, .str "TooMany"]⟩
  | 11, [d] => some ⟨11, [1, 0], [d, .str "InvalidAmounts"]⟩
  | 12, [d] => some ⟨12, [1, 0], [d, .str "InvalidShare"]⟩
  | 13, [d] => some ⟨13, [4, 0], [d, .str "TooLittle"]⟩
  | 15, [d] => some ⟨15, [2, 0], [d, .str "InvalidCondition"]⟩
  | 17, [] => some ⟨17, [0], [.str "InvalidChain"]⟩
  | 19, [d] => some ⟨19, [5, 0], [d, .str "InvalidRun"]⟩
  | 21, [d] => some ⟨21, [2, 0], [d, .str "InvalidRow"]⟩
  | 28, [d] => some ⟨28, [1, 0], [d, .str "InvalidWeighing"]⟩
  | 29, [d] => some ⟨29, [1, 0], [d, .str "InvalidDistance"]⟩
  | 33, [d] => some ⟨33, [6, 0], [d, .str "InvalidPlan"]⟩
  | 35, [d] => some ⟨35, [7, 0], [d, .str "Circular"]⟩
  | 36, [d] => some ⟨36, [7, 0], [d, .str "UnknownName"]⟩
  | 38, [d] => some ⟨38, [7, 0], [d, .str "InvalidName"]⟩
  | 39, [d] => some ⟨39, [7, 0], [d, .str "WrongKind"]⟩
  | 40, [d] => some ⟨40, [7, 0], [d, .str "DuplicateName"]⟩
  | 41, [d] => some ⟨41, [3, 0], [d, .str "Full"]⟩
  | 42, [d] => some ⟨42, [8, 0], [d, .str "InUse"]⟩
  | 43, [d] => some ⟨43, [2, 0], [d, .str "InvalidCommand"]⟩
  | 44, [d] => some ⟨44, [1, 0], [d, .str "InvalidLimit"]⟩
  | 46, [d] => some ⟨46, [9, 0], [d, .str "InvalidPage"]⟩
  | _, _ => none
def cstG : Nat → Mp.D
  | 0 => .tup [.int (0), .int (1)]
  | 2 => .str "0123456789"
  | _ => .non
def bndG : Nat → List Mp.D → List Mp.D → Option (List Mp.D)
  | 3, [], [z0] => some [z0]
  | 4, [], [z0] => some [z0]
  | 5, [], [z0, z1] => some [z1, z0]
  | 6, [], [z0, z1] => some [z1, z0]
  | _, _, _ => none
def bodyL : List (Nat × Pr) := [(0, ⟨1, false, 1, m_is_number⟩),
  (1, ⟨2, false, 2, m_common⟩),
  (2, ⟨2, false, 3, m_fraction⟩),
  (3, ⟨1, false, 2, m_is_fraction⟩),
  (4, ⟨1, false, 4, m__law_bag⟩),
  (5, ⟨2, false, 5, m__law_draw⟩),
  (6, ⟨2, false, 2, m__law_of⟩),
  (7, ⟨2, false, 5, m__law_low⟩),
  (8, ⟨2, false, 4, m__law_alike⟩),
  (12, ⟨1, false, 1, m_fraction_text⟩),
  (13, ⟨1, false, 3, m_number_in⟩),
  (14, ⟨1, false, 2, m_integer_in⟩),
  (15, ⟨1, false, 5, m_fraction_in⟩),
  (16, ⟨1, false, 2, m_read_fraction⟩),
  (17, ⟨1, false, 3, m__law_some_fraction⟩),
  (18, ⟨1, false, 1, m__law_fraction_text⟩),
  (19, ⟨1, false, 9, m_law_k02⟩),
  (20, ⟨2, false, 2, m_plus⟩),
  (21, ⟨2, false, 2, m_minus⟩),
  (22, ⟨2, false, 2, m_times⟩),
  (23, ⟨2, false, 2, m_divided⟩),
  (24, ⟨0, true, 3, m_total⟩),
  (25, ⟨2, false, 4, m_order⟩),
  (26, ⟨0, true, 3, m_least⟩),
  (27, ⟨2, false, 2, m__law_add⟩),
  (28, ⟨2, false, 2, m__law_mul⟩),
  (29, ⟨1, false, 15, m_law_k03⟩)]
def bodyG (f : Nat) : Pr := (bodyL.lookup f).getD ⟨0, false, 0, []⟩
def PP (cl : List Nat) : Wl := { mkx := mkxG, why := wdG nmG cl, cst := cstG, bnd := bndG, body := bodyG }
noncomputable abbrev GG (cl : List Nat) (k : Nat) : Gt := gtW (PP cl) (FN (PP cl) k)
@[simp] theorem gg_cst (cl : List Nat) (g : Nat) : (PP cl).cst g = cstG g := rfl
@[simp] theorem gg_bnd (cl : List Nat) (b : Nat) : (PP cl).bnd b = bndG b := rfl
@[simp] theorem gg_why (cl : List Nat) : (PP cl).why = wdG nmG cl := rfl
theorem F_is_number (cl : List Nat) (k : Nat) : FN (PP cl) (k + 1) 0 = runF (GG cl k) mkxG 1 1 m_is_number := rfl
theorem F_common (cl : List Nat) (k : Nat) : FN (PP cl) (k + 1) 1 = runF (GG cl k) mkxG 2 2 m_common := rfl
theorem F_fraction (cl : List Nat) (k : Nat) : FN (PP cl) (k + 1) 2 = runF (GG cl k) mkxG 2 3 m_fraction := rfl
theorem F_is_fraction (cl : List Nat) (k : Nat) : FN (PP cl) (k + 1) 3 = runF (GG cl k) mkxG 1 2 m_is_fraction := rfl
theorem F__law_bag (cl : List Nat) (k : Nat) : FN (PP cl) (k + 1) 4 = runF (GG cl k) mkxG 1 4 m__law_bag := rfl
theorem F__law_draw (cl : List Nat) (k : Nat) : FN (PP cl) (k + 1) 5 = runF (GG cl k) mkxG 2 5 m__law_draw := rfl
theorem F__law_of (cl : List Nat) (k : Nat) : FN (PP cl) (k + 1) 6 = runF (GG cl k) mkxG 2 2 m__law_of := rfl
theorem F__law_low (cl : List Nat) (k : Nat) : FN (PP cl) (k + 1) 7 = runF (GG cl k) mkxG 2 5 m__law_low := rfl
theorem F__law_alike (cl : List Nat) (k : Nat) : FN (PP cl) (k + 1) 8 = runF (GG cl k) mkxG 2 4 m__law_alike := rfl
theorem F_fraction_text (cl : List Nat) (k : Nat) : FN (PP cl) (k + 1) 12 = runF (GG cl k) mkxG 1 1 m_fraction_text := rfl
theorem F_number_in (cl : List Nat) (k : Nat) : FN (PP cl) (k + 1) 13 = runF (GG cl k) mkxG 1 3 m_number_in := rfl
theorem F_integer_in (cl : List Nat) (k : Nat) : FN (PP cl) (k + 1) 14 = runF (GG cl k) mkxG 1 2 m_integer_in := rfl
theorem F_fraction_in (cl : List Nat) (k : Nat) : FN (PP cl) (k + 1) 15 = runF (GG cl k) mkxG 1 5 m_fraction_in := rfl
theorem F_read_fraction (cl : List Nat) (k : Nat) : FN (PP cl) (k + 1) 16 = runF (GG cl k) mkxG 1 2 m_read_fraction := rfl
theorem F__law_some_fraction (cl : List Nat) (k : Nat) : FN (PP cl) (k + 1) 17 = runF (GG cl k) mkxG 1 3 m__law_some_fraction := rfl
theorem F__law_fraction_text (cl : List Nat) (k : Nat) : FN (PP cl) (k + 1) 18 = runF (GG cl k) mkxG 1 1 m__law_fraction_text := rfl
theorem F_law_k02 (cl : List Nat) (k : Nat) : FN (PP cl) (k + 1) 19 = runF (GG cl k) mkxG 1 9 m_law_k02 := rfl
theorem F_plus (cl : List Nat) (k : Nat) : FN (PP cl) (k + 1) 20 = runF (GG cl k) mkxG 2 2 m_plus := rfl
theorem F_minus (cl : List Nat) (k : Nat) : FN (PP cl) (k + 1) 21 = runF (GG cl k) mkxG 2 2 m_minus := rfl
theorem F_times (cl : List Nat) (k : Nat) : FN (PP cl) (k + 1) 22 = runF (GG cl k) mkxG 2 2 m_times := rfl
theorem F_divided (cl : List Nat) (k : Nat) : FN (PP cl) (k + 1) 23 = runF (GG cl k) mkxG 2 2 m_divided := rfl
theorem F_total (cl : List Nat) (k : Nat) : FN (PP cl) (k + 1) 24 = runFS (GG cl k) mkxG 0 3 m_total := rfl
theorem F_order (cl : List Nat) (k : Nat) : FN (PP cl) (k + 1) 25 = runF (GG cl k) mkxG 2 4 m_order := rfl
theorem F_least (cl : List Nat) (k : Nat) : FN (PP cl) (k + 1) 26 = runFS (GG cl k) mkxG 0 3 m_least := rfl
theorem F__law_add (cl : List Nat) (k : Nat) : FN (PP cl) (k + 1) 27 = runF (GG cl k) mkxG 2 2 m__law_add := rfl
theorem F__law_mul (cl : List Nat) (k : Nat) : FN (PP cl) (k + 1) 28 = runF (GG cl k) mkxG 2 2 m__law_mul := rfl
theorem F_law_k03 (cl : List Nat) (k : Nat) : FN (PP cl) (k + 1) 29 = runF (GG cl k) mkxG 1 15 m_law_k03 := rfl
end Kb
end
section
set_option Elab.async false
set_option linter.all false
set_option maxRecDepth 100000
set_option maxHeartbeats 0

namespace K02
open PySem PySem.Spec PyProof.Rows L2
abbrev Pg : Program := PySem.Challenge.pw_kindlebody_k02_texts_of_fractions
def top (i : Nat) : Stmt := Pg.main.body.getD i (.Pass ⟨0, 0, 0, 0⟩)
def subSt : Stmt → Nat → Stmt
  | .ClassDef _ _ _ b _ _ _ _ _ _ _, j => b.getD j (.Pass ⟨0, 0, 0, 0⟩)
  | _, _ => .Pass ⟨0, 0, 0, 0⟩
def dd (x : Str) (i : Nat) (dfl : List He.Dv) : He.DefD := ⟨(x, none), x, x, defArgs (top i), defBody (top i), defScope (top i), dfl, []⟩
def fn : List He.DefD := [dd "is_number" 7 [], dd "common" 8 [], dd "is_fraction" 9 [], dd "fraction_text" 10 [], dd "number_in" 11 [], dd "integer_in" 12 [], dd "fraction_in" 13 [], dd "read_fraction" 14 [], dd "_law_bag" 16 [], dd "_law_draw" 17 [], dd "_law_of" 18 [], dd "_law_low" 19 [], dd "_law_some_fraction" 20 [], dd "_law_fraction_text" 21 [], dd "_law_alike" 22 [], dd "_law_field" 23 [], dd "_law_why" 24 [], dd "law" 25 []]
def ini : List Mp.IniD := [⟨"InvalidFraction", "InvalidFraction.__init__", defArgs (subSt (top 3) 0), defBody (subSt (top 3) 0), defScope (subSt (top 3) 0)⟩]
def gnames : List Str := ["is_number", "common", "is_fraction", "fraction_text", "number_in", "integer_in", "fraction_in", "read_fraction", "_law_bag", "_law_draw", "_law_of", "_law_low", "_law_some_fraction", "_law_fraction_text", "_law_alike", "_law_field", "_law_why", "law", "BodyError", "Missing", "InvalidFraction", "NothingLeft"]
def fa : List He.Fa := (Mp.bnames.map He.Fa.free) ++ [.free "super"] ++ gnames.map He.Fa.glo
def lam : List (Str × Option Str) := [("law", none)]
def fdn : List Str := ["given", "index", "name", "limit", "stock", "place", "part", "user", "tag", "line"]
def exC (K : Mp.Frag) : Bool := Mp.cstB K "DIGITS" (.str "0123456789")
def exX (K : Mp.Frag) : Bool := ini.all fun d => Mp.xcB K "/claim/cut.py" fdn d
def exW (K : Mp.Frag) : Bool := ini.all fun d => xfB K (He.ga K d.cls) && decide (PySem.W.exmAny K (.ref (He.ga K d.cls)) [.ref (He.ga K "BodyError"), .ref (He.ga K "Missing"), .ref (He.ga K "NothingLeft")] = some true)
def exL (K : Mp.Frag) : Bool := lam.all fun p => decide (Mp.codeAd K p ≠ 0)
def ex (K : Mp.Frag) : Bool := exC K && (exX K && (exW K && exL K))
abbrev R : PySem.W.OpenRow := PySem.W.OpenLaw.row PySem.Challenge.rw_kindlebody_k02_texts_of_fractions
abbrev hk : PySem.W.Hook := Mp.hookM 5 lam ex fa fn ini
def ob (s : PySem.W.SharedT) : Mp.AlM := Mp.obsMG 5 lam ex fa fn ini (HandSHeadRun.getT s)
theorem ob_eq (s : PySem.W.SharedT) : ob s = hk.obs s.abs := Mp.obsMG_eq (HandSHeadRun.getT_eq s)
abbrev loose : List Str := ["BodyError", "Missing", "InvalidFraction", "NothingLeft", "DIGITS", "is_number", "common", "is_fraction", "fraction_text", "number_in", "integer_in", "fraction_in", "read_fraction", "_law_bag", "_law_draw", "_law_of", "_law_low", "_law_some_fraction", "_law_fraction_text", "_law_alike", "_law_field", "_law_why"]
theorem run (w : World) : HandSHeadRun.RunEq R (PySem.W.view R.prog [25]) hk ob 6000 loose w := by
  intro os
  kernel_rfl
end K02
end
section
set_option Elab.async false
set_option linter.all false
set_option maxRecDepth 100000
set_option maxHeartbeats 0

namespace K02
open PySem PySem.Spec PyProof.Rows L2 Mp Kb
def Tf : List (Str × Nat × Nat) := [("is_number", 1, 0), ("common", 2, 1), ("is_fraction", 1, 3), ("fraction_text", 1, 12), ("number_in", 1, 13), ("integer_in", 1, 14), ("fraction_in", 1, 15), ("read_fraction", 1, 16), ("_law_bag", 1, 4), ("_law_draw", 2, 5), ("_law_of", 2, 6), ("_law_low", 2, 7), ("_law_some_fraction", 1, 17), ("_law_fraction_text", 1, 18), ("_law_alike", 2, 8)]
def Tk : List (Str × Nat × List Str × Nat × Nat) := [("read_fraction", 0, ["text"], 16, 3), ("fraction_text", 0, ["value"], 12, 4)]
def Tr : List (Str × Nat) := []
def Tx : List (Str × Nat × Nat) := [("InvalidFraction", 1, 4)]
def Tc : List (Str × Nat) := [("DIGITS", 2)]
def T : Tb := { fn := Tf, fk := Tk, xc := Tx, cs := Tc, wy := "_law_why", fr := Tr }
abbrev N_is_number : List Str := ["value"]
theorem c_is_number : cSs T false 60 { N := N_is_number, sc := defScope (top 7), fnT := true, lam := false } (defBody (top 7)) = some m_is_number := by kernel_rfl
theorem s_is_number : FnScope N_is_number ["value"] (defScope (top 7)) := ⟨rfl, rfl, rfl, by decide +kernel, rfl, by decide +kernel, by decide +kernel⟩
abbrev N_common : List Str := ["one", "other"]
theorem c_common : cSs T false 60 { N := N_common, sc := defScope (top 8), fnT := true, lam := false } (defBody (top 8)) = some m_common := by kernel_rfl
theorem s_common : FnScope N_common ["one", "other"] (defScope (top 8)) := ⟨rfl, rfl, rfl, by decide +kernel, rfl, by decide +kernel, by decide +kernel⟩
abbrev N_is_fraction : List Str := ["value", "part"]
theorem c_is_fraction : cSs T false 60 { N := N_is_fraction, sc := defScope (top 9), fnT := true, lam := false } (defBody (top 9)) = some m_is_fraction := by kernel_rfl
theorem s_is_fraction : FnScope N_is_fraction ["value"] (defScope (top 9)) := ⟨rfl, rfl, rfl, by decide +kernel, rfl, by decide +kernel, by decide +kernel⟩
abbrev N_fraction_text : List Str := ["value"]
theorem c_fraction_text : cSs T false 60 { N := N_fraction_text, sc := defScope (top 10), fnT := true, lam := false } (defBody (top 10)) = some m_fraction_text := by kernel_rfl
theorem s_fraction_text : FnScope N_fraction_text ["value"] (defScope (top 10)) := ⟨rfl, rfl, rfl, by decide +kernel, rfl, by decide +kernel, by decide +kernel⟩
abbrev N_number_in : List Str := ["text", "found", "sign"]
theorem c_number_in : cSs T false 60 { N := N_number_in, sc := defScope (top 11), fnT := true, lam := false } (defBody (top 11)) = some m_number_in := by kernel_rfl
theorem s_number_in : FnScope N_number_in ["text"] (defScope (top 11)) := ⟨rfl, rfl, rfl, by decide +kernel, rfl, by decide +kernel, by decide +kernel⟩
abbrev N_integer_in : List Str := ["text", "found"]
theorem c_integer_in : cSs T false 60 { N := N_integer_in, sc := defScope (top 12), fnT := true, lam := false } (defBody (top 12)) = some m_integer_in := by kernel_rfl
theorem s_integer_in : FnScope N_integer_in ["text"] (defScope (top 12)) := ⟨rfl, rfl, rfl, by decide +kernel, rfl, by decide +kernel, by decide +kernel⟩
abbrev N_fraction_in : List Str := ["text", "found", "top", "sign", "bottom"]
theorem c_fraction_in : cSs T false 60 { N := N_fraction_in, sc := defScope (top 13), fnT := true, lam := false } (defBody (top 13)) = some m_fraction_in := by kernel_rfl
theorem s_fraction_in : FnScope N_fraction_in ["text"] (defScope (top 13)) := ⟨rfl, rfl, rfl, by decide +kernel, rfl, by decide +kernel, by decide +kernel⟩
abbrev N_read_fraction : List Str := ["text", "found"]
theorem c_read_fraction : cSs T false 60 { N := N_read_fraction, sc := defScope (top 14), fnT := true, lam := false } (defBody (top 14)) = some m_read_fraction := by kernel_rfl
theorem s_read_fraction : FnScope N_read_fraction ["text"] (defScope (top 14)) := ⟨rfl, rfl, rfl, by decide +kernel, rfl, by decide +kernel, by decide +kernel⟩
abbrev N__law_bag : List Str := ["_law_script", "_law_row", "_law_mark", "_law_cell"]
theorem c__law_bag : cSs T true 60 { N := N__law_bag, sc := defScope (top 16), fnT := true, lam := false } (defBody (top 16)) = some m__law_bag := by kernel_rfl
theorem s__law_bag : FnScope N__law_bag ["_law_script"] (defScope (top 16)) := ⟨rfl, rfl, rfl, by decide +kernel, rfl, by decide +kernel, by decide +kernel⟩
abbrev N__law_draw : List Str := ["_law_bag_here", "_law_many", "_law_cell", "_law_found", "_law_mixed"]
theorem c__law_draw : cSs T false 60 { N := N__law_draw, sc := defScope (top 17), fnT := true, lam := false } (defBody (top 17)) = some m__law_draw := by kernel_rfl
theorem s__law_draw : FnScope N__law_draw ["_law_bag_here", "_law_many"] (defScope (top 17)) := ⟨rfl, rfl, rfl, by decide +kernel, rfl, by decide +kernel, by decide +kernel⟩
abbrev N__law_of : List Str := ["_law_bag_here", "_law_things"]
theorem c__law_of : cSs T false 60 { N := N__law_of, sc := defScope (top 18), fnT := true, lam := false } (defBody (top 18)) = some m__law_of := by kernel_rfl
theorem s__law_of : FnScope N__law_of ["_law_bag_here", "_law_things"] (defScope (top 18)) := ⟨rfl, rfl, rfl, by decide +kernel, rfl, by decide +kernel, by decide +kernel⟩
abbrev N__law_low : List Str := ["_law_top", "_law_bottom", "_law_sign", "_law_one", "_law_two"]
theorem c__law_low : cSs T false 60 { N := N__law_low, sc := defScope (top 19), fnT := true, lam := false } (defBody (top 19)) = some m__law_low := by kernel_rfl
theorem s__law_low : FnScope N__law_low ["_law_top", "_law_bottom"] (defScope (top 19)) := ⟨rfl, rfl, rfl, by decide +kernel, rfl, by decide +kernel, by decide +kernel⟩
abbrev N__law_some_fraction : List Str := ["_law_bag_here", "_law_top", "_law_bottom"]
theorem c__law_some_fraction : cSs T false 60 { N := N__law_some_fraction, sc := defScope (top 20), fnT := true, lam := false } (defBody (top 20)) = some m__law_some_fraction := by kernel_rfl
theorem s__law_some_fraction : FnScope N__law_some_fraction ["_law_bag_here"] (defScope (top 20)) := ⟨rfl, rfl, rfl, by decide +kernel, rfl, by decide +kernel, by decide +kernel⟩
abbrev N__law_fraction_text : List Str := ["_law_my_value"]
theorem c__law_fraction_text : cSs T false 60 { N := N__law_fraction_text, sc := defScope (top 21), fnT := true, lam := false } (defBody (top 21)) = some m__law_fraction_text := by kernel_rfl
theorem s__law_fraction_text : FnScope N__law_fraction_text ["_law_my_value"] (defScope (top 21)) := ⟨rfl, rfl, rfl, by decide +kernel, rfl, by decide +kernel, by decide +kernel⟩
abbrev N__law_alike : List Str := ["_law_found", "_law_due", "_law_one", "_law_two"]
theorem c__law_alike : cSs T false 60 { N := N__law_alike, sc := defScope (top 22), fnT := true, lam := false } (defBody (top 22)) = some m__law_alike := by kernel_rfl
theorem s__law_alike : FnScope N__law_alike ["_law_found", "_law_due"] (defScope (top 22)) := ⟨rfl, rfl, rfl, by decide +kernel, rfl, by decide +kernel, by decide +kernel⟩
abbrev N_law : List Str := ["_law_script", "_law_bag_here", "_law_turn", "_law_my_value", "_law_my_text", "_law_told", "_law_odd", "_law_at", "_law_late"]
theorem c_law : cSs T false 60 { N := N_law, sc := defScope (top 25), fnT := true, lam := true } (defBody (top 25)) = some m_law_k02 := by kernel_rfl
theorem s_law : FnScope N_law ["_law_script"] (defScope (top 25)) := ⟨rfl, rfl, rfl, by decide +kernel, rfl, by decide +kernel, by decide +kernel⟩
end K02
end
section
set_option Elab.async false
set_option linter.all false
set_option maxRecDepth 100000
set_option maxHeartbeats 0

namespace K02
open PySem PySem.Spec PyProof.Rows L2 Mp Kb
def cl : List Nat := [4]
section
variable (w : World) (K0 : Mp.Frag) (mg : Str → Option Value) (base : Heap)
abbrev Kc : Mp.Frag := cutK lam K0
def Sx : Sta := { P := Pg, w := w, K := Kc K0, mg := mg, base := base, nm := nmG, ca := fun C => He.ga (Kc K0) (cnG C), tb := [(tabAd K0 ("law", none), lamQ "law" (defScope (top 25)))] }
end
section
variable {w : World} {K0 : Mp.Frag} {mg : Str → Option Value} {base : Heap}
abbrev SA (K0 : Mp.Frag) : Prop := SaysM lam ex fa fn ini K0
theorem glo (X : (Kc K0).In base) (G : base.Ns mainGlobals mg) (c : SA K0) (x : Str) (h : x ∈ gnames) : mg x = some (.ref (He.ga (Kc K0) x)) := He.glo_ok X G (saysD_mem c.d (List.mem_append_right _ (List.mem_map_of_mem h)))
theorem fre (X : (Kc K0).In base) (G : base.Ns mainGlobals mg) (c : SA K0) {x : Str} (h : He.Fa.free x ∈ fa) : mg x = none := He.free_ok X G (saysD_mem c.d h)
theorem exs_ (c : SA K0) : exC (Kc K0) = true ∧ exX (Kc K0) = true ∧ exW (Kc K0) = true ∧ exL (Kc K0) = true := by
  have e := c.ex
  unfold ex at e
  simp only [Bool.and_eq_true] at e
  exact ⟨e.1, e.2.1, e.2.2.1, e.2.2.2⟩
theorem bl_ (X : (Kc K0).In base) (G : base.Ns mainGlobals mg) (c : SA K0) : ∀ x ∈ bnames, mg x = none := fun x hx => fre X G c (List.mem_append_left _ (List.mem_append_left _ (List.mem_map_of_mem hx)))
theorem cs_ (X : (Kc K0).In base) (G : base.Ns mainGlobals mg) (c : SA K0) : ∀ x g, csIx T.cs x = some g → CstOk (Sx w K0 mg base) x (cstG g) := by
  have e := (exs_ c).1
  unfold exC at e
  exact csIx_cons (cst_ok (S := Sx w K0 mg base) X G e) (fun _ _ h => by cases h)
theorem xa_InvalidFraction (c : SA K0) : ∃ f cc cda, XcAll Pg (Kc K0) fdn ⟨"InvalidFraction", "InvalidFraction.__init__", defArgs (subSt (top 3) 0), defBody (subSt (top 3) 0), defScope (subSt (top 3) 0)⟩ f cc cda := xc_ok (P := Pg) (K := Kc K0) (file := "/claim/cut.py") (ns := fdn) (d := ⟨"InvalidFraction", "InvalidFraction.__init__", defArgs (subSt (top 3) 0), defBody (subSt (top 3) 0), defScope (subSt (top 3) 0)⟩) (c.ini_ 0) (List.all_eq_true.mp (exs_ c).2.1 ⟨"InvalidFraction", "InvalidFraction.__init__", defArgs (subSt (top 3) 0), defBody (subSt (top 3) 0), defScope (subSt (top 3) 0)⟩ (List.mem_of_getElem? (i := 0) rfl)) (by decide +kernel) (by decide +kernel)
theorem xc_InvalidFraction (X : (Kc K0).In base) (G : base.Ns mainGlobals mg) (c : SA K0) : Xk (Sx w K0 mg base) "InvalidFraction" 4 1 (fun ws => [(nmG 1, ws.headD .non), (nmG 0, .str "InvalidFraction")]) := by
  obtain ⟨f, cc, cda, A⟩ := xa_InvalidFraction c
  exact xk1_of (S := Sx w K0 mg base) (tagN := 0) (fldN := 1) (z := "InvalidFraction") (tag := "tag") (fld := "given") (y := "given") A (xcs_ok (file := "") (by decide +kernel) (show (Pg.main.scope.names.lookup ("super" : Str)).isSome = false from by decide +kernel)) (by kernel_rfl) (fun L f cda cc => ⟨_, rfl⟩) (glo X G c "InvalidFraction" (by decide +kernel)) (fre X G c (List.mem_append_left _ (List.mem_append_right _ (List.mem_singleton.mpr rfl)))) (show ("tag" : Str) ∈ fdn from by decide +kernel) (by decide +kernel) rfl rfl rfl (by decide +kernel) (by decide +kernel) (by decide +kernel) (by decide +kernel) (fun _ _ _ _ _ _ _ us hu => match us, hu with | [_, _], _ => rfl)
theorem xo_ (X : (Kc K0).In base) (G : base.Ns mainGlobals mg) (c : SA K0) : XcOk T (Sx w K0 mg base) mkxG :=
  fnIx_cons (.inr ⟨rfl, 1, 0, "InvalidFraction", xc_InvalidFraction X G c, fun _ => rfl⟩) (fun _ _ _ h => (fnIx_nil h).elim)
theorem wy_ (X : (Kc K0).In base) (G : base.Ns mainGlobals mg) (c : SA K0) : WhyDef (Sx w K0 mg base) "_law_why" (wdG nmG cl) := by
  obtain ⟨fF, FF⟩ := c.d.def_ 15 (d := dd "_law_field" 23 []) rfl
  obtain ⟨fW, FW⟩ := c.d.def_ 16 (d := dd "_law_why" 24 []) rfl
  have F := fdOk_of (S := Sx w K0 mg base) FF (glo X G c "_law_field" (by decide +kernel)) ⟨rfl, rfl, rfl, by decide +kernel, rfl, by decide +kernel, by decide +kernel⟩ (by kernel_rfl) (by decide +kernel) (fun _ _ _ _ _ _ us hu => match us, hu with | [_], _ => rfl)
  have hx := (exs_ c).2.2.1
  unfold exW at hx
  refine whyDef_of (S := Sx w K0 mg base) FW (glo X G c "_law_why" (by decide +kernel)) ⟨rfl, rfl, rfl, by decide +kernel, rfl, by decide +kernel, by decide +kernel⟩ (by decide +kernel) (by decide +kernel) (by decide +kernel) (by decide +kernel) (by decide +kernel) (by decide +kernel) (by decide +kernel)
    (glo X G c "BodyError" (by decide +kernel)) (glo X G c "Missing" (by decide +kernel)) (glo X G c "NothingLeft" (by decide +kernel)) F (wdG_ok fun C hC => ?_) (fun _ _ _ _ _ _ us hu => match us, hu with | [_], _ => rfl)
  simp only [cl, List.mem_cons, List.not_mem_nil, or_false] at hC
  rcases hC with rfl
  · obtain ⟨h1, h2⟩ := He.ba (List.all_eq_true.mp hx ⟨"InvalidFraction", "InvalidFraction.__init__", defArgs (subSt (top 3) 0), defBody (subSt (top 3) 0), defScope (subSt (top 3) 0)⟩ (List.mem_of_getElem? (i := 0) rfl))
    obtain ⟨f, cc, cda, A⟩ := xa_InvalidFraction c
    exact ⟨of_decide_eq_true h2, xfB_ok h1, fun n hn => A.no n (fd_sub n hn)⟩
structure Ok (S : Sta) (j : Nat) : Prop where
  fn : ∀ x n f, fnIx Tf x n = some f → CalOk S (3 * j + 3) x n (FN (PP cl) j f)
  fk : ∀ x n l f b, fkIx Tk x n l = some (f, b) → CalKOk S (3 * j + 3) x n l (bndG b) (FN (PP cl) j f)
  fr : ∀ x f, frIx Tr x = some f → CalROk S (3 * j + 3) x (FN (PP cl) j f)
theorem tb_ {j : Nat} (X : (Kc K0).In base) (G : base.Ns mainGlobals mg) (c : SA K0) (o : Ok (Sx w K0 mg base) j) : TbOk T (GG cl j) (Sx w K0 mg base) (3 * j + 3) :=
  ⟨o.fn, o.fk, cs_ X G c, bl_ X G c, wy_ X G c, o.fr⟩
theorem fd_is_number (c : SA K0) : ∃ fd, FunD (Kc K0) "is_number" "is_number" (defArgs (top 7)) (defBody (top 7)) (defScope (top 7)) [] [] (He.ga (Kc K0) "is_number") fd := c.d.def_ 0 (d := dd "is_number" 7 []) rfl
theorem f_is_number (X : (Kc K0).In base) (G : base.Ns mainGlobals mg) (c : SA K0) {fd : FuncData} (FD : FunD (Kc K0) "is_number" "is_number" (defArgs (top 7)) (defBody (top 7)) (defScope (top 7)) [] [] (He.ga (Kc K0) "is_number") fd) : ∀ j, (∀ i, i < j → Ok (Sx w K0 mg base) i) → FnOk Pg w (Kc K0) mg base (L2.CX Pg w) (3 * j + 3) (He.ga (Kc K0) "is_number") fd ["value"] (spOf (Sx w K0 mg base) 1 (FN (PP cl) j 0))
  | 0, _ => fn0_ok (S := Sx w K0 mg base)
  | j + 1, h => (def_ok (S := Sx w K0 mg base) (T := T) (k := 3 * j + 3) FD s_is_number rfl (tb_ X G c (h j (Nat.lt_succ_self j))) (by omega) (xo_ X G c) c_is_number).mono (by omega)
theorem k_is_number (X : (Kc K0).In base) (G : base.Ns mainGlobals mg) (c : SA K0) (j : Nat) (h : ∀ i, i < j → Ok (Sx w K0 mg base) i) : CalOk (Sx w K0 mg base) (3 * j + 3) "is_number" 1 (FN (PP cl) j 0) := by
  obtain ⟨fd, FD⟩ := fd_is_number c
  exact ⟨_, fd, ["value"], glo X G c "is_number" (by decide +kernel), FD.kp, rfl, FD.bindsN fun _ _ _ _ _ _ us hl => match us, hl with | [_], _ => rfl, f_is_number X G c FD j h⟩
theorem fd_common (c : SA K0) : ∃ fd, FunD (Kc K0) "common" "common" (defArgs (top 8)) (defBody (top 8)) (defScope (top 8)) [] [] (He.ga (Kc K0) "common") fd := c.d.def_ 1 (d := dd "common" 8 []) rfl
theorem f_common (X : (Kc K0).In base) (G : base.Ns mainGlobals mg) (c : SA K0) {fd : FuncData} (FD : FunD (Kc K0) "common" "common" (defArgs (top 8)) (defBody (top 8)) (defScope (top 8)) [] [] (He.ga (Kc K0) "common") fd) : ∀ j, (∀ i, i < j → Ok (Sx w K0 mg base) i) → FnOk Pg w (Kc K0) mg base (L2.CX Pg w) (3 * j + 3) (He.ga (Kc K0) "common") fd ["one", "other"] (spOf (Sx w K0 mg base) 2 (FN (PP cl) j 1))
  | 0, _ => fn0_ok (S := Sx w K0 mg base)
  | j + 1, h => (def_ok (S := Sx w K0 mg base) (T := T) (k := 3 * j + 3) FD s_common rfl (tb_ X G c (h j (Nat.lt_succ_self j))) (by omega) (xo_ X G c) c_common).mono (by omega)
theorem k_common (X : (Kc K0).In base) (G : base.Ns mainGlobals mg) (c : SA K0) (j : Nat) (h : ∀ i, i < j → Ok (Sx w K0 mg base) i) : CalOk (Sx w K0 mg base) (3 * j + 3) "common" 2 (FN (PP cl) j 1) := by
  obtain ⟨fd, FD⟩ := fd_common c
  exact ⟨_, fd, ["one", "other"], glo X G c "common" (by decide +kernel), FD.kp, rfl, FD.bindsN fun _ _ _ _ _ _ us hl => match us, hl with | [_, _], _ => rfl, f_common X G c FD j h⟩
theorem fd_is_fraction (c : SA K0) : ∃ fd, FunD (Kc K0) "is_fraction" "is_fraction" (defArgs (top 9)) (defBody (top 9)) (defScope (top 9)) [] [] (He.ga (Kc K0) "is_fraction") fd := c.d.def_ 2 (d := dd "is_fraction" 9 []) rfl
theorem f_is_fraction (X : (Kc K0).In base) (G : base.Ns mainGlobals mg) (c : SA K0) {fd : FuncData} (FD : FunD (Kc K0) "is_fraction" "is_fraction" (defArgs (top 9)) (defBody (top 9)) (defScope (top 9)) [] [] (He.ga (Kc K0) "is_fraction") fd) : ∀ j, (∀ i, i < j → Ok (Sx w K0 mg base) i) → FnOk Pg w (Kc K0) mg base (L2.CX Pg w) (3 * j + 3) (He.ga (Kc K0) "is_fraction") fd ["value"] (spOf (Sx w K0 mg base) 1 (FN (PP cl) j 3))
  | 0, _ => fn0_ok (S := Sx w K0 mg base)
  | j + 1, h => (def_ok (S := Sx w K0 mg base) (T := T) (k := 3 * j + 3) FD s_is_fraction rfl (tb_ X G c (h j (Nat.lt_succ_self j))) (by omega) (xo_ X G c) c_is_fraction).mono (by omega)
theorem k_is_fraction (X : (Kc K0).In base) (G : base.Ns mainGlobals mg) (c : SA K0) (j : Nat) (h : ∀ i, i < j → Ok (Sx w K0 mg base) i) : CalOk (Sx w K0 mg base) (3 * j + 3) "is_fraction" 1 (FN (PP cl) j 3) := by
  obtain ⟨fd, FD⟩ := fd_is_fraction c
  exact ⟨_, fd, ["value"], glo X G c "is_fraction" (by decide +kernel), FD.kp, rfl, FD.bindsN fun _ _ _ _ _ _ us hl => match us, hl with | [_], _ => rfl, f_is_fraction X G c FD j h⟩
theorem fd_fraction_text (c : SA K0) : ∃ fd, FunD (Kc K0) "fraction_text" "fraction_text" (defArgs (top 10)) (defBody (top 10)) (defScope (top 10)) [] [] (He.ga (Kc K0) "fraction_text") fd := c.d.def_ 3 (d := dd "fraction_text" 10 []) rfl
theorem f_fraction_text (X : (Kc K0).In base) (G : base.Ns mainGlobals mg) (c : SA K0) {fd : FuncData} (FD : FunD (Kc K0) "fraction_text" "fraction_text" (defArgs (top 10)) (defBody (top 10)) (defScope (top 10)) [] [] (He.ga (Kc K0) "fraction_text") fd) : ∀ j, (∀ i, i < j → Ok (Sx w K0 mg base) i) → FnOk Pg w (Kc K0) mg base (L2.CX Pg w) (3 * j + 3) (He.ga (Kc K0) "fraction_text") fd ["value"] (spOf (Sx w K0 mg base) 1 (FN (PP cl) j 12))
  | 0, _ => fn0_ok (S := Sx w K0 mg base)
  | j + 1, h => (def_ok (S := Sx w K0 mg base) (T := T) (k := 3 * j + 3) FD s_fraction_text rfl (tb_ X G c (h j (Nat.lt_succ_self j))) (by omega) (xo_ X G c) c_fraction_text).mono (by omega)
theorem k_fraction_text (X : (Kc K0).In base) (G : base.Ns mainGlobals mg) (c : SA K0) (j : Nat) (h : ∀ i, i < j → Ok (Sx w K0 mg base) i) : CalOk (Sx w K0 mg base) (3 * j + 3) "fraction_text" 1 (FN (PP cl) j 12) := by
  obtain ⟨fd, FD⟩ := fd_fraction_text c
  exact ⟨_, fd, ["value"], glo X G c "fraction_text" (by decide +kernel), FD.kp, rfl, FD.bindsN fun _ _ _ _ _ _ us hl => match us, hl with | [_], _ => rfl, f_fraction_text X G c FD j h⟩
theorem fd_number_in (c : SA K0) : ∃ fd, FunD (Kc K0) "number_in" "number_in" (defArgs (top 11)) (defBody (top 11)) (defScope (top 11)) [] [] (He.ga (Kc K0) "number_in") fd := c.d.def_ 4 (d := dd "number_in" 11 []) rfl
theorem f_number_in (X : (Kc K0).In base) (G : base.Ns mainGlobals mg) (c : SA K0) {fd : FuncData} (FD : FunD (Kc K0) "number_in" "number_in" (defArgs (top 11)) (defBody (top 11)) (defScope (top 11)) [] [] (He.ga (Kc K0) "number_in") fd) : ∀ j, (∀ i, i < j → Ok (Sx w K0 mg base) i) → FnOk Pg w (Kc K0) mg base (L2.CX Pg w) (3 * j + 3) (He.ga (Kc K0) "number_in") fd ["text"] (spOf (Sx w K0 mg base) 1 (FN (PP cl) j 13))
  | 0, _ => fn0_ok (S := Sx w K0 mg base)
  | j + 1, h => (def_ok (S := Sx w K0 mg base) (T := T) (k := 3 * j + 3) FD s_number_in rfl (tb_ X G c (h j (Nat.lt_succ_self j))) (by omega) (xo_ X G c) c_number_in).mono (by omega)
theorem k_number_in (X : (Kc K0).In base) (G : base.Ns mainGlobals mg) (c : SA K0) (j : Nat) (h : ∀ i, i < j → Ok (Sx w K0 mg base) i) : CalOk (Sx w K0 mg base) (3 * j + 3) "number_in" 1 (FN (PP cl) j 13) := by
  obtain ⟨fd, FD⟩ := fd_number_in c
  exact ⟨_, fd, ["text"], glo X G c "number_in" (by decide +kernel), FD.kp, rfl, FD.bindsN fun _ _ _ _ _ _ us hl => match us, hl with | [_], _ => rfl, f_number_in X G c FD j h⟩
theorem fd_integer_in (c : SA K0) : ∃ fd, FunD (Kc K0) "integer_in" "integer_in" (defArgs (top 12)) (defBody (top 12)) (defScope (top 12)) [] [] (He.ga (Kc K0) "integer_in") fd := c.d.def_ 5 (d := dd "integer_in" 12 []) rfl
theorem f_integer_in (X : (Kc K0).In base) (G : base.Ns mainGlobals mg) (c : SA K0) {fd : FuncData} (FD : FunD (Kc K0) "integer_in" "integer_in" (defArgs (top 12)) (defBody (top 12)) (defScope (top 12)) [] [] (He.ga (Kc K0) "integer_in") fd) : ∀ j, (∀ i, i < j → Ok (Sx w K0 mg base) i) → FnOk Pg w (Kc K0) mg base (L2.CX Pg w) (3 * j + 3) (He.ga (Kc K0) "integer_in") fd ["text"] (spOf (Sx w K0 mg base) 1 (FN (PP cl) j 14))
  | 0, _ => fn0_ok (S := Sx w K0 mg base)
  | j + 1, h => (def_ok (S := Sx w K0 mg base) (T := T) (k := 3 * j + 3) FD s_integer_in rfl (tb_ X G c (h j (Nat.lt_succ_self j))) (by omega) (xo_ X G c) c_integer_in).mono (by omega)
theorem k_integer_in (X : (Kc K0).In base) (G : base.Ns mainGlobals mg) (c : SA K0) (j : Nat) (h : ∀ i, i < j → Ok (Sx w K0 mg base) i) : CalOk (Sx w K0 mg base) (3 * j + 3) "integer_in" 1 (FN (PP cl) j 14) := by
  obtain ⟨fd, FD⟩ := fd_integer_in c
  exact ⟨_, fd, ["text"], glo X G c "integer_in" (by decide +kernel), FD.kp, rfl, FD.bindsN fun _ _ _ _ _ _ us hl => match us, hl with | [_], _ => rfl, f_integer_in X G c FD j h⟩
theorem fd_fraction_in (c : SA K0) : ∃ fd, FunD (Kc K0) "fraction_in" "fraction_in" (defArgs (top 13)) (defBody (top 13)) (defScope (top 13)) [] [] (He.ga (Kc K0) "fraction_in") fd := c.d.def_ 6 (d := dd "fraction_in" 13 []) rfl
theorem f_fraction_in (X : (Kc K0).In base) (G : base.Ns mainGlobals mg) (c : SA K0) {fd : FuncData} (FD : FunD (Kc K0) "fraction_in" "fraction_in" (defArgs (top 13)) (defBody (top 13)) (defScope (top 13)) [] [] (He.ga (Kc K0) "fraction_in") fd) : ∀ j, (∀ i, i < j → Ok (Sx w K0 mg base) i) → FnOk Pg w (Kc K0) mg base (L2.CX Pg w) (3 * j + 3) (He.ga (Kc K0) "fraction_in") fd ["text"] (spOf (Sx w K0 mg base) 1 (FN (PP cl) j 15))
  | 0, _ => fn0_ok (S := Sx w K0 mg base)
  | j + 1, h => (def_ok (S := Sx w K0 mg base) (T := T) (k := 3 * j + 3) FD s_fraction_in rfl (tb_ X G c (h j (Nat.lt_succ_self j))) (by omega) (xo_ X G c) c_fraction_in).mono (by omega)
theorem k_fraction_in (X : (Kc K0).In base) (G : base.Ns mainGlobals mg) (c : SA K0) (j : Nat) (h : ∀ i, i < j → Ok (Sx w K0 mg base) i) : CalOk (Sx w K0 mg base) (3 * j + 3) "fraction_in" 1 (FN (PP cl) j 15) := by
  obtain ⟨fd, FD⟩ := fd_fraction_in c
  exact ⟨_, fd, ["text"], glo X G c "fraction_in" (by decide +kernel), FD.kp, rfl, FD.bindsN fun _ _ _ _ _ _ us hl => match us, hl with | [_], _ => rfl, f_fraction_in X G c FD j h⟩
theorem fd_read_fraction (c : SA K0) : ∃ fd, FunD (Kc K0) "read_fraction" "read_fraction" (defArgs (top 14)) (defBody (top 14)) (defScope (top 14)) [] [] (He.ga (Kc K0) "read_fraction") fd := c.d.def_ 7 (d := dd "read_fraction" 14 []) rfl
theorem f_read_fraction (X : (Kc K0).In base) (G : base.Ns mainGlobals mg) (c : SA K0) {fd : FuncData} (FD : FunD (Kc K0) "read_fraction" "read_fraction" (defArgs (top 14)) (defBody (top 14)) (defScope (top 14)) [] [] (He.ga (Kc K0) "read_fraction") fd) : ∀ j, (∀ i, i < j → Ok (Sx w K0 mg base) i) → FnOk Pg w (Kc K0) mg base (L2.CX Pg w) (3 * j + 3) (He.ga (Kc K0) "read_fraction") fd ["text"] (spOf (Sx w K0 mg base) 1 (FN (PP cl) j 16))
  | 0, _ => fn0_ok (S := Sx w K0 mg base)
  | j + 1, h => (def_ok (S := Sx w K0 mg base) (T := T) (k := 3 * j + 3) FD s_read_fraction rfl (tb_ X G c (h j (Nat.lt_succ_self j))) (by omega) (xo_ X G c) c_read_fraction).mono (by omega)
theorem k_read_fraction (X : (Kc K0).In base) (G : base.Ns mainGlobals mg) (c : SA K0) (j : Nat) (h : ∀ i, i < j → Ok (Sx w K0 mg base) i) : CalOk (Sx w K0 mg base) (3 * j + 3) "read_fraction" 1 (FN (PP cl) j 16) := by
  obtain ⟨fd, FD⟩ := fd_read_fraction c
  exact ⟨_, fd, ["text"], glo X G c "read_fraction" (by decide +kernel), FD.kp, rfl, FD.bindsN fun _ _ _ _ _ _ us hl => match us, hl with | [_], _ => rfl, f_read_fraction X G c FD j h⟩
theorem fd__law_bag (c : SA K0) : ∃ fd, FunD (Kc K0) "_law_bag" "_law_bag" (defArgs (top 16)) (defBody (top 16)) (defScope (top 16)) [] [] (He.ga (Kc K0) "_law_bag") fd := c.d.def_ 8 (d := dd "_law_bag" 16 []) rfl
theorem f__law_bag (X : (Kc K0).In base) (G : base.Ns mainGlobals mg) (c : SA K0) {fd : FuncData} (FD : FunD (Kc K0) "_law_bag" "_law_bag" (defArgs (top 16)) (defBody (top 16)) (defScope (top 16)) [] [] (He.ga (Kc K0) "_law_bag") fd) : ∀ j, (∀ i, i < j → Ok (Sx w K0 mg base) i) → FnOk Pg w (Kc K0) mg base (L2.CX Pg w) (3 * j + 3) (He.ga (Kc K0) "_law_bag") fd ["_law_script"] (spOf (Sx w K0 mg base) 1 (FN (PP cl) j 4))
  | 0, _ => fn0_ok (S := Sx w K0 mg base)
  | j + 1, h => (def_ok (S := Sx w K0 mg base) (T := T) (k := 3 * j + 3) FD s__law_bag rfl (tb_ X G c (h j (Nat.lt_succ_self j))) (by omega) (xo_ X G c) c__law_bag).mono (by omega)
theorem k__law_bag (X : (Kc K0).In base) (G : base.Ns mainGlobals mg) (c : SA K0) (j : Nat) (h : ∀ i, i < j → Ok (Sx w K0 mg base) i) : CalOk (Sx w K0 mg base) (3 * j + 3) "_law_bag" 1 (FN (PP cl) j 4) := by
  obtain ⟨fd, FD⟩ := fd__law_bag c
  exact ⟨_, fd, ["_law_script"], glo X G c "_law_bag" (by decide +kernel), FD.kp, rfl, FD.bindsN fun _ _ _ _ _ _ us hl => match us, hl with | [_], _ => rfl, f__law_bag X G c FD j h⟩
theorem fd__law_draw (c : SA K0) : ∃ fd, FunD (Kc K0) "_law_draw" "_law_draw" (defArgs (top 17)) (defBody (top 17)) (defScope (top 17)) [] [] (He.ga (Kc K0) "_law_draw") fd := c.d.def_ 9 (d := dd "_law_draw" 17 []) rfl
theorem f__law_draw (X : (Kc K0).In base) (G : base.Ns mainGlobals mg) (c : SA K0) {fd : FuncData} (FD : FunD (Kc K0) "_law_draw" "_law_draw" (defArgs (top 17)) (defBody (top 17)) (defScope (top 17)) [] [] (He.ga (Kc K0) "_law_draw") fd) : ∀ j, (∀ i, i < j → Ok (Sx w K0 mg base) i) → FnOk Pg w (Kc K0) mg base (L2.CX Pg w) (3 * j + 3) (He.ga (Kc K0) "_law_draw") fd ["_law_bag_here", "_law_many"] (spOf (Sx w K0 mg base) 2 (FN (PP cl) j 5))
  | 0, _ => fn0_ok (S := Sx w K0 mg base)
  | j + 1, h => (def_ok (S := Sx w K0 mg base) (T := T) (k := 3 * j + 3) FD s__law_draw rfl (tb_ X G c (h j (Nat.lt_succ_self j))) (by omega) (xo_ X G c) c__law_draw).mono (by omega)
theorem k__law_draw (X : (Kc K0).In base) (G : base.Ns mainGlobals mg) (c : SA K0) (j : Nat) (h : ∀ i, i < j → Ok (Sx w K0 mg base) i) : CalOk (Sx w K0 mg base) (3 * j + 3) "_law_draw" 2 (FN (PP cl) j 5) := by
  obtain ⟨fd, FD⟩ := fd__law_draw c
  exact ⟨_, fd, ["_law_bag_here", "_law_many"], glo X G c "_law_draw" (by decide +kernel), FD.kp, rfl, FD.bindsN fun _ _ _ _ _ _ us hl => match us, hl with | [_, _], _ => rfl, f__law_draw X G c FD j h⟩
theorem fd__law_of (c : SA K0) : ∃ fd, FunD (Kc K0) "_law_of" "_law_of" (defArgs (top 18)) (defBody (top 18)) (defScope (top 18)) [] [] (He.ga (Kc K0) "_law_of") fd := c.d.def_ 10 (d := dd "_law_of" 18 []) rfl
theorem f__law_of (X : (Kc K0).In base) (G : base.Ns mainGlobals mg) (c : SA K0) {fd : FuncData} (FD : FunD (Kc K0) "_law_of" "_law_of" (defArgs (top 18)) (defBody (top 18)) (defScope (top 18)) [] [] (He.ga (Kc K0) "_law_of") fd) : ∀ j, (∀ i, i < j → Ok (Sx w K0 mg base) i) → FnOk Pg w (Kc K0) mg base (L2.CX Pg w) (3 * j + 3) (He.ga (Kc K0) "_law_of") fd ["_law_bag_here", "_law_things"] (spOf (Sx w K0 mg base) 2 (FN (PP cl) j 6))
  | 0, _ => fn0_ok (S := Sx w K0 mg base)
  | j + 1, h => (def_ok (S := Sx w K0 mg base) (T := T) (k := 3 * j + 3) FD s__law_of rfl (tb_ X G c (h j (Nat.lt_succ_self j))) (by omega) (xo_ X G c) c__law_of).mono (by omega)
theorem k__law_of (X : (Kc K0).In base) (G : base.Ns mainGlobals mg) (c : SA K0) (j : Nat) (h : ∀ i, i < j → Ok (Sx w K0 mg base) i) : CalOk (Sx w K0 mg base) (3 * j + 3) "_law_of" 2 (FN (PP cl) j 6) := by
  obtain ⟨fd, FD⟩ := fd__law_of c
  exact ⟨_, fd, ["_law_bag_here", "_law_things"], glo X G c "_law_of" (by decide +kernel), FD.kp, rfl, FD.bindsN fun _ _ _ _ _ _ us hl => match us, hl with | [_, _], _ => rfl, f__law_of X G c FD j h⟩
theorem fd__law_low (c : SA K0) : ∃ fd, FunD (Kc K0) "_law_low" "_law_low" (defArgs (top 19)) (defBody (top 19)) (defScope (top 19)) [] [] (He.ga (Kc K0) "_law_low") fd := c.d.def_ 11 (d := dd "_law_low" 19 []) rfl
theorem f__law_low (X : (Kc K0).In base) (G : base.Ns mainGlobals mg) (c : SA K0) {fd : FuncData} (FD : FunD (Kc K0) "_law_low" "_law_low" (defArgs (top 19)) (defBody (top 19)) (defScope (top 19)) [] [] (He.ga (Kc K0) "_law_low") fd) : ∀ j, (∀ i, i < j → Ok (Sx w K0 mg base) i) → FnOk Pg w (Kc K0) mg base (L2.CX Pg w) (3 * j + 3) (He.ga (Kc K0) "_law_low") fd ["_law_top", "_law_bottom"] (spOf (Sx w K0 mg base) 2 (FN (PP cl) j 7))
  | 0, _ => fn0_ok (S := Sx w K0 mg base)
  | j + 1, h => (def_ok (S := Sx w K0 mg base) (T := T) (k := 3 * j + 3) FD s__law_low rfl (tb_ X G c (h j (Nat.lt_succ_self j))) (by omega) (xo_ X G c) c__law_low).mono (by omega)
theorem k__law_low (X : (Kc K0).In base) (G : base.Ns mainGlobals mg) (c : SA K0) (j : Nat) (h : ∀ i, i < j → Ok (Sx w K0 mg base) i) : CalOk (Sx w K0 mg base) (3 * j + 3) "_law_low" 2 (FN (PP cl) j 7) := by
  obtain ⟨fd, FD⟩ := fd__law_low c
  exact ⟨_, fd, ["_law_top", "_law_bottom"], glo X G c "_law_low" (by decide +kernel), FD.kp, rfl, FD.bindsN fun _ _ _ _ _ _ us hl => match us, hl with | [_, _], _ => rfl, f__law_low X G c FD j h⟩
theorem fd__law_some_fraction (c : SA K0) : ∃ fd, FunD (Kc K0) "_law_some_fraction" "_law_some_fraction" (defArgs (top 20)) (defBody (top 20)) (defScope (top 20)) [] [] (He.ga (Kc K0) "_law_some_fraction") fd := c.d.def_ 12 (d := dd "_law_some_fraction" 20 []) rfl
theorem f__law_some_fraction (X : (Kc K0).In base) (G : base.Ns mainGlobals mg) (c : SA K0) {fd : FuncData} (FD : FunD (Kc K0) "_law_some_fraction" "_law_some_fraction" (defArgs (top 20)) (defBody (top 20)) (defScope (top 20)) [] [] (He.ga (Kc K0) "_law_some_fraction") fd) : ∀ j, (∀ i, i < j → Ok (Sx w K0 mg base) i) → FnOk Pg w (Kc K0) mg base (L2.CX Pg w) (3 * j + 3) (He.ga (Kc K0) "_law_some_fraction") fd ["_law_bag_here"] (spOf (Sx w K0 mg base) 1 (FN (PP cl) j 17))
  | 0, _ => fn0_ok (S := Sx w K0 mg base)
  | j + 1, h => (def_ok (S := Sx w K0 mg base) (T := T) (k := 3 * j + 3) FD s__law_some_fraction rfl (tb_ X G c (h j (Nat.lt_succ_self j))) (by omega) (xo_ X G c) c__law_some_fraction).mono (by omega)
theorem k__law_some_fraction (X : (Kc K0).In base) (G : base.Ns mainGlobals mg) (c : SA K0) (j : Nat) (h : ∀ i, i < j → Ok (Sx w K0 mg base) i) : CalOk (Sx w K0 mg base) (3 * j + 3) "_law_some_fraction" 1 (FN (PP cl) j 17) := by
  obtain ⟨fd, FD⟩ := fd__law_some_fraction c
  exact ⟨_, fd, ["_law_bag_here"], glo X G c "_law_some_fraction" (by decide +kernel), FD.kp, rfl, FD.bindsN fun _ _ _ _ _ _ us hl => match us, hl with | [_], _ => rfl, f__law_some_fraction X G c FD j h⟩
theorem fd__law_fraction_text (c : SA K0) : ∃ fd, FunD (Kc K0) "_law_fraction_text" "_law_fraction_text" (defArgs (top 21)) (defBody (top 21)) (defScope (top 21)) [] [] (He.ga (Kc K0) "_law_fraction_text") fd := c.d.def_ 13 (d := dd "_law_fraction_text" 21 []) rfl
theorem f__law_fraction_text (X : (Kc K0).In base) (G : base.Ns mainGlobals mg) (c : SA K0) {fd : FuncData} (FD : FunD (Kc K0) "_law_fraction_text" "_law_fraction_text" (defArgs (top 21)) (defBody (top 21)) (defScope (top 21)) [] [] (He.ga (Kc K0) "_law_fraction_text") fd) : ∀ j, (∀ i, i < j → Ok (Sx w K0 mg base) i) → FnOk Pg w (Kc K0) mg base (L2.CX Pg w) (3 * j + 3) (He.ga (Kc K0) "_law_fraction_text") fd ["_law_my_value"] (spOf (Sx w K0 mg base) 1 (FN (PP cl) j 18))
  | 0, _ => fn0_ok (S := Sx w K0 mg base)
  | j + 1, h => (def_ok (S := Sx w K0 mg base) (T := T) (k := 3 * j + 3) FD s__law_fraction_text rfl (tb_ X G c (h j (Nat.lt_succ_self j))) (by omega) (xo_ X G c) c__law_fraction_text).mono (by omega)
theorem k__law_fraction_text (X : (Kc K0).In base) (G : base.Ns mainGlobals mg) (c : SA K0) (j : Nat) (h : ∀ i, i < j → Ok (Sx w K0 mg base) i) : CalOk (Sx w K0 mg base) (3 * j + 3) "_law_fraction_text" 1 (FN (PP cl) j 18) := by
  obtain ⟨fd, FD⟩ := fd__law_fraction_text c
  exact ⟨_, fd, ["_law_my_value"], glo X G c "_law_fraction_text" (by decide +kernel), FD.kp, rfl, FD.bindsN fun _ _ _ _ _ _ us hl => match us, hl with | [_], _ => rfl, f__law_fraction_text X G c FD j h⟩
theorem fd__law_alike (c : SA K0) : ∃ fd, FunD (Kc K0) "_law_alike" "_law_alike" (defArgs (top 22)) (defBody (top 22)) (defScope (top 22)) [] [] (He.ga (Kc K0) "_law_alike") fd := c.d.def_ 14 (d := dd "_law_alike" 22 []) rfl
theorem f__law_alike (X : (Kc K0).In base) (G : base.Ns mainGlobals mg) (c : SA K0) {fd : FuncData} (FD : FunD (Kc K0) "_law_alike" "_law_alike" (defArgs (top 22)) (defBody (top 22)) (defScope (top 22)) [] [] (He.ga (Kc K0) "_law_alike") fd) : ∀ j, (∀ i, i < j → Ok (Sx w K0 mg base) i) → FnOk Pg w (Kc K0) mg base (L2.CX Pg w) (3 * j + 3) (He.ga (Kc K0) "_law_alike") fd ["_law_found", "_law_due"] (spOf (Sx w K0 mg base) 2 (FN (PP cl) j 8))
  | 0, _ => fn0_ok (S := Sx w K0 mg base)
  | j + 1, h => (def_ok (S := Sx w K0 mg base) (T := T) (k := 3 * j + 3) FD s__law_alike rfl (tb_ X G c (h j (Nat.lt_succ_self j))) (by omega) (xo_ X G c) c__law_alike).mono (by omega)
theorem k__law_alike (X : (Kc K0).In base) (G : base.Ns mainGlobals mg) (c : SA K0) (j : Nat) (h : ∀ i, i < j → Ok (Sx w K0 mg base) i) : CalOk (Sx w K0 mg base) (3 * j + 3) "_law_alike" 2 (FN (PP cl) j 8) := by
  obtain ⟨fd, FD⟩ := fd__law_alike c
  exact ⟨_, fd, ["_law_found", "_law_due"], glo X G c "_law_alike" (by decide +kernel), FD.kp, rfl, FD.bindsN fun _ _ _ _ _ _ us hl => match us, hl with | [_, _], _ => rfl, f__law_alike X G c FD j h⟩
theorem b_3 (X : (Kc K0).In base) (G : base.Ns mainGlobals mg) (c : SA K0) (j : Nat) (h : ∀ i, i < j → Ok (Sx w K0 mg base) i) : CalKOk (Sx w K0 mg base) (3 * j + 3) "read_fraction" 0 ["text"] (bndG 3) (FN (PP cl) j 16) := by
  obtain ⟨fd, FD⟩ := fd_read_fraction c
  have kb := kb_plain (ps := ["text"]) FD 0 ["text"] (fun us ws => pick [.k 0] us [] ws) (fun r rz => pick_rel [.k 0] r .nil rz) fun kV doc pm an cdv ct us ws h1 h2 => match us, ws, h1, h2 with | [], [_], _, _ => rfl
  refine ⟨_, fd, ["text"], _, _, glo X G c "read_fraction" (by decide +kernel), FD.kp, kb, fun ow io H ds zs vs us as hv hz e => ?_, fun ds zs as e => ?_, f_read_fraction X G c FD j h⟩
  · match ds, zs, e with
    | [], [z0], e =>
      cases e
      cases hv.unnil
      obtain ⟨y0, _, rfl, q0, hz⟩ := hz.uncons
      cases hz.unnil
      exact ⟨rfl, rfl, (.cons q0 .nil)⟩
  · match ds, zs, e with
    | [], [z0], e => cases e; rfl
theorem b_4 (X : (Kc K0).In base) (G : base.Ns mainGlobals mg) (c : SA K0) (j : Nat) (h : ∀ i, i < j → Ok (Sx w K0 mg base) i) : CalKOk (Sx w K0 mg base) (3 * j + 3) "fraction_text" 0 ["value"] (bndG 4) (FN (PP cl) j 12) := by
  obtain ⟨fd, FD⟩ := fd_fraction_text c
  have kb := kb_plain (ps := ["value"]) FD 0 ["value"] (fun us ws => pick [.k 0] us [] ws) (fun r rz => pick_rel [.k 0] r .nil rz) fun kV doc pm an cdv ct us ws h1 h2 => match us, ws, h1, h2 with | [], [_], _, _ => rfl
  refine ⟨_, fd, ["value"], _, _, glo X G c "fraction_text" (by decide +kernel), FD.kp, kb, fun ow io H ds zs vs us as hv hz e => ?_, fun ds zs as e => ?_, f_fraction_text X G c FD j h⟩
  · match ds, zs, e with
    | [], [z0], e =>
      cases e
      cases hv.unnil
      obtain ⟨y0, _, rfl, q0, hz⟩ := hz.uncons
      cases hz.unnil
      exact ⟨rfl, rfl, (.cons q0 .nil)⟩
  · match ds, zs, e with
    | [], [z0], e => cases e; rfl
theorem ok_ (X : (Kc K0).In base) (G : base.Ns mainGlobals mg) (c : SA K0) : ∀ j, ∀ i, i < j → Ok (Sx w K0 mg base) i
  | 0, i, h => absurd h (Nat.not_lt_zero i)
  | j + 1, i, hi => by
    have ih : ∀ i, i < j → Ok (Sx w K0 mg base) i := ok_ X G c j
    by_cases e : i < j
    · exact ih i e
    have e : i = j := by omega
    subst e
    refine ⟨?_, ?_, ?_⟩
    · exact fnIx_cons (k_is_number X G c i ih) (fnIx_cons (k_common X G c i ih) (fnIx_cons (k_is_fraction X G c i ih) (fnIx_cons (k_fraction_text X G c i ih) (fnIx_cons (k_number_in X G c i ih) (fnIx_cons (k_integer_in X G c i ih) (fnIx_cons (k_fraction_in X G c i ih) (fnIx_cons (k_read_fraction X G c i ih) (fnIx_cons (k__law_bag X G c i ih) (fnIx_cons (k__law_draw X G c i ih) (fnIx_cons (k__law_of X G c i ih) (fnIx_cons (k__law_low X G c i ih) (fnIx_cons (k__law_some_fraction X G c i ih) (fnIx_cons (k__law_fraction_text X G c i ih) (fnIx_cons (k__law_alike X G c i ih) (fun _ _ _ h => (fnIx_nil h).elim)))))))))))))))
    · exact fkIx_cons (b_3 X G c i ih) (fkIx_cons (b_4 X G c i ih) (fun _ _ _ _ _ h => by cases h))
    · exact fun _ _ h => (frIx_nil h).elim
noncomputable abbrev F_law : Mp.Fn := FN (PP cl) 61 19
theorem fn_law (X : (Kc K0).In base) (G : base.Ns mainGlobals mg) (c : SA K0) (TB : LamX.TabB base mg (codeAd K0 ("law", none)) (tabAd K0 ("law", none))) {fd : FuncData} (FD : FunD (Kc K0) "law" "law" (defArgs (top 25)) (defBody (top 25)) (defScope (top 25)) [] [] (He.ga (Kc K0) "law") fd) :
    FnOk Pg w (Kc K0) mg base (L2.CX Pg w) 186 (He.ga (Kc K0) "law") fd ["_law_script"] (spOf (Sx w K0 mg base) 1 F_law) := by
  refine def_okL (S := Sx w K0 mg base) (T := T) (k := 183) (c := codeAd K0 ("law", none)) (P := tabAd K0 ("law", none)) FD s_law rfl (tb_ X G c (ok_ X G c 61 60 (by decide))) (by decide) (xo_ X G c) (fun oc od fd' sl e => ?_) TB (List.mem_cons_self ..) (fun q hq _ => ?_) c_law
  · have hne : codeAd (Kc K0) ("law", none) ≠ 0 := by
      have e := (exs_ c).2.2.2
      unfold exL at e
      exact of_decide_eq_true (List.all_eq_true.mp e ("law", none) (List.mem_cons_self ..))
    have hc := code_is hne e
    rw [hc]
    exact congrArg Value.ref (c.cod (List.mem_cons_self ..))
  · rw [List.mem_singleton.mp hq]
end
/-- what the law's def promises -/
def spLaw (K0 : Mp.Frag) : Sp := fun vs H Q _ => ∃ (a : Addr) (ns : List Int), vs = [.ref a] ∧ ns.length ≤ 63 ∧ H (tabAd K0 ("law", none)) = some (.tbl #[]) ∧ SqL (Kc K0) H a (ns.map V.int) ∧ ∀ H', Q (.bl true) H'
def Law : Prop := ∀ ns : List Int, ns.length ≤ 63 → ∃ m', F_law [.fz (ns.map Mp.D.int)] [] = .ok (.bl true) m'
theorem rvs_ints {S : Sta} {ow : Addr → Prop} {io : List Addr} {H : Hp} : ∀ ns : List Int, RVs S ow io H (ns.map Mp.D.int) (ns.map V.int)
  | [] => .nil
  | n :: ns => .cons .mk_int (rvs_ints ns)
theorem law_imp (hL : Law) {w : World} {K0 : Mp.Frag} {mg : Str → Option Value} {base : Heap} {vs : List V} {H : Hp} {Q : VK} {E : XK} (h : spLaw K0 vs H Q E) : spOf (Sx w K0 mg base) 1 F_law vs H Q E := by
  obtain ⟨a, ns, rfl, hl, hP, hS, q⟩ := h
  obtain ⟨m', e⟩ := hL ns hl
  refine ⟨fun _ => False, [], [.fz (ns.map Mp.D.int)], [], ⟨fun p hp => ?_, rfl, by simp, fun n o z => by simp at z⟩, fun _ z => z.elim, .cons ?_ .nil, rfl, ?_⟩
  · rw [List.mem_singleton.mp hp]
    exact LamX.TabS.nil hP
  · unfold RV
    exact ⟨a, _, rfl, hS.imp (fun z => ⟨z, by simp, fun z => z.elim⟩) id, rvs_ints ns⟩
  · rw [e]
    intro io' H' v _ _ hv
    cases hv.of_bl
    exact q H'
abbrev RW : PySem.W.OpenLaw := PySem.Challenge.rw_kindlebody_k02_texts_of_fractions
theorem at_law (hL : Law) (w : World) (mg : Str → Option Value) (f : Addr) (h : Heap) (Y : hk.says w h) (G : h.Ns mainGlobals mg) (hf : mg ("law" : Str) = some (.ref f)) : ∃ K : Mp.Frag, K.In h ∧ LamX.LawAtS RW w K (L2.CX Pg w) 186 63 "_law_script" mg f h := by
  obtain ⟨K0, X0, c⟩ := Y
  have X : (Kc K0).In h := cut_in X0
  obtain ⟨fd, FD⟩ := c.d.def_ 17 (d := dd "law" 25 []) rfl
  have FD : FunD (Kc K0) "law" "law" (defArgs (top 25)) (defBody (top 25)) (defScope (top 25)) [] [] (He.ga (Kc K0) "law") fd := FD
  have e := hf.symm.trans (glo X G c "law" (by decide +kernel))
  cases e
  have tb := c.tab
  unfold tabsB at tb
  have tb := List.all_eq_true.mp tb ("law", none) (List.mem_cons_self ..)
  obtain ⟨t1, t2⟩ := He.ba tb
  refine ⟨Kc K0, X, fd, [(codeAd K0 ("law", none), tabAd K0 ("law", none))], spLaw K0, fun p hp => ?_, fun p hp => ?_, fun p hp => ?_, fun s u => ?_, fun H a ns h1 _ h2 h3 => ?_, fun base Kb Gb T => ?_⟩
  · rw [List.mem_singleton.mp hp]; exact tabB0_ok X0 t2
  · rw [List.mem_singleton.mp hp]; exact cut_no (List.mem_cons_self ..)
  · rw [List.mem_singleton.mp hp]; exact codeHdB_ok X0 t1
  · exact FunD.bindsA (ps := ["_law_script"]) FD (fun _ _ _ _ _ _ us hl => match us, hl with | [_], _ => rfl) s [u] rfl
  · exact ⟨a, ns, rfl, h1, h2 _ (List.mem_cons_self ..), h3, fun _ => rfl⟩
  · exact (fn_law (w := w) Kb Gb c (T _ (List.mem_cons_self ..)) FD).imp fun vs H Q E h => law_imp hL h
end K02
open PySem PySem.W PySem.Calls PyProof.Rows
theorem K02.holds_of (hL : K02.Law) : PySem.Challenge.rw_kindlebody_k02_texts_of_fractions.Holds := by
  w_on; o_law
  refine HandSHeadRun.head_any (r := OpenLaw.row PySem.Challenge.rw_kindlebody_k02_texts_of_fractions) (q := view (OpenLaw.row PySem.Challenge.rw_kindlebody_k02_texts_of_fractions).prog [25]) (H := K02.hk) (ob := K02.ob) (M := 6000) (loose := K02.loose) (d := HandSHeadRun.topDef (OpenLaw.row PySem.Challenge.rw_kindlebody_k02_texts_of_fractions).prog 25) (kwd := []) K02.ob_eq
    (by kernel_rfl) (fun s => by kernel_rfl) K02.run (by kernel_rfl) (by kernel_rfl) (by kernel_rfl) (by rfl) (by first | assumption | decide +kernel) (by decide +kernel) ⟨rfl, rfl, rfl, rfl, rfl, by decide +kernel⟩ ?hw ?hc
  case hw => w_witness2
  case hc =>
    refine Mp.walk_ofTE (l := PySem.Challenge.rw_kindlebody_k02_texts_of_fractions) (n := 63) (k := 186) (x := "_law_script") (CX := fun w => L2.CX K02.Pg w) rfl (by decide) (by kernel_rfl) ⟨rfl, by decide, by decide⟩ ?F (fun _ _ _ _ _ ⟨_, _, _, _, _, _, _, _, _, _, _, _, q⟩ => q.elim)
    intro w mg f h Y G hmg0
    have hmg : mg ("law" : PySem.Str) = some (.ref f) := by
      have e : (HandSHeadRun.topDef (OpenLaw.row PySem.Challenge.rw_kindlebody_k02_texts_of_fractions).prog 25).name = ("law" : PySem.Str) := by kernel_rfl
      rw [← e]
      exact hmg0
    exact K02.at_law hL w mg f h Y G hmg
end
section
set_option Elab.async false
set_option linter.all false
set_option maxRecDepth 100000
set_option maxHeartbeats 1000000
/-! LBase: numbers, the laws' draws, reduced fractions of the laws. -/
namespace Kb
open PySem PySem.Spec PyProof.Rows L2 Mp
/-! ### sizes -/
theorem small_log {n : Nat} (h : n < 2 ^ 200) : n.log2 < 200 := by
  by_cases z : n = 0
  · rw [z]; decide
  · exact (Nat.log2_lt z).mpr h
theorem small_div {j : Int} (h : 0 < j) (h2 : j < 2 ^ 200) : divOk j = true := by
  have := small_log (n := j.natAbs) (by omega)
  unfold divOk
  rw [Bool.and_eq_true, decide_eq_true_eq, decide_eq_true_eq]
  omega
theorem small_mul {i j : Int} (h : i.natAbs < 2 ^ 200) (h2 : j.natAbs < 2 ^ 200) : mulOk i j = true := by
  have := small_log h
  have := small_log h2
  unfold mulOk
  exact decide_eq_true (by omega)
theorem mul_int {i j : Int} (h : i.natAbs < 2 ^ 200) (h2 : j.natAbs < 2 ^ 200) : binD .mul (.int i) (.int j) = some (.int (i * j)) := bin_mul_int i j (small_mul h h2)
theorem fdiv_int {i j : Int} (h : 0 < j) (h2 : j < 2 ^ 200) : binD .fdiv (.int i) (.int j) = some (.int (i / j)) := bin_fdiv_int i j (small_div h h2)
/-! ### gcd -/
/-- Euclid's loop -/
def gcdL (a b : Int) : Int := if h : 0 < b then gcdL b (a % b) else a
termination_by b.toNat
decreasing_by
  have := Int.emod_lt_of_pos a h
  have := Int.emod_nonneg a (show b ≠ 0 by omega)
  omega
theorem gcdL_gcd (n : Nat) : ∀ a b : Int, 0 ≤ a → 0 ≤ b → b.toNat ≤ n → gcdL a b = Int.gcd a b := by
  induction n with
  | zero =>
    intro a b ha hb h
    have : b = 0 := by omega
    subst this
    rw [gcdL, dif_neg (by omega), Int.gcd_zero_right]
    omega
  | succ n ih =>
    intro a b ha hb h
    rw [gcdL]
    by_cases z : 0 < b
    · have h1 := Int.emod_lt_of_pos a z
      have h2 := Int.emod_nonneg a (show b ≠ 0 by omega)
      rw [dif_pos z, ih b (a % b) hb h2 (by omega)]
      have e : Int.gcd b (a % b) = Int.gcd a b := by
        rw [← Int.gcd_add_mul_left_right b (a % b) (a / b), Int.emod_add_mul_ediv, Int.gcd_comm]
      rw [e]
    · have : b = 0 := by omega
      subst this
      rw [dif_neg z, Int.gcd_zero_right]
      omega
abbrev absI (t : Int) : Int := if t < 0 then -t else t
theorem absI_nn (t : Int) : 0 ≤ absI t := by unfold absI; split <;> omega
theorem absI_abs (t : Int) : absI t = (t.natAbs : Int) := by unfold absI; split <;> omega
theorem gcd_abs (t b : Int) : gcdL (absI t) (absI b) = Int.gcd t b := by
  rw [gcdL_gcd _ _ _ (absI_nn t) (absI_nn b) (Nat.le_refl _), absI_abs, absI_abs]
  simp [Int.gcd]
theorem gcd_pos_ (t b : Int) (h : 0 < b) : gcdL (absI t) b = Int.gcd t b := by
  rw [← gcd_abs]
  congr 1
  unfold absI
  rw [if_neg (by omega)]
def sg (b : Int) : Int := if b < 0 then -1 else 1
def gg (t b : Int) : Int := (Int.gcd t b : Nat)
theorem gg_pos (t b : Int) (hb : b ≠ 0) : 0 < gg t b := by
  have := Int.gcd_pos_of_ne_zero_right t hb
  unfold gg
  omega
theorem gg_le (t b : Int) (hb : b ≠ 0) : gg t b ≤ b.natAbs := by
  have := Int.gcd_le_natAbs_right t hb
  unfold gg
  omega
theorem sg_mul (b : Int) : ∀ t, sg b * t = if b < 0 then -t else t := fun t => by
  unfold sg
  split <;> omega
/-- numerator and denominator of the reduced fraction -/
def rn (t b : Int) : Int := sg b * t / gg t b
def rd (t b : Int) : Int := sg b * b / gg t b
/-- the reduced fraction of two numbers -/
def due (t b : Int) : Mp.D := .tup [.int (rn t b), .int (rd t b)]
/-- in lowest terms -/
structure Low (n d : Int) : Prop where
  pos : 0 < d
  cop : Int.gcd n d = 1
theorem red_fr (t b : Int) (hb : b ≠ 0) : Low (rn t b) (rd t b) := by
  have g0 := gg_pos t b hb
  have d1 : gg t b ∣ t := Int.gcd_dvd_left t b
  have d2 : gg t b ∣ b := Int.gcd_dvd_right t b
  have p : 0 < sg b * b / gg t b := by
    have d3 : gg t b ∣ sg b * b := Int.dvd_mul_of_dvd_right d2
    have q : 0 < sg b * b := by rw [sg_mul]; split <;> omega
    exact Int.ediv_pos_of_pos_of_dvd q (by omega) d3
  refine ⟨p, ?_⟩
  unfold rn rd
  rw [Int.gcd_ediv (Int.dvd_mul_of_dvd_right d1) (Int.dvd_mul_of_dvd_right d2)]
  have : Int.gcd (sg b * t) (sg b * b) = Int.gcd t b := by
    rw [Int.gcd_mul_left]
    unfold sg
    split <;> simp
  rw [this]
  show Int.gcd t b / (gg t b).natAbs = 1
  unfold gg
  rw [Int.natAbs_natCast]
  exact Nat.div_self (Int.gcd_pos_of_ne_zero_right t hb)
theorem red_eq (t b : Int) (hb : b ≠ 0) : rn t b * b = t * rd t b := by
  have g0 := gg_pos t b hb
  have d1 : gg t b ∣ t := Int.gcd_dvd_left t b
  have d2 : gg t b ∣ b := Int.gcd_dvd_right t b
  unfold rn rd
  generalize gg t b = g at *
  generalize sg b = s
  obtain ⟨x, rfl⟩ := d1
  obtain ⟨y, rfl⟩ := d2
  rw [Int.mul_left_comm s g x, Int.mul_left_comm s g y, Int.mul_ediv_cancel_left _ (by omega), Int.mul_ediv_cancel_left _ (by omega)]
  simp only [Int.mul_assoc, Int.mul_comm, Int.mul_left_comm]
theorem ediv_abs_le (a g : Int) (h : 0 < g) (hd : g ∣ a) : (a / g).natAbs ≤ a.natAbs := by
  obtain ⟨x, rfl⟩ := hd
  rw [Int.mul_ediv_cancel_left _ (by omega), Int.natAbs_mul]
  have : 1 ≤ g.natAbs := by omega
  exact Nat.le_mul_of_pos_left _ this
theorem sg_abs (b t : Int) : (sg b * t).natAbs = t.natAbs := by rw [sg_mul]; split <;> omega
theorem rn_le (t b : Int) (hb : b ≠ 0) : (rn t b).natAbs ≤ t.natAbs := by
  have := ediv_abs_le (sg b * t) (gg t b) (gg_pos t b hb) (Int.dvd_mul_of_dvd_right (Int.gcd_dvd_left t b))
  rw [sg_abs] at this
  exact this
theorem rd_le (t b : Int) (hb : b ≠ 0) : (rd t b).natAbs ≤ b.natAbs := by
  have := ediv_abs_le (sg b * b) (gg t b) (gg_pos t b hb) (Int.dvd_mul_of_dvd_right (Int.gcd_dvd_right t b))
  rw [sg_abs] at this
  exact this
theorem fr_dvd {n d a : Int} (h : Low n d) (e : d ∣ n * a) : d ∣ a := by
  have c : Nat.Coprime d.natAbs n.natAbs := by
    have := h.cop
    rw [Int.gcd_comm] at this
    exact this
  have e' : d.natAbs ∣ n.natAbs * a.natAbs := by
    rw [← Int.natAbs_mul]
    exact Int.natAbs_dvd_natAbs.mpr e
  exact Int.natAbs_dvd_natAbs.mp (c.dvd_of_dvd_mul_left e')
theorem Low.uniq {n d n' d' : Int} (h : Low n d) (h' : Low n' d') (e : n * d' = n' * d) : n = n' ∧ d = d' := by
  have h1 : d ∣ d' := fr_dvd h ⟨n', by rw [e, Int.mul_comm]⟩
  have h2 : d' ∣ d := fr_dvd h' ⟨n, by rw [← e, Int.mul_comm]⟩
  have p := h.pos
  have p' := h'.pos
  have e1 : d = d' := Int.le_antisymm (Int.le_of_dvd p' h1) (Int.le_of_dvd p h2)
  subst e1
  exact ⟨Int.eq_of_mul_eq_mul_right (by omega) e, rfl⟩
theorem due_eq {t b n d : Int} (hb : b ≠ 0) (h : Low n d) (e : t * d = n * b) : due t b = .tup [.int n, .int d] := by
  have f := red_fr t b hb
  have q := red_eq t b hb
  have : rn t b * d = n * rd t b := by
    apply Int.eq_of_mul_eq_mul_right hb
    calc rn t b * d * b = rn t b * b * d := by rw [Int.mul_assoc, Int.mul_comm d b, ← Int.mul_assoc]
      _ = t * rd t b * d := by rw [q]
      _ = t * d * rd t b := by rw [Int.mul_assoc, Int.mul_comm (rd t b) d, ← Int.mul_assoc]
      _ = n * b * rd t b := by rw [e]
      _ = n * rd t b * b := by rw [Int.mul_assoc, Int.mul_comm b, ← Int.mul_assoc]
  obtain ⟨e1, e2⟩ := f.uniq h this
  unfold due
  rw [e1, e2]
theorem due_self {n d : Int} (h : Low n d) : due n d = .tup [.int n, .int d] := due_eq (by have := h.pos; omega) h rfl
/-- equal quotients -/
theorem due_cross {t b t' b' : Int} (hb : b ≠ 0) (hb' : b' ≠ 0) (e : t * b' = t' * b) : due t b = due t' b' := by
  refine due_eq hb (red_fr t' b' hb') ?_
  have q := red_eq t' b' hb'
  apply Int.eq_of_mul_eq_mul_right hb'
  calc t * rd t' b' * b' = t * b' * rd t' b' := by rw [Int.mul_assoc, Int.mul_comm (rd t' b') b', ← Int.mul_assoc]
    _ = t' * b * rd t' b' := by rw [e]
    _ = t' * rd t' b' * b := by rw [Int.mul_assoc, Int.mul_comm b, ← Int.mul_assoc]
    _ = rn t' b' * b' * b := by rw [q]
    _ = rn t' b' * b * b' := by rw [Int.mul_assoc, Int.mul_comm b' b, ← Int.mul_assoc]
end Kb
end
section
set_option Elab.async false
set_option linter.all false
set_option maxRecDepth 100000
set_option maxHeartbeats 1000000
/-! LDraw: the laws' bag of draws. -/
namespace Kb
open PySem PySem.Spec PyProof.Rows L2 Mp
/-- the bag of draws, ahead of all other shared objects -/
def Bag (ns : List Int) (rest : MH) (m : MH) : Prop := ∃ i big mark : Int, m = .lst [.lst (ns.map Mp.D.int), .int i, .int big, .int mark] :: rest ∧ 0 ≤ i ∧ 0 ≤ big ∧ 0 ≤ mark ∧ mark < 2147483563
section
variable (cl : List Nat) (kk : Nat) (rest : MH)
theorem mark_mul {a k : Int} (h0 : 0 ≤ a) (h1 : a < 2147483563) (hk : k.natAbs < 2 ^ 40) : mulOk a k = true := small_mul (by omega) (by omega)
theorem draw_end (ns : List Int) (i mark many : Int) (s2 s3 s4 : Option Sl) (hm : 0 ≤ mark) (hm2 : mark < 2147483563) (h : 0 < many) :
    exs (GG cl kk) mkxG [.setX (.loc 0) (.k (.int 3)) (.bin .mod (.blt .int_ [(.bin .add (.bin .mul (.idx (.loc 0) (.k (.int 3))) (.k (.int 48889))) (.k (.int 1013)))]) (.k (.int 2147483563))), .ret (.bin .mod (.blt .int_ [(.bin .fdiv (.bin .mod (.blt .int_ [(.bin .mul (.idx (.loc 0) (.k (.int 3))) (.idx (.loc 0) (.k (.int 3))))]) (.k (.int 999999937))) (.k (.int 31)))]) (.loc 1))]
      [some (.val (.ref 0)), some (.val (.int many)), s2, s3, s4] (.lst [.lst (ns.map Mp.D.int), .int i, .int 0, .int mark] :: rest) =
    .rt (.int ((((mark * 48889 + 1013) % 2147483563) * ((mark * 48889 + 1013) % 2147483563)) % 999999937 / 31 % many)) (.lst [.lst (ns.map Mp.D.int), .int i, .int 0, .int ((mark * 48889 + 1013) % 2147483563)] :: rest) := by
  have k1 : mulOk mark 48889 = true := mark_mul hm hm2 (by decide)
  have b0 := Int.emod_nonneg (mark * 48889 + 1013) (show (2147483563 : Int) ≠ 0 by decide)
  have b1 := Int.emod_lt_of_pos (mark * 48889 + 1013) (show (0 : Int) < 2147483563 by decide)
  have k2 : mulOk ((mark * 48889 + 1013) % 2147483563) ((mark * 48889 + 1013) % 2147483563) = true := mark_mul b0 b1 (by omega)
  have k3 : divOk 31 = true := by decide
  have a1 : Mp.ex (GG cl kk) mkxG (.setX (.loc 0) (.k (.int 3)) (.bin .mod (.blt .int_ [(.bin .add (.bin .mul (.idx (.loc 0) (.k (.int 3))) (.k (.int 48889))) (.k (.int 1013)))]) (.k (.int 2147483563)))) [some (.val (.ref 0)), some (.val (.int many)), s2, s3, s4] (.lst [.lst (ns.map Mp.D.int), .int i, .int 0, .int mark] :: rest) =
      .nx [some (.val (.ref 0)), some (.val (.int many)), s2, s3, s4] (.lst [.lst (ns.map Mp.D.int), .int i, .int 0, .int ((mark * 48889 + 1013) % 2147483563)] :: rest) := by
    simp [idxD, seqD, atI, ixN, bin_mul_int, bin_mod_int, setXD, k1]
  rw [exs_cons, a1, SR.then_nx]
  generalize (mark * 48889 + 1013) % 2147483563 = r at *
  simp [idxD, seqD, atI, ixN, bin_mul_int, bin_mod_int, bin_fdiv_int, k2, k3, h]
abbrev dT1 : Mp.St := .ife (.cmp .gt (.idx (.loc 0) (.k (.int 2))) (.k (.int 0))) [.asg (.nm 3) (.bin .mod (.blt .int_ [(.idx (.loc 0) (.k (.int 2)))]) (.loc 1)), .setX (.loc 0) (.k (.int 2)) (.bin .fdiv (.idx (.loc 0) (.k (.int 2))) (.loc 1)), .ret (.loc 3)] []
abbrev dT2 : List Mp.St := [.setX (.loc 0) (.k (.int 3)) (.bin .mod (.blt .int_ [(.bin .add (.bin .mul (.idx (.loc 0) (.k (.int 3))) (.k (.int 48889))) (.k (.int 1013)))]) (.k (.int 2147483563))), .ret (.bin .mod (.blt .int_ [(.bin .fdiv (.bin .mod (.blt .int_ [(.bin .mul (.idx (.loc 0) (.k (.int 3))) (.idx (.loc 0) (.k (.int 3))))]) (.k (.int 999999937))) (.k (.int 31)))]) (.loc 1))]
theorem draw_tail (ns : List Int) (i big mark many : Int) (s2 s3 s4 : Option Sl) (hi : 0 ≤ i) (hb : 0 ≤ big) (hm : 0 ≤ mark) (hm2 : mark < 2147483563) (h : 0 < many) (hd : divOk many = true) :
    ∃ r m', exs (GG cl kk) mkxG (dT1 :: dT2) [some (.val (.ref 0)), some (.val (.int many)), s2, s3, s4] (.lst [.lst (ns.map Mp.D.int), .int i, .int big, .int mark] :: rest) = .rt (.int r) m' ∧ 0 ≤ r ∧ r < many ∧ Bag ns rest m' := by
  rw [exs_cons]
  by_cases z : 0 < big
  · refine ⟨big % many, .lst [.lst (ns.map Mp.D.int), .int i, .int (big / many), .int mark] :: rest, ?_, Int.emod_nonneg _ (by omega), Int.emod_lt_of_pos _ h, ⟨i, big / many, mark, rfl, hi, Int.ediv_nonneg hb (by omega), hm, hm2⟩⟩
    simp [tst, idxD, seqD, atI, ixN, bin_mod_int, bin_fdiv_int, setXD, z, h, hd]
  · have z0 : big = 0 := by omega
    subst z0
    have e : Mp.ex (GG cl kk) mkxG dT1 [some (.val (.ref 0)), some (.val (.int many)), s2, s3, s4] (.lst [.lst (ns.map Mp.D.int), .int i, .int 0, .int mark] :: rest) = .nx [some (.val (.ref 0)), some (.val (.int many)), s2, s3, s4] (.lst [.lst (ns.map Mp.D.int), .int i, .int 0, .int mark] :: rest) := by
      simp [tst, idxD, seqD, atI, ixN]
    rw [e, SR.then_nx]
    have b0 := Int.emod_nonneg (mark * 48889 + 1013) (show (2147483563 : Int) ≠ 0 by decide)
    have b1 := Int.emod_lt_of_pos (mark * 48889 + 1013) (show (0 : Int) < 2147483563 by decide)
    exact ⟨_, _, draw_end cl kk rest ns i mark many s2 s3 s4 hm hm2 h, Int.emod_nonneg _ (by omega), Int.emod_lt_of_pos _ h, ⟨i, 0, _, rfl, hi, by omega, b0, b1⟩⟩
abbrev dB1 : Mp.St := .asg (.nm 2) (.idx (.idx (.loc 0) (.k (.int 0))) (.idx (.loc 0) (.k (.int 1))))
abbrev dB2 : Mp.St := .setX (.loc 0) (.k (.int 1)) (.bin .add (.idx (.loc 0) (.k (.int 1))) (.k (.int 1)))
abbrev dB3 : Mp.St := .ife (.cmp .ge (.loc 2) (.bin .pow (.k (.int 10)) (.k (.int 18)))) [.setX (.loc 0) (.k (.int 2)) (.loc 2)] [.asg (.nm 4) (.bin .add (.bin .mul (.idx (.loc 0) (.k (.int 3))) (.k (.int 39373))) (.bin .mod (.blt .int_ [(.loc 2)]) (.k (.int 2000000011)))), .setX (.loc 0) (.k (.int 3)) (.bin .mod (.blt .int_ [(.bin .add (.loc 4) (.idx (.loc 0) (.k (.int 1))))]) (.k (.int 2147483563)))]
abbrev dT0 : Mp.St := .ife (.andv (.cmp .eq (.idx (.loc 0) (.k (.int 2))) (.k (.int 0))) (.cmp .lt (.idx (.loc 0) (.k (.int 1))) (.blt .len [(.idx (.loc 0) (.k (.int 0)))]))) [dB1, dB2, dB3] []
theorem at_row (ns : List Int) (i : Int) (h0 : 0 ≤ i) (h1 : i < ns.length) : ∃ c : Int, atI (ns.map Mp.D.int) i = some (.int c) := by
  have hj : i.toNat < ns.length := by omega
  refine ⟨ns[i.toNat], ?_⟩
  unfold atI ixN
  rw [List.length_map, if_pos h0, if_pos h1]
  simp [hj]
theorem draw_head (ns : List Int) (i big mark many : Int) (hi : 0 ≤ i) (hb : 0 ≤ big) (hm : 0 ≤ mark) (hm2 : mark < 2147483563) :
    ∃ s2 s4 i' big' mark', Mp.ex (GG cl kk) mkxG dT0 [some (.val (.ref 0)), some (.val (.int many)), none, none, none] (.lst [.lst (ns.map Mp.D.int), .int i, .int big, .int mark] :: rest) = .nx [some (.val (.ref 0)), some (.val (.int many)), s2, none, s4] (.lst [.lst (ns.map Mp.D.int), .int i', .int big', .int mark'] :: rest) ∧ 0 ≤ i' ∧ 0 ≤ big' ∧ 0 ≤ mark' ∧ mark' < 2147483563 := by
  have kp : binD .pow (.int 10) (.int 18) = some (.int 1000000000000000000) := by kernel_rfl
  by_cases c1 : big = 0 ∧ i < ns.length
  · obtain ⟨rfl, c2⟩ := c1
    obtain ⟨c, hc⟩ := at_row ns i hi c2
    have t : tst (ev (GG cl kk) (.andv (.cmp .eq (.idx (.loc 0) (.k (.int 2))) (.k (.int 0))) (.cmp .lt (.idx (.loc 0) (.k (.int 1))) (.blt .len [(.idx (.loc 0) (.k (.int 0)))])))) [some (.val (.ref 0)), some (.val (.int many)), none, none, none] (.lst [.lst (ns.map Mp.D.int), .int i, .int 0, .int mark] :: rest) = .ok true (.lst [.lst (ns.map Mp.D.int), .int i, .int 0, .int mark] :: rest) := by
      simp [tst, idxD, seqD, atI, ixN, c2]
    have e1 : Mp.ex (GG cl kk) mkxG dB1 [some (.val (.ref 0)), some (.val (.int many)), none, none, none] (.lst [.lst (ns.map Mp.D.int), .int i, .int 0, .int mark] :: rest) = .nx [some (.val (.ref 0)), some (.val (.int many)), some (.val (.int c)), none, none] (.lst [.lst (ns.map Mp.D.int), .int i, .int 0, .int mark] :: rest) := by
      have k0 : ∀ m : MH, idxD (.lst (ns.map Mp.D.int)) (.int i) m = some (.int c) := fun m => hc
      have k1 : idxD (.ref 0) (.int 0) (.lst [.lst (ns.map Mp.D.int), .int i, .int 0, .int mark] :: rest) = some (.lst (ns.map Mp.D.int)) := rfl
      have k2 : idxD (.ref 0) (.int 1) (.lst [.lst (ns.map Mp.D.int), .int i, .int 0, .int mark] :: rest) = some (.int i) := rfl
      simp [k0, k1, k2]
    have e2 : Mp.ex (GG cl kk) mkxG dB2 [some (.val (.ref 0)), some (.val (.int many)), some (.val (.int c)), none, none] (.lst [.lst (ns.map Mp.D.int), .int i, .int 0, .int mark] :: rest) = .nx [some (.val (.ref 0)), some (.val (.int many)), some (.val (.int c)), none, none] (.lst [.lst (ns.map Mp.D.int), .int (i + 1), .int 0, .int mark] :: rest) := by
      simp [idxD, seqD, atI, ixN, setXD]
    by_cases c3 : (1000000000000000000 : Int) ≤ c
    · refine ⟨some (.val (.int c)), none, i + 1, c, mark, ?_, by omega, by omega, hm, hm2⟩
      rw [ex_ife, t, SR.of_ok]
      dsimp only
      rw [exs_cons, e1, SR.then_nx, exs_cons, e2, SR.then_nx]
      simp [tst, kp, c3, setXD, ixN]
    · have b0 := Int.emod_nonneg (mark * 39373 + c % 2000000011 + (i + 1)) (show (2147483563 : Int) ≠ 0 by decide)
      have b1 := Int.emod_lt_of_pos (mark * 39373 + c % 2000000011 + (i + 1)) (show (0 : Int) < 2147483563 by decide)
      refine ⟨some (.val (.int c)), some (.val (.int (mark * 39373 + c % 2000000011))), i + 1, 0, (mark * 39373 + c % 2000000011 + (i + 1)) % 2147483563, ?_, by omega, by omega, b0, b1⟩
      rw [ex_ife, t, SR.of_ok]
      dsimp only
      rw [exs_cons, e1, SR.then_nx, exs_cons, e2, SR.then_nx]
      have k1 : mulOk mark 39373 = true := mark_mul hm hm2 (by decide)
      simp [tst, kp, c3, setXD, ixN, idxD, seqD, atI, bin_mul_int, k1, bin_mod_int]
  · refine ⟨none, none, i, big, mark, ?_, hi, hb, hm, hm2⟩
    by_cases z : big = 0
    · have c2 : ¬ i < ns.length := fun h => c1 ⟨z, h⟩
      subst z
      simp [tst, idxD, seqD, atI, ixN, c2]
    · simp [tst, idxD, seqD, atI, ixN, z]
theorem draw_ok {ns : List Int} {many : Int} {m : MH} (hB : Bag ns rest m) (h : 0 < many) (hd : many < 2 ^ 200) : ∃ r m', FN (PP cl) (kk + 1) n__law_draw [.ref 0, .int many] m = .ok (.int r) m' ∧ 0 ≤ r ∧ r < many ∧ Bag ns rest m' := by
  obtain ⟨i, big, mark, rfl, hi, hb, hm, hm2⟩ := hB
  obtain ⟨s2, s4, i', big', mark', e, h1, h2, h3, h4⟩ := draw_head cl kk rest ns i big mark many hi hb hm hm2
  obtain ⟨r, m', e2, r0, r1, hB'⟩ := draw_tail cl kk rest ns i' big' mark' many s2 none s4 h1 h2 h3 h4 h (small_div h hd)
  refine ⟨r, m', ?_, r0, r1, hB'⟩
  rw [F__law_draw]
  refine runF_rt rfl ?_
  show exs (GG cl kk) mkxG (dT0 :: dT1 :: dT2) [some (.val (.ref 0)), some (.val (.int many)), none, none, none] _ = _
  rw [exs_cons, e, SR.then_nx]
  exact e2
/-- a thing drawn -/
theorem of_ok {ns : List Int} {xs : List Mp.D} {m : MH} (hB : Bag ns rest m) (h : 0 < xs.length) (hx : xs.length ≤ 1000) : ∃ x m', x ∈ xs ∧ FN (PP cl) (kk + 2) n__law_of [.ref 0, .lst xs] m = .ok x m' ∧ Bag ns rest m' := by
  obtain ⟨r, m', e, r0, r1, hB'⟩ := draw_ok cl kk rest (many := xs.length) hB (by omega) (by omega)
  have hj : r.toNat < xs.length := by omega
  refine ⟨xs[r.toNat], m', List.getElem_mem hj, ?_, hB'⟩
  rw [F__law_of]
  refine runF_rt rfl ?_
  have k : idxD (.lst xs) (.int r) m' = some xs[r.toNat] := by
    show atI xs r = _
    unfold atI ixN
    rw [if_pos r0, if_pos r1]
    simp [hj]
  simp [m__law_of, e, k]
abbrev bB : List Mp.St := [.asg (.nm 2) (.bin .mod (.blt .int_ [(.bin .add (.bin .add (.bin .mul (.loc 2) (.k (.int 40507))) (.bin .mod (.blt .int_ [(.loc 3)]) (.k (.int 2147483399)))) (.k (.int 13)))]) (.k (.int 2147483563)))]
theorem bag_loop (s0 s1 : Option Sl) : ∀ (ns : List Int) (mark : Int) (s3 : Option Sl), 0 ≤ mark → mark < 2147483563 → ∃ mark' s3', forS (.nm 3) (exs (GG cl kk) mkxG bB) (ns.map Mp.D.int) [s0, s1, some (.val (.int mark)), s3] [] = .nx [s0, s1, some (.val (.int mark')), s3'] [] ∧ 0 ≤ mark' ∧ mark' < 2147483563
  | [], mark, s3, h0, h1 => ⟨mark, s3, rfl, h0, h1⟩
  | n :: ns, mark, s3, h0, h1 => by
    have k1 : mulOk mark 40507 = true := mark_mul h0 h1 (by decide)
    have b0 := Int.emod_nonneg (mark * 40507 + n % 2147483399 + 13) (show (2147483563 : Int) ≠ 0 by decide)
    have b1 := Int.emod_lt_of_pos (mark * 40507 + n % 2147483399 + 13) (show (0 : Int) < 2147483563 by decide)
    obtain ⟨mark', s3', e, q⟩ := bag_loop s0 s1 ns ((mark * 40507 + n % 2147483399 + 13) % 2147483563) (some (.val (.int n))) b0 b1
    refine ⟨mark', s3', ?_, q⟩
    have e1 : exs (GG cl kk) mkxG bB [s0, s1, some (.val (.int mark)), some (.val (.int n))] [] = .nx [s0, s1, some (.val (.int ((mark * 40507 + n % 2147483399 + 13) % 2147483563))), some (.val (.int n))] [] := by
      simp [bin_mul_int, bin_mod_int, k1]
    rw [List.map_cons]
    unfold forS
    have t : tgD (.nm 3) (.int n) [s0, s1, some (.val (.int mark)), s3] = some [s0, s1, some (.val (.int mark)), some (.val (.int n))] := by rw [tgD_nm]; rfl
    rw [t]
    dsimp only
    rw [e1]
    exact e
theorem bag_ok (ns : List Int) (hl : ns.length ≤ 63) : ∃ m', FN (PP cl) (kk + 1) n__law_bag [.fz (ns.map Mp.D.int)] [] = .ok (.ref 0) m' ∧ Bag ns [] m' := by
  obtain ⟨mark', s3', e, h0, h1⟩ := bag_loop cl kk (some (.val (.fz (ns.map Mp.D.int)))) (some (.val (.lst (ns.map Mp.D.int)))) ns (3848 + 29 * (ns.length : Int)) none (by omega) (by omega)
  refine ⟨[.lst [.lst (ns.map Mp.D.int), .int 0, .int 0, .int mark']], ?_, ⟨0, 0, mark', rfl, by omega, by omega, h0, h1⟩⟩
  rw [F__law_bag]
  refine runF_rt rfl ?_
  have c : Mp.cutD (ns.map Mp.D.int) none (some 63) = ns.map Mp.D.int := by
    unfold Mp.cutD
    rw [List.length_map]
    show ((ns.map Mp.D.int).drop 0).take (HT.sIx ns.length ns.length (some 63) - 0) = _
    have : HT.sIx ns.length ns.length (some 63) = ns.length := by
      unfold HT.sIx
      dsimp only
      rw [if_neg (by decide)]
      show min 63 ns.length = _
      omega
    rw [this, Nat.sub_zero, List.drop_zero]
    exact List.take_of_length_le (by rw [List.length_map]; exact Nat.le_refl _)
  have m1 : mulOk 29 (ns.length : Int) = true := small_mul (by decide) (by omega)
  have a1 : Mp.ex (GG cl kk) mkxG (.asg (.nm 1) (.blt .list [(.sl (.loc 0) (.k .non) (.prt (.k (.int 63))))])) [some (.val (.fz (ns.map Mp.D.int))), none, none, none] [] = .nx [some (.val (.fz (ns.map Mp.D.int))), some (.val (.lst (ns.map Mp.D.int))), none, none] [] := by
    have s1 : slD (.fz (ns.map Mp.D.int)) none (some 63) = some (.lst (ns.map Mp.D.int)) := congrArg (fun z => some (Mp.D.lst z)) c
    simp [optI, s1]
  have a2 : Mp.ex (GG cl kk) mkxG (.asg (.nm 2) (.bin .add (.k (.int 3848)) (.bin .mul (.k (.int 29)) (.blt .len [(.loc 1)])))) [some (.val (.fz (ns.map Mp.D.int))), some (.val (.lst (ns.map Mp.D.int))), none, none] [] = .nx [some (.val (.fz (ns.map Mp.D.int))), some (.val (.lst (ns.map Mp.D.int))), some (.val (.int (3848 + 29 * (ns.length : Int)))), none] [] := by
    simp [bin_mul_int, m1]
  show exs (GG cl kk) mkxG m__law_bag [some (.val (.fz (ns.map Mp.D.int))), none, none, none] [] = _
  rw [m__law_bag, exs_cons, a1, SR.then_nx, exs_cons, a2, SR.then_nx, exs_cons, ex_for0]
  have i1 : itemsD (.lst (ns.map Mp.D.int)) = some (ns.map Mp.D.int) := rfl
  simp only [ev_loc_succ, ev_loc_zero, SR.of_ok, i1]
  rw [e]
  simp [le_line]
end
end Kb
end
section
set_option Elab.async false
set_option linter.all false
set_option maxRecDepth 100000
set_option maxHeartbeats 1000000
/-! LFrac: fractions of the program. -/
namespace Kb
open PySem PySem.Spec PyProof.Rows L2 Mp
section
variable (cl : List Nat) (kk : Nat)
theorem is_number_int (i : Int) (m : MH) : FN (PP cl) (kk + 1) n_is_number [.int i] m = .ok (.bl true) m := by
  rw [F_is_number]; simp [runF, m_is_number]
theorem is_number_bl (i : Bool) (m : MH) : FN (PP cl) (kk + 1) n_is_number [.bl i] m = .ok (.bl false) m := by
  rw [F_is_number]; simp [runF, m_is_number]
theorem is_number_str (i : Str) (m : MH) : FN (PP cl) (kk + 1) n_is_number [.str i] m = .ok (.bl false) m := by
  rw [F_is_number]; simp [runF, m_is_number]
theorem is_number_non (m : MH) : FN (PP cl) (kk + 1) n_is_number [.non] m = .ok (.bl false) m := by
  rw [F_is_number]; simp [runF, m_is_number]
theorem is_number_tup (xs : List Mp.D) (m : MH) : FN (PP cl) (kk + 1) n_is_number [.tup xs] m = .ok (.bl false) m := by
  rw [F_is_number]; simp [runF, m_is_number]
theorem is_number_lst (xs : List Mp.D) (m : MH) : FN (PP cl) (kk + 1) n_is_number [.lst xs] m = .ok (.bl false) m := by
  rw [F_is_number]; simp [runF, m_is_number]
/-- whether any value is a number -/
def isNum : Mp.D → Bool
  | .int _ => true
  | _ => false
theorem tst_gt0 (G : Gt) (fr : Fr) (m : MH) (b : Int) (i : Nat) (h : fr[i]? = some (some (.val (.int b)))) : tst (ev G (.cmp .gt (.loc i) (.k (.int 0)))) fr m = .ok (decide (0 < b)) m := by
  simp [tst, ev_loc_ _ _ _ _ _ h]
theorem common_loop (n : Nat) : ∀ (a b : Int) (m : MH), b.toNat ≤ n → whileS (tst (ev (GG cl kk) (.cmp .gt (.loc 1) (.k (.int 0))))) (exs (GG cl kk) mkxG [.asg (.tup [.nm 0, .nm 1]) (.tup [(.loc 1), (.bin .mod (.loc 0) (.loc 1))])]) [some (.val (.int a)), some (.val (.int b))] m =
    .nx [some (.val (.int (gcdL a b))), some (.val (.int (if 0 < b then 0 else b)))] m := by
  induction n with
  | zero =>
    intro a b m hb
    have h : ¬ 0 < b := by omega
    rw [whileS_eq, tst_gt0 _ _ _ b 1 rfl]
    simp [h]
    rw [gcdL, dif_neg h]
  | succ n ih =>
    intro a b m hb
    rw [whileS_eq, tst_gt0 _ _ _ b 1 rfl]
    by_cases h : 0 < b
    · have h1 := Int.emod_lt_of_pos a h
      have h2 := Int.emod_nonneg a (show b ≠ 0 by omega)
      have e : exs (GG cl kk) mkxG [.asg (.tup [.nm 0, .nm 1]) (.tup [(.loc 1), (.bin .mod (.loc 0) (.loc 1))])] [some (.val (.int a)), some (.val (.int b))] m = .nx [some (.val (.int b)), some (.val (.int (a % b)))] m := by
        simp [bin_mod_int, h, le_line]
      simp only [h, decide_true, SR.of_ok]
      rw [e]
      dsimp only
      rw [ih b (a % b) m (by omega)]
      rw [gcdL.eq_1 a b, dif_pos h]
      have h0 : (if 0 < a % b then (0 : Int) else a % b) = 0 := by split <;> omega
      rw [h0]
      simp
    · simp [h]
      rw [gcdL, dif_neg h]
theorem common_ok (a b : Int) (m : MH) : FN (PP cl) (kk + 1) n_common [.int a, .int b] m = .ok (.int (gcdL a b)) m := by
  have e := common_loop cl kk b.toNat a b m (Nat.le_refl _)
  rw [F_common]
  refine runF_rt rfl ?_
  show exs (GG cl kk) mkxG m_common [some (.val (.int a)), some (.val (.int b))] m = _
  rw [m_common, exs_cons, ex_whl, e]
  simp
theorem fraction_zero (t : Int) (m : MH) : FN (PP cl) (kk + 1) n_fraction [.int t, .int 0] m = .exc ⟨2, [0], [.str "ZeroDivisor"]⟩ m := by
  rw [F_fraction]
  simp [runF, m_fraction, tst, mkxG]
theorem abs_sg (t b : Int) : gcdL (absI (if b < 0 then -t else t)) (if b < 0 then -b else b) = Int.gcd t b := by
  by_cases h : b < 0
  · rw [if_pos h, if_pos h, ← gcd_abs]
    congr 1 <;> unfold absI
    · split <;> split <;> omega
    · rw [if_pos h]
  · rw [if_neg h, if_neg h, ← gcd_abs]
    congr 1
    unfold absI
    rw [if_neg h]
theorem fraction_ok {t b : Int} (hb : b ≠ 0) (h2 : b.natAbs < 2 ^ 200) (m : MH) : FN (PP cl) (kk + 2) n_fraction [.int t, .int b] m = .ok (due t b) m := by
  have g0 := gg_pos t b hb
  have g1 := gg_le t b hb
  have hg : divOk (gg t b) = true := small_div g0 (by omega)
  have hc : ∀ (i j : Int) (m : MH), FN (PP cl) (kk + 1) 1 [.int i, .int j] m = .ok (.int (gcdL i j)) m := fun i j m => common_ok cl kk i j m
  rw [F_fraction]
  refine runF_rt rfl ?_
  show exs (GG cl (kk + 1)) mkxG m_fraction [some (.val (.int t)), some (.val (.int b)), none] m = _
  have a1 : Mp.ex (GG cl (kk + 1)) mkxG (.ife (.cmp .eq (.loc 1) (.k (.int 0))) [.rais 2 []] []) [some (.val (.int t)), some (.val (.int b)), none] m = .nx [some (.val (.int t)), some (.val (.int b)), none] m := by
    simp [tst, hb]
  have a2 : Mp.ex (GG cl (kk + 1)) mkxG (.ife (.cmp .lt (.loc 1) (.k (.int 0))) [.asg (.tup [.nm 0, .nm 1]) (.tup [(.neg (.loc 0)), (.neg (.loc 1))])] []) [some (.val (.int t)), some (.val (.int b)), none] m = .nx [some (.val (.int (sg b * t))), some (.val (.int (sg b * b))), none] m := by
    rw [sg_mul, sg_mul]
    by_cases z : b < 0
    · simp [tst, z, le_line]
    · simp [tst, z, le_line]
  have a3 : Mp.ex (GG cl (kk + 1)) mkxG (.asg (.nm 2) (.call 1 [(.blt .abs [(.loc 0)]), (.loc 1)])) [some (.val (.int (sg b * t))), some (.val (.int (sg b * b))), none] m = .nx [some (.val (.int (sg b * t))), some (.val (.int (sg b * b))), some (.val (.int (gg t b)))] m := by
    have e : gcdL (absI (sg b * t)) (sg b * b) = gg t b := by
      rw [sg_mul, sg_mul]
      exact abs_sg t b
    simp only [ex_asg, ev_call, evs_cons, evs_nil, ev_blt, ev_loc_succ, ev_loc_zero, R.ok_bind, abs_int, optR_some, gtW_fn, hc, e, SR.of_ok, tgD_nm]
    rfl
  rw [m_fraction, exs_cons, a1, SR.then_nx, exs_cons, a2, SR.then_nx, exs_cons, a3, SR.then_nx]
  simp [bin_fdiv_int _ _ hg, le_line, due, rn, rd]
theorem low_loop (n : Nat) (s0 s1 s2 : Option Sl) : ∀ (a b : Int) (m : MH), b.toNat ≤ n → whileS (tst (ev (GG cl kk) (.cmp .gt (.loc 4) (.k (.int 0))))) (exs (GG cl kk) mkxG [.asg (.tup [.nm 3, .nm 4]) (.tup [(.loc 4), (.bin .mod (.blt .int_ [(.loc 3)]) (.loc 4))])]) [s0, s1, s2, some (.val (.int a)), some (.val (.int b))] m =
    .nx [s0, s1, s2, some (.val (.int (gcdL a b))), some (.val (.int (if 0 < b then 0 else b)))] m := by
  induction n with
  | zero =>
    intro a b m hb
    have h : ¬ 0 < b := by omega
    rw [whileS_eq, tst_gt0 _ _ _ b 4 rfl]
    simp [h]
    rw [gcdL, dif_neg h]
  | succ n ih =>
    intro a b m hb
    rw [whileS_eq, tst_gt0 _ _ _ b 4 rfl]
    by_cases h : 0 < b
    · have h1 := Int.emod_lt_of_pos a h
      have h2 := Int.emod_nonneg a (show b ≠ 0 by omega)
      have e : exs (GG cl kk) mkxG [.asg (.tup [.nm 3, .nm 4]) (.tup [(.loc 4), (.bin .mod (.blt .int_ [(.loc 3)]) (.loc 4))])] [s0, s1, s2, some (.val (.int a)), some (.val (.int b))] m = .nx [s0, s1, s2, some (.val (.int b)), some (.val (.int (a % b)))] m := by
        simp [bin_mod_int, h, le_line]
      simp only [h, decide_true, SR.of_ok]
      rw [e]
      dsimp only
      rw [ih b (a % b) m (by omega)]
      rw [gcdL.eq_1 a b, dif_pos h]
      have h0 : (if 0 < a % b then (0 : Int) else a % b) = 0 := by split <;> omega
      rw [h0]
      simp
    · simp [h]
      rw [gcdL, dif_neg h]
theorem low_ok {t b : Int} (hb : b ≠ 0) (h1 : t.natAbs < 2 ^ 200) (h2 : b.natAbs < 2 ^ 200) (m : MH) : FN (PP cl) (kk + 1) n__law_low [.int t, .int b] m = .ok (due t b) m := by
  have g0 := gg_pos t b hb
  have g1 := gg_le t b hb
  have hg : divOk (gg t b) = true := small_div g0 (by omega)
  have e := low_loop cl kk (absI b).toNat (some (.val (.int t))) (some (.val (.int b))) none (absI t) (absI b) m (Nat.le_refl _)
  rw [gcd_abs] at e
  rw [F__law_low]
  refine runF_rt rfl ?_
  have a1 : Mp.ex (GG cl kk) mkxG (.asg (.tup [.nm 3, .nm 4]) (.tup [(.blt .abs [(.loc 0)]), (.blt .abs [(.loc 1)])])) [some (.val (.int t)), some (.val (.int b)), none, none, none] m = .nx [some (.val (.int t)), some (.val (.int b)), none, some (.val (.int (absI t))), some (.val (.int (absI b)))] m := by
    simp [le_line, absI]
  have hs : (sg b).natAbs < 2 ^ 200 := by unfold sg; split <;> decide
  have k1 := mul_int hs h1
  have k2 := mul_int hs h2
  show exs (GG cl kk) mkxG m__law_low [some (.val (.int t)), some (.val (.int b)), none, none, none] m = _
  have a3 : Mp.ex (GG cl kk) mkxG (.asg (.nm 2) (.ite (.cmp .lt (.loc 1) (.k (.int 0))) (.neg (.k (.int 1))) (.k (.int 1)))) [some (.val (.int t)), some (.val (.int b)), none, some (.val (.int ((Int.gcd t b : Nat) : Int))), some (.val (.int (if 0 < absI b then 0 else absI b)))] m = .nx [some (.val (.int t)), some (.val (.int b)), some (.val (.int (sg b))), some (.val (.int (gg t b))), some (.val (.int (if 0 < absI b then 0 else absI b)))] m := by
    unfold sg gg
    by_cases z : b < 0
    · simp [z]
    · simp [z]
  rw [m__law_low, exs_cons, a1, SR.then_nx, exs_cons, ex_whl, e, SR.then_nx, exs_cons, a3, SR.then_nx]
  simp [k1, k2, bin_fdiv_int _ _ hg, le_line, due, rn, rd]
end
end Kb
end
section
set_option Elab.async false
set_option linter.all false
set_option maxRecDepth 100000
set_option maxHeartbeats 1000000
/-! LFrac2: sums, products, order of fractions. -/
namespace Kb
open PySem PySem.Spec PyProof.Rows L2 Mp
abbrev fr (n d : Int) : Mp.D := .tup [.int n, .int d]
abbrev Sm (x : Int) : Prop := x.natAbs < 2 ^ 90
theorem sm_mul {x y : Int} (hx : Sm x) (hy : Sm y) : (x * y).natAbs < 2 ^ 180 := by
  rw [Int.natAbs_mul]
  have h := Nat.mul_lt_mul'' hx hy
  rw [← Nat.pow_add] at h
  exact h
theorem sm_bin {x y : Int} (hx : Sm x) (hy : Sm y) : binD .mul (.int x) (.int y) = some (.int (x * y)) :=
  mul_int (Nat.lt_trans hx (by decide)) (Nat.lt_trans hy (by decide))
theorem mul_ne {b d : Int} (hb : b ≠ 0) (hd : d ≠ 0) : b * d ≠ 0 := fun h => (Int.mul_eq_zero.mp h).elim hb hd
section
variable (cl : List Nat) (kk : Nat) {a b c d : Int} (ha : Sm a) (hb : Sm b) (hc : Sm c) (hd : Sm d) (m : MH)
include ha hb hc hd
theorem plus_ok (nb : b ≠ 0) (nd : d ≠ 0) : FN (PP cl) (kk + 3) n_plus [fr a b, fr c d] m = .ok (due (a * d + c * b) (b * d)) m := by
  have f := fraction_ok cl kk (t := a * d + c * b) (mul_ne nb nd) (Nat.lt_trans (sm_mul hb hd) (by decide)) m
  rw [F_plus]
  simp [runF, m_plus, sm_bin ha hd, sm_bin hc hb, sm_bin hb hd, f]
theorem minus_ok (nb : b ≠ 0) (nd : d ≠ 0) : FN (PP cl) (kk + 3) n_minus [fr a b, fr c d] m = .ok (due (a * d - c * b) (b * d)) m := by
  have f := fraction_ok cl kk (t := a * d - c * b) (mul_ne nb nd) (Nat.lt_trans (sm_mul hb hd) (by decide)) m
  rw [F_minus]
  simp [runF, m_minus, sm_bin ha hd, sm_bin hc hb, sm_bin hb hd, f]
theorem times_ok (nb : b ≠ 0) (nd : d ≠ 0) : FN (PP cl) (kk + 3) n_times [fr a b, fr c d] m = .ok (due (a * c) (b * d)) m := by
  have f := fraction_ok cl kk (t := a * c) (mul_ne nb nd) (Nat.lt_trans (sm_mul hb hd) (by decide)) m
  rw [F_times]
  simp [runF, m_times, sm_bin ha hc, sm_bin hb hd, f]
theorem divided_ok (nb : b ≠ 0) (nc : c ≠ 0) : FN (PP cl) (kk + 3) n_divided [fr a b, fr c d] m = .ok (due (a * d) (b * c)) m := by
  have f := fraction_ok cl kk (t := a * d) (mul_ne nb nc) (Nat.lt_trans (sm_mul hb hc) (by decide)) m
  rw [F_divided]
  simp [runF, m_divided, sm_bin ha hd, sm_bin hb hc, f]
theorem divided_zero (nc : c = 0) : FN (PP cl) (kk + 3) n_divided [fr a b, fr c d] m = .exc ⟨2, [0], [.str "ZeroDivisor"]⟩ m := by
  subst nc
  have f := fraction_zero cl (kk + 1) (a * d) m
  rw [F_divided]
  simp [runF, m_divided, sm_bin ha hd, sm_bin hb hc, f]
theorem order_ok : FN (PP cl) (kk + 1) n_order [fr a b, fr c d] m = .ok (.int ((if c * b < a * d then 1 else 0) - (if a * d < c * b then 1 else 0))) m := by
  rw [F_order]
  simp [runF, m_order, sm_bin ha hd, sm_bin hc hb, le_line]
theorem ladd_ok (nb : b ≠ 0) (nd : d ≠ 0) : FN (PP cl) (kk + 2) n__law_add [fr a b, fr c d] m = .ok (due (a * d + c * b) (b * d)) m := by
  have z1 := sm_mul ha hd
  have z2 := sm_mul hc hb
  have f := low_ok cl kk (t := a * d + c * b) (mul_ne nb nd) (by
    have := Int.natAbs_add_le (a * d) (c * b)
    omega) (Nat.lt_trans (sm_mul hb hd) (by decide)) m
  rw [F__law_add]
  simp [runF, m__law_add, sm_bin ha hd, sm_bin hc hb, sm_bin hb hd, f]
theorem lmul_ok (nb : b ≠ 0) (nd : d ≠ 0) : FN (PP cl) (kk + 2) n__law_mul [fr a b, fr c d] m = .ok (due (a * c) (b * d)) m := by
  have f := low_ok cl kk (t := a * c) (mul_ne nb nd) (Nat.lt_trans (sm_mul ha hc) (by decide)) (Nat.lt_trans (sm_mul hb hd) (by decide)) m
  rw [F__law_mul]
  simp [runF, m__law_mul, sm_bin ha hc, sm_bin hb hd, f]
end
section
variable (cl : List Nat)
theorem alike_refl : ∀ (k kk : Nat) (d : Mp.D) (m : MH), Alk k d → FN (PP cl) (kk + k) n__law_alike [d, d] m = .ok (.bl true) m
  | 0, _, _, _, h => h.elim
  | k + 1, kk, d, m, h => by
    have e : FN (PP cl) (kk + (k + 1)) n__law_alike = runF (GG cl (kk + k)) mkxG 2 4 m__law_alike := F__law_alike cl (kk + k)
    rw [e]
    exact alike_step (GG cl (kk + k)) mkxG n__law_alike k (fun d m h => alike_refl k kk d m h) d m h
end
end Kb
end
section
set_option Elab.async false
set_option linter.all false
set_option maxRecDepth 100000
set_option maxHeartbeats 1000000
/-! LSome: drawn fractions; total, least. -/
namespace Kb
open PySem PySem.Spec PyProof.Rows L2 Mp
section
variable (cl : List Nat) (kk : Nat) (rest : MH)
/-- a thing drawn, of numbers -/
theorem of_int {ns : List Int} {is : List Int} {m : MH} (hB : Bag ns rest m) (h : 0 < is.length) (hx : is.length ≤ 1000) : ∃ i m', i ∈ is ∧ FN (PP cl) (kk + 2) n__law_of [.ref 0, .lst (is.map .int)] m = .ok (.int i) m' ∧ Bag ns rest m' := by
  obtain ⟨x, m', h1, h2, h3⟩ := of_ok cl kk rest (xs := is.map .int) hB (by simpa using h) (by simpa using hx)
  obtain ⟨i, hi, rfl⟩ := List.mem_map.mp h1
  exact ⟨i, m', hi, h2, h3⟩
theorem some_fraction_ok {ns : List Int} {m : MH} (hB : Bag ns rest m) : ∃ n d m', FN (PP cl) (kk + 3) n__law_some_fraction [.ref 0] m = .ok (fr n d) m' ∧ Bag ns rest m' ∧ Low n d ∧ n.natAbs ≤ 29 ∧ d ≤ 12 := by
  obtain ⟨r1, m1, e1, a1, b1, B1⟩ := draw_ok cl (kk + 1) rest (many := 30) hB (by decide) (by decide)
  obtain ⟨x, m2, hx, e2, B2⟩ := of_int cl kk rest (is := [0, 1, 2, 5, r1]) B1 (by simp) (by simp)
  obtain ⟨r2, m3, e3, a3, b3, B3⟩ := draw_ok cl (kk + 1) rest (many := 12) B2 (by decide) (by decide)
  obtain ⟨y, m4, hy, e4, B4⟩ := of_int cl kk rest (is := [1, 1, 2, 3, 1 + r2]) B3 (by simp) (by simp)
  obtain ⟨z, m5, hz, e5, B5⟩ := of_int cl kk rest (is := [x, x, -x]) B4 (by simp) (by simp)
  have hx : 0 ≤ x ∧ x ≤ 29 := by
    simp only [List.mem_cons, List.not_mem_nil, or_false] at hx
    omega
  have hy : 1 ≤ y ∧ y ≤ 12 := by
    simp only [List.mem_cons, List.not_mem_nil, or_false] at hy
    omega
  have hz : z.natAbs ≤ 29 := by
    simp only [List.mem_cons, List.not_mem_nil, or_false] at hz
    omega
  have e6 := low_ok cl (kk + 1) (t := z) (b := y) (by omega) (by omega) (by omega) m5
  simp only [List.map_cons, List.map_nil] at e2 e4 e5
  have q := red_fr z y (by omega)
  have l1 := rn_le z y (by omega)
  have l2 := rd_le z y (by omega)
  refine ⟨rn z y, rd z y, m5, ?_, B5, q, by omega, by have := q.pos; omega⟩
  rw [F__law_some_fraction]
  refine runF_rt rfl ?_
  show exs (GG cl (kk + 2)) mkxG m__law_some_fraction [some (.val (.ref 0)), none, none] m = _
  simp [m__law_some_fraction, e1, e2, e3, e4, e5, e6, le_line, due]
end
/-! ### total -/
abbrev frp (p : Int × Int) : Mp.D := fr p.1 p.2
/-- a sum that is not reduced -/
def sumP : Int × Int → List (Int × Int) → Int × Int
  | p, [] => p
  | p, q :: r => sumP (p.1 * q.2 + q.1 * p.2, p.2 * q.2) r
def Nd (p : Int × Int) : Prop := p.2 ≠ 0 ∧ p.1.natAbs ≤ 2 ^ 8 ∧ p.2.natAbs ≤ 2 ^ 8
theorem sm_le {x : Int} {k : Nat} (h : x.natAbs ≤ 2 ^ k) (hk : k < 90) : Sm x := Nat.lt_of_le_of_lt h (Nat.pow_lt_pow_right (by decide) hk)
theorem mul_le_pow {x y : Int} {i j : Nat} (hx : x.natAbs ≤ 2 ^ i) (hy : y.natAbs ≤ 2 ^ j) : (x * y).natAbs ≤ 2 ^ (i + j) := by
  rw [Int.natAbs_mul, Nat.pow_add]
  exact Nat.mul_le_mul hx hy
theorem add_le_pow {x y : Int} {i : Nat} (hx : x.natAbs ≤ 2 ^ i) (hy : y.natAbs ≤ 2 ^ i) : (x + y).natAbs ≤ 2 ^ (i + 1) := by
  have := Int.natAbs_add_le x y
  rw [Nat.pow_succ]
  omega
theorem pow_le {x : Int} {i j : Nat} (hx : x.natAbs ≤ 2 ^ i) (h : i ≤ j) : x.natAbs ≤ 2 ^ j := Nat.le_trans hx (Nat.pow_le_pow_right (by decide) h)
section
variable (cl : List Nat) (kk : Nat)
theorem total_loop (s0 : Option Sl) (m : MH) : ∀ (xs : List (Int × Int)) (N D : Int) (i : Nat) (s2 : Option Sl), (∀ x ∈ xs, Nd x) → D ≠ 0 → N.natAbs ≤ 2 ^ i → D.natAbs ≤ 2 ^ i → i + 10 * xs.length ≤ 80 →
    ∃ s2', forS (.nm 2) (exs (GG cl (kk + 3)) mkxG [.asg (.nm 1) (.call 20 [(.loc 1), (.loc 2)])]) (xs.map frp) [s0, some (.val (due N D)), s2] m = .nx [s0, some (.val (due (sumP (N, D) xs).1 (sumP (N, D) xs).2)), s2'] m ∧ (sumP (N, D) xs).2 ≠ 0
  | [], N, D, i, s2, _, hD, _, _, _ => ⟨s2, rfl, hD⟩
  | (c, d) :: xs, N, D, i, s2, hx, hD, hN, hD2, hi => by
    obtain ⟨z1, z2, z3⟩ := hx (c, d) (List.mem_cons_self ..)
    dsimp only at z1 z2 z3
    have l1 := rn_le N D hD
    have l2 := rd_le N D hD
    have q := red_fr N D hD
    have q2 := red_eq N D hD
    rw [List.length_cons] at hi
    have hi : i ≤ 70 := by omega
    have e := plus_ok cl kk (a := rn N D) (b := rd N D) (c := c) (d := d) (sm_le (k := 70) (pow_le (Nat.le_trans l1 hN) hi) (by decide)) (sm_le (k := 70) (pow_le (Nat.le_trans l2 hD2) hi) (by decide)) (sm_le z2 (by decide)) (sm_le z3 (by decide)) m (by have := q.pos; omega) z1
    have c1 : due (rn N D * d + c * rd N D) (rd N D * d) = due (N * d + c * D) (D * d) :=
      due_cross (mul_ne (by have := q.pos; omega) z1) (mul_ne hD z1) (by grind)
    rw [c1] at e
    obtain ⟨s2', e2, h2⟩ := total_loop s0 m xs (N * d + c * D) (D * d) (i + 9) (some (.val (fr c d))) (fun x h => hx x (List.mem_cons_of_mem _ h)) (mul_ne hD z1)
      (add_le_pow (i := i + 8) (mul_le_pow hN z3) (by rw [Nat.add_comm]; exact mul_le_pow z2 hD2)) (pow_le (mul_le_pow hD2 z3) (by omega)) (by omega)
    refine ⟨s2', ?_, h2⟩
    rw [List.map_cons]
    unfold forS
    have t : tgD (.nm 2) (frp (c, d)) [s0, some (.val (due N D)), s2] = some [s0, some (.val (due N D)), some (.val (fr c d))] := by rw [tgD_nm]; rfl
    rw [t]
    dsimp only
    have e0 : exs (GG cl (kk + 3)) mkxG [.asg (.nm 1) (.call 20 [(.loc 1), (.loc 2)])] [s0, some (.val (due N D)), some (.val (fr c d))] m = .nx [s0, some (.val (due (N * d + c * D) (D * d))), some (.val (fr c d))] m := by
      simp [due] at e ⊢
      simp [e]
    rw [e0]
    exact e2
theorem total_ok (xs : List (Int × Int)) (m : MH) (hx : ∀ x ∈ xs, Nd x) (hl : xs.length ≤ 7) : FN (PP cl) (kk + 4) n_total (xs.map frp) m = .ok (due (sumP (0, 1) xs).1 (sumP (0, 1) xs).2) m ∧ (sumP (0, 1) xs).2 ≠ 0 := by
  obtain ⟨s2, e, h⟩ := total_loop cl kk (some (.val (.tup (xs.map frp)))) m xs 0 1 0 none hx (by decide) (by decide) (by decide) (by omega)
  refine ⟨?_, h⟩
  have z : due 0 1 = fr 0 1 := due_self ⟨by decide, by decide⟩
  rw [z] at e
  rw [F_total]
  unfold runFS
  rw [if_pos ⟨Nat.zero_le _, by rw [List.drop_zero, List.length_map]; exact le_line (by omega)⟩]
  refine runF_rt rfl ?_
  show exs (GG cl (kk + 3)) mkxG m_total [some (.val (.tup (xs.map frp))), none, none] m = _
  have a1 : Mp.ex (GG cl (kk + 3)) mkxG (.asg (.nm 1) (.cst 0)) [some (.val (.tup (xs.map frp))), none, none] m = .nx [some (.val (.tup (xs.map frp))), some (.val (fr 0 1)), none] m := by
    simp [cstG]
  rw [m_total, exs_cons, a1, SR.then_nx, exs_cons, ex_for0]
  simp only [ev_loc_zero, SR.of_ok, items_tup]
  rw [e]
  simp
/-! ### least -/
def Pos (p : Int × Int) : Prop := 0 < p.2 ∧ Sm p.1 ∧ Sm p.2
abbrev le2 (p q : Int × Int) : Prop := p.1 * q.2 ≤ q.1 * p.2
theorem le2_trans {p f q : Int × Int} (hf : 0 < f.2) (hp : 0 < p.2) (hq : 0 < q.2) (h1 : le2 p f) (h2 : le2 f q) : le2 p q := by
  have a := Int.mul_le_mul_of_nonneg_right h1 (Int.le_of_lt hq)
  have b := Int.mul_le_mul_of_nonneg_right h2 (Int.le_of_lt hp)
  have c : p.1 * q.2 * f.2 ≤ q.1 * p.2 * f.2 := by grind
  exact Int.le_of_mul_le_mul_right c hf
theorem least_loop (s0 : Option Sl) (m : MH) : ∀ (xs : List (Int × Int)) (f : Int × Int) (s2 : Option Sl), (∀ x ∈ xs, Pos x) → Pos f →
    ∃ p s2', forS (.nm 2) (exs (GG cl (kk + 1)) mkxG [.ife (.cmp .lt (.call 25 [(.loc 2), (.loc 1)]) (.k (.int 0))) [.asg (.nm 1) (.loc 2)] []]) (xs.map frp) [s0, some (.val (frp f)), s2] m = .nx [s0, some (.val (frp p)), s2'] m ∧ (p = f ∨ p ∈ xs) ∧ Pos p ∧ le2 p f ∧ ∀ q ∈ xs, le2 p q
  | [], f, s2, _, hf => ⟨f, s2, rfl, .inl rfl, hf, Int.le_refl _, fun _ h => nomatch h⟩
  | c :: xs, f, s2, hx, hf => by
    have hc := hx c (List.mem_cons_self ..)
    have e := order_ok cl kk (a := c.1) (b := c.2) (c := f.1) (d := f.2) hc.2.1 hc.2.2 hf.2.1 hf.2.2 m
    have t : tgD (.nm 2) (frp c) [s0, some (.val (frp f)), s2] = some [s0, some (.val (frp f)), some (.val (frp c))] := by rw [tgD_nm]; rfl
    by_cases z : c.1 * f.2 < f.1 * c.2
    · obtain ⟨p, s2', e2, h1, h2, h3, h4⟩ := least_loop s0 m xs c (some (.val (frp c))) (fun x h => hx x (List.mem_cons_of_mem _ h)) hc
      refine ⟨p, s2', ?_, .inr (by rcases h1 with rfl | h1; exact List.mem_cons_self ..; exact List.mem_cons_of_mem _ h1), h2, le2_trans hc.1 h2.1 hf.1 h3 (Int.le_of_lt z), fun q hq => ?_⟩
      · rw [List.map_cons]
        unfold forS
        rw [t]
        dsimp only
        have e0 : exs (GG cl (kk + 1)) mkxG [.ife (.cmp .lt (.call 25 [(.loc 2), (.loc 1)]) (.k (.int 0))) [.asg (.nm 1) (.loc 2)] []] [s0, some (.val (frp f)), some (.val (frp c))] m = .nx [s0, some (.val (frp c)), some (.val (frp c))] m := by
          have z' : ¬ f.1 * c.2 < c.1 * f.2 := by omega
          simp [tst, e, z, z']
        rw [e0]
        exact e2
      · rcases List.mem_cons.mp hq with rfl | hq
        · exact h3
        · exact h4 q hq
    · obtain ⟨p, s2', e2, h1, h2, h3, h4⟩ := least_loop s0 m xs f (some (.val (frp c))) (fun x h => hx x (List.mem_cons_of_mem _ h)) hf
      refine ⟨p, s2', ?_, by rcases h1 with h1 | h1; exact .inl h1; exact .inr (List.mem_cons_of_mem _ h1), h2, h3, fun q hq => ?_⟩
      · rw [List.map_cons]
        unfold forS
        rw [t]
        dsimp only
        have e0 : exs (GG cl (kk + 1)) mkxG [.ife (.cmp .lt (.call 25 [(.loc 2), (.loc 1)]) (.k (.int 0))) [.asg (.nm 1) (.loc 2)] []] [s0, some (.val (frp f)), some (.val (frp c))] m = .nx [s0, some (.val (frp f)), some (.val (frp c))] m := by
          by_cases z' : f.1 * c.2 < c.1 * f.2 <;> simp [tst, e, z, z']
        rw [e0]
        exact e2
      · rcases List.mem_cons.mp hq with rfl | hq
        · exact le2_trans hf.1 h2.1 hc.1 h3 (by unfold le2; omega)
        · exact h4 q hq
theorem least_ok (f : Int × Int) (xs : List (Int × Int)) (m : MH) (hx : ∀ x ∈ f :: xs, Pos x) (hl : xs.length ≤ 500) : ∃ p ∈ f :: xs, FN (PP cl) (kk + 2) n_least ((f :: xs).map frp) m = .ok (frp p) m ∧ ∀ q ∈ f :: xs, le2 p q := by
  obtain ⟨p, s2, e, h1, h2, h3, h4⟩ := least_loop cl kk (some (.val (.tup ((f :: xs).map frp)))) m xs f none (fun x h => hx x (List.mem_cons_of_mem _ h)) (hx f (List.mem_cons_self ..))
  refine ⟨p, by rcases h1 with rfl | h1; exact List.mem_cons_self ..; exact List.mem_cons_of_mem _ h1, ?_, fun q hq => ?_⟩
  · rw [F_least]
    unfold runFS
    rw [if_pos ⟨Nat.zero_le _, by rw [List.drop_zero, List.length_map, List.length_cons]; exact le_line (by omega)⟩]
    refine runF_rt rfl ?_
    show exs (GG cl (kk + 1)) mkxG m_least [some (.val (.tup ((f :: xs).map frp))), none, none] m = _
    have a1 : Mp.ex (GG cl (kk + 1)) mkxG (.asg (.nm 1) (.idx (.loc 0) (.k (.int 0)))) [some (.val (.tup ((f :: xs).map frp))), none, none] m = .nx [some (.val (.tup ((f :: xs).map frp))), some (.val (frp f)), none] m := by
      simp
    have sl : slD (.tup ((f :: xs).map frp)) (some 1) none = some (.tup (xs.map frp)) := by
      show some (Mp.D.tup (Mp.cutD _ (some ((1 : Nat) : Int)) none)) = _
      rw [cut_from]
      rfl
    rw [m_least, exs_cons, a1, SR.then_nx, exs_cons, ex_for0]
    simp only [ev_sl, ev_prt, ev_k, R.ok_bind, ev_loc_zero, optI, sl, optR_some, SR.of_ok, items_tup]
    rw [e]
    simp
  · rcases List.mem_cons.mp hq with rfl | hq
    · exact h3
    · exact h4 q hq
end
end Kb
end
section
set_option Elab.async false
set_option linter.all false
set_option maxRecDepth 100000
set_option maxHeartbeats 1000000
/-! LTxt: texts as lists of signs; loops and comprehensions that change nothing else. -/
namespace Mp
open PySem PySem.Spec PyProof.Rows L2
/-- a comprehension whose parts only compute -/
theorem compGo_map {A : Type} {vs : List Nat} {tg : Tg} {el : Fr → MH → R D} {fr : Fr} {m : MH} (g h : A → D) : ∀ (xs : List A) (acc : List D), (∀ x ∈ xs, ∃ fr2, tgD tg (g x) (wipeF fr vs) = some fr2 ∧ el fr2 m = .ok (h x) m) → acc.length + xs.length ≤ sizeLine →
    compGo vs tg [] el fr (xs.map g) acc m = .ok (acc ++ xs.map h) m
  | [], acc, _, _ => by simp [compGo]
  | x :: xs, acc, hx, hl => by
    obtain ⟨fr2, e1, e2⟩ := hx x (List.mem_cons_self ..)
    have ih := compGo_map g h xs (acc ++ [h x]) (fun y hy => hx y (List.mem_cons_of_mem _ hy)) (by simp at hl ⊢; omega)
    have hl1 : acc.length < sizeLine := by simp at hl; omega
    rw [List.map_cons]
    unfold compGo
    rw [e1]
    simp only [condGo, R.ok_bind, e2, isOk, hl1, if_true, ih]
    simp
/-- .. with one test -/
theorem compGo_filter {A : Type} {vs : List Nat} {tg : Tg} {el c : Fr → MH → R D} {fr : Fr} {m : MH} (g h : A → D) (p : A → Bool) : ∀ (xs : List A) (acc : List D), (∀ x ∈ xs, ∃ fr2, tgD tg (g x) (wipeF fr vs) = some fr2 ∧ (∃ d, c fr2 m = .ok d m ∧ truD d = some (p x)) ∧ (p x = true → el fr2 m = .ok (h x) m)) → acc.length + xs.length ≤ sizeLine →
    compGo vs tg [c] el fr (xs.map g) acc m = .ok (acc ++ (xs.filter p).map h) m
  | [], acc, _, _ => by simp [compGo]
  | x :: xs, acc, hx, hl => by
    obtain ⟨fr2, e1, ⟨d, e2, e3⟩, e4⟩ := hx x (List.mem_cons_self ..)
    have hl1 : acc.length < sizeLine := by simp at hl; omega
    rw [List.map_cons]
    unfold compGo
    rw [e1]
    cases hp : p x with
    | true =>
      have ih := compGo_filter g h p xs (acc ++ [h x]) (fun y hy => hx y (List.mem_cons_of_mem _ hy)) (by simp at hl ⊢; omega)
      rw [hp] at e3
      simp only [condGo, R.ok_bind, e2, e3, isOk, e4 hp, hl1, if_true, ih]
      simp [hp]
    | false =>
      have ih := compGo_filter g h p xs acc (fun y hy => hx y (List.mem_cons_of_mem _ hy)) (by simp at hl ⊢; omega)
      rw [hp] at e3
      simp only [condGo, R.ok_bind, e2, e3, isOk, ih]
      simp [hp]
/-- a loop that folds a value -/
theorem forS_fold {A B : Type} {t : Tg} {b : F → MH → SR} {m : MH} (g : A → D) (Fm : B → Option Sl → Fr) (step : B → A → B) : ∀ (xs : List A) (s : B) (o : Option Sl), (∀ s o, ∀ x ∈ xs, ∃ fr1 o', tgD t (g x) (Fm s o) = some fr1 ∧ b fr1 m = .nx (Fm (step s x) o') m) →
    ∃ o', forS t b (xs.map g) (Fm s o) m = .nx (Fm (xs.foldl step s) o') m
  | [], s, o, _ => ⟨o, rfl⟩
  | x :: xs, s, o, h => by
    obtain ⟨fr1, o1, e1, e2⟩ := h s o x (List.mem_cons_self ..)
    obtain ⟨o2, e3⟩ := forS_fold g Fm step xs (step s x) o1 fun s o y hy => h s o y (List.mem_cons_of_mem _ hy)
    refine ⟨o2, ?_⟩
    rw [List.map_cons]
    unfold forS
    rw [e1]
    dsimp only
    rw [e2]
    exact e3
end Mp
namespace Kb
open PySem PySem.Spec PyProof.Rows L2 Mp SX NumText
theorem items_S (l : List Nat) : itemsD (.str (S l)) = some (l.map fun c => .str (S [c])) := rfl
theorem len_S {l : List Nat} (h : l.length ≤ 1000) (m : MH) : bltD .len [.str (S l)] m = some (.int l.length) := by
  rw [len_str _ _ (by rw [S_len]; exact le_line h), S_len]
theorem mem_S (a : List Nat) (c : Nat) : memD (.str (S [c])) (.str (S a)) = some (decide (c ∈ a)) := congrArg some (SX.in_one a c)
theorem eq_S (a b : List Nat) : cmpD .eq (.str (S a)) (.str (S b)) = some (.bl (decide (a = b))) := by
  rw [cmp_eq_str]
  congr 2
  exact decide_eq_decide.mpr ⟨S_inj, congrArg S⟩
theorem ne_S (a b : List Nat) : cmpD .ne (.str (S a)) (.str (S b)) = some (.bl (!decide (a = b))) := by
  rw [cmp_ne_str]
  congr 3
  exact decide_eq_decide.mpr ⟨S_inj, congrArg S⟩
theorem slS_to {l : List Nat} (h : l.length ≤ 1000) (j : Nat) : slD (.str (S l)) none (some (j : Int)) = some (.str (S (l.take j))) := by
  have e : slD (.str (S l)) none (some (j : Int)) = if (S l).length ≤ sizeLine then some (.str (cutS (S l) none (some (j : Int)))) else none := rfl
  rw [e, if_pos (by rw [S_len]; exact le_line h)]
  congr 2
  apply TL.ext_tl
  show (((S l).cps.toList.drop _).take _) = l.take j
  rw [HT.sIx_nat, HT.sIx_none, List.drop_zero, Nat.sub_zero, S_len, ← List.take_take]
  exact congrArg _ (List.take_length)
theorem slS_from {l : List Nat} (h : l.length ≤ 1000) (i : Nat) : slD (.str (S l)) (some (i : Int)) none = some (.str (S (l.drop i))) := by
  have e : slD (.str (S l)) (some (i : Int)) none = if (S l).length ≤ sizeLine then some (.str (cutS (S l) (some (i : Int)) none)) else none := rfl
  rw [e, if_pos (by rw [S_len]; exact le_line h)]
  congr 2
  apply TL.ext_tl
  show ((l.drop _).take _) = l.drop i
  rw [HT.sIx_nat, HT.sIx_none, S_len]
  by_cases z : i ≤ l.length
  · rw [Nat.min_eq_left z]
    exact List.take_of_length_le (by rw [List.length_drop]; exact Nat.le_refl _)
  · rw [Nat.min_eq_right (by omega), Nat.sub_self, List.take_zero, List.drop_eq_nil_of_le (by omega)]
theorem idx0_S {c : Nat} {l : List Nat} (h : (c :: l).length ≤ 1000) (m : MH) : idxD (.str (S (c :: l))) (.int 0) m = some (.str (S [c])) := by
  show (if (S (c :: l)).length ≤ sizeLine then ((atI (S (c :: l)).cps.toList 0).map fun c => Mp.D.str ⟨#[c]⟩) else none) = _
  rw [if_pos (by rw [S_len]; exact le_line h)]
  show ((atI (c :: l) 0).map fun c => Mp.D.str ⟨#[c]⟩) = _
  unfold atI ixN
  rw [if_pos (by omega), if_pos (by simp)]
  rfl
/-! ### numbers as texts -/
def intL (i : Int) : List Nat := if i < 0 then 45 :: TL.numL i.natAbs else TL.numL i.natAbs
theorem str_int (i : Int) : (Str.ofString (toString i) : Str) = S (intL i) := by
  unfold intL
  cases i with
  | ofNat n =>
    rw [if_neg (by simp)]
    exact num_S n
  | negSucc n =>
    rw [if_pos (by omega)]
    apply TL.ext_tl
    rw [TL.tl_ofString]
    show ("-" ++ Nat.repr (n + 1)).toList.map Char.toNat = 45 :: TL.numL (n + 1)
    rw [String.toList_append, List.map_append, Nat.toList_repr]
    rfl
/-- a text of signs 0 to 9 -/
def digB (l : List Nat) : Bool := l.all fun c => decide (48 ≤ c) && decide (c ≤ 57)
theorem digB_all {l : List Nat} (h : digB l = true) : AllDigits l := fun c hc => by
  have := List.all_eq_true.mp h c hc
  simpa using this
theorem digB_num (n : Nat) : digB (TL.numL n) = true := List.all_eq_true.mpr fun c hc => by
  have := TL.numL_digits n c hc
  simpa using this
/-- the number of a text without needless zeros -/
def numO (l : List Nat) : Option Int := if l = [] ∨ digB l = false ∨ (1 < l.length ∧ l.head? = some 48) then none else some (digitsVal l)
def intO (l : List Nat) : Option Int := if l.head? = some 45 then (match numO l.tail with
    | some v => if v = 0 then none else some (-v)
    | none => none) else numO l
def fracO (l : List Nat) : Option (Int × Int) := match TL.par [47] [] l with
  | none => (intO l).map fun n => (n, 1)
  | some (a, b) => match intO a, numO b with
    | some n, some d => if 2 ≤ d ∧ Int.gcd n d = 1 then some (n, d) else none
    | _, _ => none
def optN : Option Int → Mp.D
  | some i => .int i
  | none => .non
def optF : Option (Int × Int) → Mp.D
  | some p => fr p.1 p.2
  | none => .non
theorem val_lt : ∀ (l : List Nat), digB l = true → digitsVal l < 10 ^ l.length := by
  intro l
  have h : ∀ (l : List Nat) (a : Nat), digB l = true → l.foldl (fun acc c => acc * 10 + (c - 48)) a < (a + 1) * 10 ^ l.length := by
    intro l
    induction l with
    | nil => intro a _; simp
    | cons c l ih =>
      intro a hd
      unfold digB at hd
      rw [List.all_cons, Bool.and_eq_true] at hd
      have hc : 48 ≤ c ∧ c ≤ 57 := by simpa using hd.1
      have := ih (a * 10 + (c - 48)) hd.2
      rw [List.foldl_cons, List.length_cons, Nat.pow_succ]
      refine Nat.lt_of_lt_of_le this ?_
      have : a * 10 + (c - 48) + 1 ≤ (a + 1) * 10 := by omega
      calc _ ≤ (a + 1) * 10 * 10 ^ l.length := Nat.mul_le_mul_right _ this
        _ = _ := by rw [Nat.mul_assoc, Nat.mul_comm 10]
  intro hd
  have := h l 0 hd
  simpa [digitsVal] using this
end Kb
end
section
set_option Elab.async false
set_option linter.all false
set_option maxRecDepth 100000
set_option maxHeartbeats 1000000
/-! LNum: numbers and fractions in texts. -/
namespace Kb
open PySem PySem.Spec PyProof.Rows L2 Mp SX NumText
def digS : List Nat := [48, 49, 50, 51, 52, 53, 54, 55, 56, 57]
theorem digits_S : cstG 2 = .str (S digS) := by kernel_rfl
theorem dig_mem (c : Nat) : decide (c ∈ digS) = (decide (48 ≤ c) && decide (c ≤ 57)) := by
  unfold digS
  simp only [List.mem_cons, List.not_mem_nil, or_false]
  rw [Bool.eq_iff_iff, Bool.and_eq_true, decide_eq_true_eq, decide_eq_true_eq, decide_eq_true_eq]
  omega
theorem dig_ix {c : Nat} (h : 48 ≤ c ∧ c ≤ 57) (m : MH) : m1D .index (S digS) (.str (S [c])) m = some (.int ((c - 48 : Nat) : Int)) := by
  have : c = 48 ∨ c = 49 ∨ c = 50 ∨ c = 51 ∨ c = 52 ∨ c = 53 ∨ c = 54 ∨ c = 55 ∨ c = 56 ∨ c = 57 := by omega
  rcases this with rfl | rfl | rfl | rfl | rfl | rfl | rfl | rfl | rfl | rfl <;> kernel_rfl
theorem e_S : (Str.ofString "" : Str) = S [] := by kernel_rfl
theorem m_S : (Str.ofString "-" : Str) = S [45] := by kernel_rfl
theorem s_S : (Str.ofString "/" : Str) = S [47] := by kernel_rfl
theorem z_S : (Str.ofString "0" : Str) = S [48] := by kernel_rfl
section
variable (cl : List Nat) (kk : Nat)
abbrev nT : E := .orv (.cmp .eq (.loc 0) (.k (.str ""))) (.orv (.notv (.blt .all [(.comp [2] (.nm 2) (.loc 0) [] (.cmp .mem (.loc 2) (.cst 2)))])) (.andv (.cmp .gt (.blt .len [(.loc 0)]) (.k (.int 1))) (.cmp .eq (.idx (.loc 0) (.k (.int 0))) (.k (.str "0")))))
abbrev nL : Mp.St := .asg (.nm 1) (.bin .add (.bin .mul (.k (.int 10)) (.loc 1)) (.m1 .index (.cst 2) (.loc 2)))
theorem num_test {l : List Nat} (hl : l.length ≤ 60) (m : MH) : tst (ev (GG cl kk) nT) [some (.val (.str (S l))), none, none] m = .ok (decide (l = [] ∨ digB l = false ∨ (1 < l.length ∧ l.head? = some 48))) m := by
  have e1 := eq_S l []
  by_cases h0 : l = []
  · subst h0
    simp [tst, e_S, e1]
  · have cg : compGo [2] (.nm 2) [] (ev (GG cl kk) (.cmp .mem (.loc 2) (.cst 2))) [some (.val (.str (S l))), none, none] (l.map fun c => .str (S [c])) [] m = .ok ([] ++ l.map fun c => .bl (decide (48 ≤ c) && decide (c ≤ 57))) m := by
      refine compGo_map (fun c => .str (S [c])) (fun c => .bl (decide (48 ≤ c) && decide (c ≤ 57))) l [] (fun c _ => ⟨[some (.val (.str (S l))), none, some (.val (.str (S [c])))], by simp [wipeF], ?_⟩) (by simp; exact le_line (by omega))
      have e : cmpD .mem (.str (S [c])) (.str (S digS)) = some (.bl (decide (c ∈ digS))) := by
        have e : cmpD .mem (.str (S [c])) (.str (S digS)) = (memD (.str (S [c])) (.str (S digS))).map .bl := rfl
        rw [e, mem_S]
        rfl
      simp only [ev_cmp, ev_cst, gtW_cst, gg_cst, digits_S, ev_loc_succ, ev_loc_zero, R.ok_bind, e, optR_some, dig_mem]
    have al : bltD .all [.lst (l.map fun c => Mp.D.bl (decide (48 ≤ c) && decide (c ≤ 57)))] m = some (.bl (digB l)) := by
      have := all_map m (l.map fun c => (decide (48 ≤ c) && decide (c ≤ 57)))
      rw [List.map_map, List.all_map] at this
      exact this
    have ln := len_S (l := l) (by omega) m
    cases hd : digB l with
    | false =>
      rw [hd] at al
      simp [tst, e_S, e1, h0, items_S, cg, al]
    | true =>
      rw [hd] at al
      obtain ⟨c, r, hcr⟩ : ∃ c r, l = c :: r := by
        cases l with
        | nil => exact absurd rfl h0
        | cons c r => exact ⟨c, r, rfl⟩
      have ix : idxD (.str (S l)) (.int 0) m = some (.str (S [c])) := by
        rw [hcr]
        exact idx0_S (by rw [← hcr]; omega) m
      have e2 := eq_S [c] [48]
      have hh : (l.head? = some 48) = (c = 48) := by rw [hcr]; simp
      by_cases h1 : 1 < l.length
      · have h1i : (1 : Int) < l.length := by omega
        simp [tst, e_S, e1, h0, items_S, cg, al, ln, h1, h1i, ix, z_S, e2, hh]
      · have h1i : ¬ (1 : Int) < l.length := by omega
        simp [tst, e_S, e1, h0, items_S, cg, al, ln, h1, h1i]
theorem ten_mul {x : Nat} {n : Nat} (h : x < 10 ^ n) (hn : n ≤ 59) : mulOk 10 (x : Int) = true := by
  refine small_mul (by decide) ?_
  rw [Int.natAbs_natCast]
  exact Nat.lt_of_lt_of_le h (Nat.le_trans (Nat.pow_le_pow_right (by decide) hn) (by decide))
theorem num_loop {s0 : Option Sl} (m : MH) : ∀ (r : List Nat) (a n : Nat) (o : Option Sl), digB r = true → a < 10 ^ n → n + r.length ≤ 60 →
    ∃ o', forS (.nm 2) (exs (GG cl kk) mkxG [nL]) (r.map fun c => .str (S [c])) [s0, some (.val (.int (a : Int))), o] m = .nx [s0, some (.val (.int ((r.foldl (fun acc c => acc * 10 + (c - 48)) a : Nat) : Int))), o'] m
  | [], a, n, o, _, _, _ => ⟨o, rfl⟩
  | c :: r, a, n, o, hd, ha, hn => by
    unfold digB at hd
    rw [List.all_cons, Bool.and_eq_true] at hd
    have hc : 48 ≤ c ∧ c ≤ 57 := by simpa using hd.1
    rw [List.length_cons] at hn
    have h2 : a * 10 + (c - 48) < 10 ^ (n + 1) := by rw [Nat.pow_succ]; omega
    obtain ⟨o', e⟩ := num_loop (s0 := s0) m r (a * 10 + (c - 48)) (n + 1) (some (.val (.str (S [c])))) hd.2 h2 (by omega)
    refine ⟨o', ?_⟩
    rw [List.map_cons]
    unfold forS
    have t : tgD (.nm 2) (.str (S [c])) [s0, some (.val (.int (a : Int))), o] = some [s0, some (.val (.int (a : Int))), some (.val (.str (S [c])))] := by rw [tgD_nm]; rfl
    rw [t]
    dsimp only
    have k := bin_mul_int 10 (a : Int) (ten_mul ha (by omega))
    have e0 : exs (GG cl kk) mkxG [nL] [s0, some (.val (.int (a : Int))), some (.val (.str (S [c])))] m = .nx [s0, some (.val (.int ((a * 10 + (c - 48) : Nat) : Int))), some (.val (.str (S [c])))] m := by
      simp only [exs_cons, ex_asg, ev_bin, ev_m1, ev_cst, gtW_cst, gg_cst, digits_S, ev_k, ev_loc_succ, ev_loc_zero, R.ok_bind, k, optR_some, dig_ix hc, bin_add_int, SR.of_ok, tgD_nm, List.set_cons_succ, List.set_cons_zero, SR.then_nx, exs_nil]
      rw [show ((a * 10 + (c - 48) : Nat) : Int) = 10 * (a : Int) + ((c - 48 : Nat) : Int) by omega]
    rw [e0]
    exact e
theorem number_in_ok {l : List Nat} (hl : l.length ≤ 60) (m : MH) : FN (PP cl) (kk + 1) n_number_in [.str (S l)] m = .ok (optN (numO l)) m := by
  rw [F_number_in]
  refine runF_rt rfl ?_
  have t := num_test cl kk hl m
  have ml : m_number_in = [.ife nT [.ret (.k .non)] [], .asg (.nm 1) (.k (.int 0)), .for_ (.nm 2) (.loc 0) [nL], .ret (.loc 1)] := rfl
  show exs (GG cl kk) mkxG m_number_in [some (.val (.str (S l))), none, none] m = _
  rw [ml, exs_cons, ex_ife, t, SR.of_ok]
  unfold numO
  by_cases h : l = [] ∨ digB l = false ∨ (1 < l.length ∧ l.head? = some 48)
  · rw [decide_eq_true h, if_pos h]
    rfl
  · rw [decide_eq_false h, if_neg h]
    have hd : digB l = true := by
      cases hd : digB l with
      | true => rfl
      | false => exact absurd (.inr (.inl hd)) h
    obtain ⟨o', e⟩ := num_loop cl kk (s0 := some (.val (.str (S l)))) m l 0 0 none hd (by decide) (by omega)
    simp only [exs_nil, SR.then_nx, exs_cons, ex_asg, ev_k, SR.of_ok, tgD_nm, List.set_cons_succ, List.set_cons_zero, ex_for0, ev_loc_zero, items_S]
    rw [show (0 : Int) = ((0 : Nat) : Int) from rfl, e]
    rfl
theorem head_S {l : List Nat} : decide (l.take 1 = [45]) = decide (l.head? = some 45) := by
  cases l with
  | nil => rfl
  | cons c r => simp
theorem integer_in_ok {l : List Nat} (hl : l.length ≤ 60) (m : MH) : FN (PP cl) (kk + 2) n_integer_in [.str (S l)] m = .ok (optN (intO l)) m := by
  have n1 : FN (PP cl) (kk + 1) 13 [.str (S l)] m = .ok (optN (numO l)) m := number_in_ok cl kk hl m
  have n2 : FN (PP cl) (kk + 1) 13 [.str (S l.tail)] m = .ok (optN (numO l.tail)) m := number_in_ok cl kk (by rw [List.length_tail]; omega) m
  have s1 : slD (.str (S l)) none (some 1) = some (.str (S (l.take 1))) := slS_to (by omega) 1
  have s2 : slD (.str (S l)) (some 1) none = some (.str (S l.tail)) := by
    rw [← List.drop_one]
    exact slS_from (by omega) 1
  have c1 := ne_S (l.take 1) [45]
  rw [head_S] at c1
  rw [F_integer_in]
  unfold intO
  by_cases h : l.head? = some 45
  · rw [if_pos h]
    rw [decide_eq_true h] at c1
    cases e : numO l.tail with
    | none =>
      rw [e] at n2
      simp [runF, m_integer_in, tst, optI, s1, m_S, c1, s2, n2, optN]
    | some v =>
      rw [e] at n2
      by_cases z : v = 0
      · simp [runF, m_integer_in, tst, optI, s1, m_S, c1, s2, n2, optN, z]
      · simp [runF, m_integer_in, tst, optI, s1, m_S, c1, s2, n2, optN, z]
  · rw [if_neg h]
    rw [decide_eq_false h] at c1
    simp [runF, m_integer_in, tst, optI, s1, m_S, c1, n1]
end
end Kb
end
section
set_option Elab.async false
set_option linter.all false
set_option maxRecDepth 100000
set_option maxHeartbeats 1000000
/-! LNum2: fractions in texts. -/
namespace Kb
open PySem PySem.Spec PyProof.Rows L2 Mp SX NumText
theorem par_len {c : Nat} {l a b : List Nat} (h : TL.par [c] [] l = some (a, b)) : l = a ++ c :: b := by
  have key : ∀ (l acc a b : List Nat), TL.par [c] acc l = some (a, b) → acc ++ l = a ++ c :: b := by
    intro l
    induction l with
    | nil => intro acc a b h; cases h
    | cons d r ih =>
      intro acc a b h
      unfold TL.par at h
      split at h
      · rename_i hp
        cases h
        have : d = c := by
          unfold TL.pre at hp
          simpa using hp
        rw [this]
        rfl
      · have := ih _ _ _ h
        rw [← this]
        simp
  have := key l [] a b h
  simpa using this
theorem part_S {l : List Nat} (h : l.length ≤ 1000) (c : Nat) (m : MH) : m1D .partition (S l) (.str (S [c])) m = some (match TL.par [c] [] l with
    | some (a, b) => .tup [.str (S a), .str (S [c]), .str (S b)]
    | none => .tup [.str (S l), .str (S []), .str (S [])]) := by
  show (if ((S [c]).length == 0) = false ∧ (S l).length ≤ sizeLine then some (Mp.D.tup [.str (Txt.partition (S l) (S [c])).1, .str (Txt.partition (S l) (S [c])).2.1, .str (Txt.partition (S l) (S [c])).2.2]) else none) = _
  rw [if_pos ⟨rfl, by rw [S_len]; exact le_line h⟩]
  cases e : TL.par [c] [] l with
  | none => rw [partition_none (by simp) e]
  | some p =>
    obtain ⟨a, b⟩ := p
    rw [partition_some (by simp) e]
section
variable (cl : List Nat) (kk : Nat)
theorem is_fraction_ii (a b : Int) (m : MH) : FN (PP cl) (kk + 2) n_is_fraction [fr a b] m = .ok (.bl (decide (0 < b) && decide (gcdL (absI a) b = 1))) m := by
  have hn : ∀ (i : Int) (m : MH), FN (PP cl) (kk + 1) 0 [.int i] m = .ok (.bl true) m := fun i m => is_number_int cl kk i m
  have hc : ∀ (i j : Int) (m : MH), FN (PP cl) (kk + 1) 1 [.int i, .int j] m = .ok (.int (gcdL i j)) m := fun i j m => common_ok cl kk i j m
  have al : bltD .all [.lst [.bl true, .bl true]] m = some (.bl true) := rfl
  rw [F_is_fraction]
  refine runF_rt rfl ?_
  show exs (GG cl (kk + 1)) mkxG m_is_fraction [some (.val (fr a b)), none] m = _
  by_cases h : 0 < b
  · simp [m_is_fraction, tst, compGo, condGo, wipeF, hn, isOk, le_line, lt_line, al, h, hc]
  · simp [m_is_fraction, tst, compGo, condGo, wipeF, hn, isOk, le_line, lt_line, al, h, hc]
theorem is_fraction_ok {n d : Int} (m : MH) : FN (PP cl) (kk + 2) n_is_fraction [fr n d] m = .ok (.bl (decide (0 < d ∧ Int.gcd n d = 1))) m := by
  rw [is_fraction_ii]
  congr 2
  by_cases h : 0 < d
  · rw [gcd_pos_ n d h]
    simp [h]
    omega
  · simp [h]
theorem fraction_in_ok {l : List Nat} (hl : l.length ≤ 60) (m : MH) : FN (PP cl) (kk + 3) n_fraction_in [.str (S l)] m = .ok (optF (fracO l)) m := by
  have i1 : ∀ {l : List Nat}, l.length ≤ 60 → FN (PP cl) (kk + 2) 14 [.str (S l)] m = .ok (optN (intO l)) m := fun h => integer_in_ok cl kk h m
  have i2 : ∀ {l : List Nat}, l.length ≤ 60 → FN (PP cl) (kk + 2) 13 [.str (S l)] m = .ok (optN (numO l)) m := fun h => number_in_ok cl (kk + 1) h m
  have i3 : ∀ n d : Int, FN (PP cl) (kk + 2) 3 [fr n d] m = .ok (.bl (decide (0 < d ∧ Int.gcd n d = 1))) m := fun n d => is_fraction_ok cl kk m
  have p := part_S (l := l) (by omega) 47 m
  rw [F_fraction_in]
  refine runF_rt rfl ?_
  show exs (GG cl (kk + 2)) mkxG m_fraction_in [some (.val (.str (S l))), none, none, none, none] m = _
  have c0 := eq_S [] []
  have c1 := eq_S [47] []
  have c2 := ne_S [] []
  have c3 := ne_S [47] []
  have me : ∀ x y : Mp.D, flatD x = true → flatD y = true → cmpD .mem .non (.tup [x, y]) = some (.bl (eqF x .non || (eqF y .non || false))) := fun x y hx hy => by
    show (memF .non [x, y]).map Mp.D.bl = _
    unfold memF
    rw [if_pos (by
      show (flatD .non && ([x, y].all flatD)) = true
      simp only [List.all_cons, List.all_nil, hx, hy]
      rfl)]
    rfl
  unfold fracO
  cases e : TL.par [47] [] l with
  | none =>
    rw [e] at p
    dsimp only at p
    have q := i1 hl
    cases ei : intO l with
    | none =>
      rw [ei] at q
      have mm := me .non (.int 1) rfl rfl
      simp [m_fraction_in, tst, s_S, e_S, p, q, optN, c0, c2, le_line, mm, eqF, optF]
    | some n =>
      rw [ei] at q
      have mm := me (.int n) (.int 1) rfl rfl
      have z := i3 n 1
      simp [m_fraction_in, tst, s_S, e_S, p, q, optN, c0, c2, le_line, mm, eqF, optF, z]
  | some ab =>
    obtain ⟨a, b⟩ := ab
    have hlen := par_len e
    have la : a.length ≤ 60 := by rw [hlen] at hl; simp at hl; omega
    have lb : b.length ≤ 60 := by rw [hlen] at hl; simp at hl; omega
    rw [e] at p
    dsimp only at p ⊢
    have q := i1 la
    have q2 := i2 lb
    cases ei : intO a with
    | none =>
      rw [ei] at q
      cases ej : numO b with
      | none =>
        rw [ej] at q2
        have mm := me .non .non rfl rfl
        simp [m_fraction_in, tst, s_S, e_S, p, q, q2, optN, c1, c3, le_line, mm, eqF, optF]
      | some d =>
        rw [ej] at q2
        have mm := me .non (.int d) rfl rfl
        simp [m_fraction_in, tst, s_S, e_S, p, q, q2, optN, c1, c3, le_line, mm, eqF, optF]
    | some n =>
      rw [ei] at q
      cases ej : numO b with
      | none =>
        rw [ej] at q2
        have mm := me (.int n) .non rfl rfl
        simp [m_fraction_in, tst, s_S, e_S, p, q, q2, optN, c1, c3, le_line, mm, eqF, optF]
      | some d =>
        rw [ej] at q2
        have mm := me (.int n) (.int d) rfl rfl
        have z := i3 n d
        by_cases hd : d < 2
        · have hd' : ¬ (2 ≤ d ∧ Int.gcd n d = 1) := by omega
          simp [m_fraction_in, tst, s_S, e_S, p, q, q2, optN, c1, c3, le_line, mm, eqF, hd, hd']
          rfl
        · by_cases hg : Int.gcd n d = 1
          · have h1 : 0 < d := by omega
            have h2 : 2 ≤ d := by omega
            simp [m_fraction_in, tst, s_S, e_S, p, q, q2, optN, c1, c3, le_line, mm, eqF, hd, z, hg, h1, h2, optF]
          · simp [m_fraction_in, tst, s_S, e_S, p, q, q2, optN, c1, c3, le_line, mm, eqF, hd, z, hg, optF]
theorem read_fraction_ok {l : List Nat} (hl : l.length ≤ 60) {n d : Int} (h : fracO l = some (n, d)) (m : MH) : FN (PP cl) (kk + 4) n_read_fraction [.str (S l)] m = .ok (fr n d) m := by
  have i1 : FN (PP cl) (kk + 3) 15 [.str (S l)] m = .ok (optF (fracO l)) m := fraction_in_ok cl kk hl m
  rw [h] at i1
  rw [F_read_fraction]
  simp [runF, m_read_fraction, tst, i1, optF]
theorem read_fraction_bad {l : List Nat} (hl : l.length ≤ 60) (h : fracO l = none) (m : MH) : FN (PP cl) (kk + 4) n_read_fraction [.str (S l)] m = .exc ⟨4, [1, 0], [.str (S l), .str "InvalidFraction"]⟩ m := by
  have i1 : FN (PP cl) (kk + 3) 15 [.str (S l)] m = .ok (optF (fracO l)) m := fraction_in_ok cl kk hl m
  rw [h] at i1
  rw [F_read_fraction]
  simp [runF, m_read_fraction, tst, i1, optF, mkxG]
/-! ### the text of a fraction -/
def fracL (n d : Int) : List Nat := intL n ++ (if d = 1 then [] else 47 :: intL d)
theorem small_log2 {n : Nat} (h : n < 2 ^ 200) : n.log2 < 1920 := Nat.lt_of_lt_of_le (small_log h) (by decide)
theorem fmt_int {i : Int} (h : i.natAbs < 2 ^ 200) : fmtD (.int i) = some (.str (S (intL i))) := by
  show (if i.natAbs.log2 < 1920 then some (Mp.D.str (toString i)) else none) = _
  rw [if_pos (small_log2 h), ← str_int]
theorem str_int_ok {i : Int} (h : i.natAbs < 2 ^ 200) (m : MH) : bltD .str [.int i] m = some (.str (S (intL i))) := by
  show (if i.natAbs.log2 < 1920 then some (Mp.D.str (toString i)) else none) = _
  rw [if_pos (small_log2 h), ← str_int]
theorem cat_S {a b : List Nat} (h : a.length + b.length ≤ 1000) : binD .add (.str (S a)) (.str (S b)) = some (.str (S (a ++ b))) := by
  rw [bin_add_str _ _ (by rw [S_len, S_len]; exact le_line h), S_cat]
theorem app_S (a b : List Nat) : (S a ++ S b : Str) = S (a ++ b) := S_cat a b
theorem intL_len {i : Int} (h : i.natAbs < 10 ^ 20) : (intL i).length ≤ 21 := by
  have h1 : (TL.numL i.natAbs).length ≤ 20 := by
    unfold TL.numL
    rw [List.length_map]
    exact PyProof.Rows.digits10_le (by decide) h
  unfold intL
  split
  · rw [List.length_cons]; omega
  · omega
theorem fracL_len {n d : Int} (h1 : n.natAbs < 10 ^ 20) (h2 : d.natAbs < 10 ^ 20) : (fracL n d).length ≤ 43 := by
  have := intL_len h1
  have := intL_len h2
  unfold fracL
  rw [List.length_append]
  split <;> simp <;> omega
theorem fraction_text_ok {n d : Int} (h1 : n.natAbs < 10 ^ 20) (h2 : d.natAbs < 10 ^ 20) (m : MH) : FN (PP cl) (kk + 1) n_fraction_text [fr n d] m = .ok (.str (S (fracL n d))) m := by
  have f1 := fmt_int (i := n) (by omega)
  have f2 := fmt_int (i := d) (by omega)
  have l1 := intL_len h1
  have l2 := intL_len h2
  have e0 : Str.empty = S [] := rfl
  rw [F_fraction_text]
  unfold fracL
  by_cases hd : d = 1
  · simp [runF, m_fraction_text, hd, f1]
  · have k1 : (S (intL n)).length ≤ sizeLine := by rw [S_len]; exact le_line (by omega)
    have k2 : (S (intL n ++ [47])).length ≤ sizeLine := by rw [S_len, List.length_append]; exact le_line (by simp; omega)
    have k3 : (S (intL n ++ [47] ++ intL d)).length ≤ sizeLine := by rw [S_len, List.length_append, List.length_append]; exact le_line (by simp; omega)
    have k4 : (S (intL n ++ 47 :: intL d)).length ≤ sizeLine := by rw [S_len, List.length_append]; exact le_line (by simp; omega)
    simp [runF, m_fraction_text, hd, f1, f2, e0, s_S, app_S, k1, k2, k4]
theorem law_text_ok {n d : Int} (h1 : n.natAbs < 10 ^ 20) (h2 : d.natAbs < 10 ^ 20) (m : MH) : FN (PP cl) (kk + 1) n__law_fraction_text [fr n d] m = .ok (.str (S (fracL n d))) m := by
  have f1 := str_int_ok (i := n) (by omega) m
  have f2 := str_int_ok (i := d) (by omega) m
  have l1 := intL_len h1
  have l2 := intL_len h2
  rw [F__law_fraction_text]
  unfold fracL
  by_cases hd : d = 1
  · have c1 := cat_S (a := intL n) (b := []) (by simp; omega)
    simp [runF, m__law_fraction_text, hd, f1, e_S, c1]
  · have c1 := cat_S (a := [47]) (b := intL d) (by simp; omega)
    have c2 := cat_S (a := intL n) (b := [47] ++ intL d) (by simp; omega)
    simp [runF, m__law_fraction_text, hd, f1, f2, s_S] at c1 c2 ⊢
    simp [c1, c2]
end
/-! ### back from the text -/
theorem numL_head : ∀ n : Nat, 0 < n → (TL.numL n).head? ≠ some 48 := by
  intro n
  induction n using Nat.strongRecOn with
  | _ n ih =>
    intro hn
    by_cases h : n < 10
    · rw [TL.numL_lt h]
      simp
      omega
    · rw [TL.numL_step (by omega)]
      have := ih (n / 10) (by omega) (by omega)
      cases e : TL.numL (n / 10) with
      | nil => exact absurd e (TL.numL_ne _)
      | cons c r =>
        rw [e] at this
        exact this
theorem num_back (n : Nat) : numO (TL.numL n) = some (n : Int) := by
  have hz : ¬ (1 < (TL.numL n).length ∧ (TL.numL n).head? = some 48) := by
    rintro ⟨h1, h2⟩
    by_cases hn : n = 0
    · subst hn
      rw [TL.numL_lt (by decide)] at h1
      simp at h1
    · exact numL_head n (by omega) h2
  unfold numO
  rw [if_neg]
  · rw [TL.numL_val]
  · rintro (h | h | h)
    · exact TL.numL_ne n h
    · rw [digB_num] at h; cases h
    · exact hz h
theorem int_back (i : Int) : intO (intL i) = some i := by
  unfold intL
  by_cases h : i < 0
  · rw [if_pos h]
    unfold intO
    show (match numO (TL.numL i.natAbs) with | some v => if v = 0 then none else some (-v) | none => none) = _
    rw [num_back]
    dsimp only
    rw [if_neg (by omega)]
    congr 1
    omega
  · rw [if_neg h]
    unfold intO
    rw [if_neg, num_back]
    · congr 1
      omega
    · intro z
      have := List.mem_of_mem_head? z
      have := TL.numL_digits i.natAbs 45 this
      omega
theorem intL_no (i : Int) : 47 ∉ intL i := by
  unfold intL
  have := TL.numL_digits i.natAbs 47
  split
  · intro z
    rcases List.mem_cons.mp z with z | z
    · omega
    · have := this z; omega
  · intro z
    have := this z
    omega
theorem frac_back {n d : Int} (h : Low n d) : fracO (fracL n d) = some (n, d) := by
  have hp := h.pos
  unfold fracO fracL
  by_cases hd : d = 1
  · subst hd
    rw [if_pos rfl, List.append_nil, par_head_none (intL_no n)]
    dsimp only
    rw [int_back]
    rfl
  · rw [if_neg hd]
    have := par_head (c := 47) (sep := []) (intL d) (intL_no n)
    rw [show intL n ++ (47 :: intL d) = intL n ++ ([47] ++ intL d) from rfl]
    rw [show TL.par [47] [] (intL n ++ ([47] ++ intL d)) = some (intL n, intL d) from this]
    dsimp only
    have e : intL d = TL.numL d.natAbs := by unfold intL; rw [if_neg (by omega)]
    rw [int_back, e, num_back]
    dsimp only
    have e2 : ((d.natAbs : Nat) : Int) = d := by omega
    rw [e2, if_pos ⟨by omega, h.cop⟩]
/-- the signs of a text that is a fraction -/
theorem num_signs {l : List Nat} {v : Int} (h : numO l = some v) : ∀ c ∈ l, 48 ≤ c ∧ c ≤ 57 := by
  unfold numO at h
  split at h
  · cases h
  · rename_i z
    exact digB_all (by
      cases q : digB l with
      | true => rfl
      | false => exact absurd (.inr (.inl q)) z)
theorem int_signs {l : List Nat} {v : Int} (h : intO l = some v) : ∀ c ∈ l, (48 ≤ c ∧ c ≤ 57) ∨ c = 45 := by
  unfold intO at h
  split at h
  · rename_i z
    cases l with
    | nil => cases z
    | cons d r =>
      simp at z
      subst z
      cases e : numO r with
      | none => rw [List.tail_cons, e] at h; cases h
      | some w =>
        intro c hc
        rcases List.mem_cons.mp hc with rfl | hc
        · exact .inr rfl
        · exact .inl (num_signs e c hc)
  · exact fun c hc => .inl (num_signs h c hc)
theorem frac_signs {l : List Nat} {p : Int × Int} (h : fracO l = some p) : ∀ c ∈ l, (48 ≤ c ∧ c ≤ 57) ∨ c = 45 ∨ c = 47 := by
  unfold fracO at h
  cases e : TL.par [47] [] l with
  | none =>
    rw [e] at h
    obtain ⟨n, h1, _⟩ := Option.map_eq_some_iff.mp h
    intro c hc
    rcases int_signs h1 c hc with z | z
    · exact .inl z
    · exact .inr (.inl z)
  | some ab =>
    obtain ⟨a, b⟩ := ab
    rw [e] at h
    dsimp only at h
    cases e1 : intO a with
    | none => rw [e1] at h; cases h
    | some n =>
      cases e2 : numO b with
      | none => rw [e1, e2] at h; cases h
      | some d =>
        rw [par_len e]
        intro c hc
        rcases List.mem_append.mp hc with hc | hc
        · rcases int_signs e1 c hc with z | z
          · exact .inl z
          · exact .inr (.inl z)
        · rcases List.mem_cons.mp hc with rfl | hc
          · exact .inr (.inr rfl)
          · exact .inl (num_signs e2 c hc)
theorem frac_odd {a b : List Nat} {c : Nat} (h : ¬ (48 ≤ c ∧ c ≤ 57)) (h1 : c ≠ 45) (h2 : c ≠ 47) : fracO (a ++ [c] ++ b) = none := by
  cases e : fracO (a ++ [c] ++ b) with
  | none => rfl
  | some p =>
    rcases frac_signs e c (by simp) with z | z | z
    · exact absurd z h
    · exact absurd z h1
    · exact absurd z h2
end Kb
end
section
set_option Elab.async false
set_option linter.all false
set_option maxRecDepth 100000
set_option maxHeartbeats 1000000
/-! LK02: the law of the texts of fractions. -/
namespace Kb
open PySem PySem.Spec PyProof.Rows L2 Mp SX NumText
/- slots: 0 _law_script, 1 _law_bag_here, 2 _law_turn, 3 _law_my_value, 4 _law_my_text, 5 _law_told, 6 _law_odd, 7 _law_at, 8 _law_late -/
abbrev Z0 : Mp.St := .asg (.nm 1) (.call 4 [(.loc 0)])
abbrev Z1_0 : Mp.St := .asg (.nm 3) (.call 6 [(.loc 1), (.lst [(.call 17 [(.loc 1)]), (.call 7 [(.bin .sub (.call 5 [(.loc 1), (.bin .pow (.k (.int 10)) (.k (.int 9)))]) (.bin .mul (.k (.int 5)) (.bin .pow (.k (.int 10)) (.k (.int 8))))), (.bin .add (.k (.int 1)) (.call 5 [(.loc 1), (.bin .pow (.k (.int 10)) (.k (.int 8)))]))])])])
abbrev Z1_1 : Mp.St := .asg (.nm 4) (.call 18 [(.loc 3)])
abbrev Z1_2 : Mp.St := .asg (.nm 5) (.lst [(.call 12 [(.loc 3)]), (.call 16 [(.loc 4)]), (.callK 16 3 [] [(.callK 12 4 [] [(.loc 3)])])])
abbrev Z1_3 : Mp.St := .ife (.notv (.call 8 [(.loc 5), (.lst [(.loc 4), (.loc 3), (.loc 3)])])) [.ret (.k (.bl false))] []
abbrev Z1_4 : Mp.St := .asg (.nm 6) (.call 6 [(.loc 1), (.lst [.k (.str ""), .k (.str "-"), .k (.str "-0"), .k (.str "01"), .k (.str "1/1"), .k (.str "2/4"), .k (.str "3/"), .k (.str "/3"), .k (.str "1/0"), .k (.str "1/02"), .k (.str "--1"), .k (.str "+1"), .k (.str "1/-2"), .k (.str " 1"), .k (.str "1 "), .k (.str "1/2/3"), .k (.str "a"), .k (.str "0/3")])])
abbrev Z1_5 : Mp.St := .ife (.cmp .ne (.why (.call 16 [(.loc 6)])) (.tup [.k (.str "InvalidFraction"), (.loc 6)])) [.ret (.k (.bl false))] []
abbrev Z1_6 : Mp.St := .asg (.nm 7) (.call 5 [(.loc 1), (.bin .add (.blt .len [(.loc 4)]) (.k (.int 1)))])
abbrev Z1_7 : Mp.St := .asg (.nm 8) (.bin .add (.bin .add (.sl (.loc 4) (.k .non) (.prt (.loc 7))) (.call 6 [(.loc 1), (.lst [.k (.str " "), .k (.str "x"), .k (.str "+"), .k (.str ".")])])) (.sl (.loc 4) (.prt (.loc 7)) (.k .non)))
abbrev Z1_8 : Mp.St := .ife (.cmp .ne (.why (.call 16 [(.loc 8)])) (.tup [.k (.str "InvalidFraction"), (.loc 8)])) [.ret (.k (.bl false))] []
abbrev Z1 : Mp.St := .for_ (.nm 2) (.rng1 (.k (.int 8))) [Z1_0, Z1_1, Z1_2, Z1_3, Z1_4, Z1_5, Z1_6, Z1_7, Z1_8]
abbrev Z2 : Mp.St := .ret (.cmp .eq (.lst [(.call 12 [(.tup [(.neg (.k (.int 7))), .k (.int 2)])]), (.call 16 [.k (.str "0")]), (.call 16 [.k (.str "-12/5")])]) (.lst [.k (.str "-7/2"), (.tup [.k (.int 0), .k (.int 1)]), (.tup [(.neg (.k (.int 12))), .k (.int 5)])]))
section
variable (cl : List Nat) (rest : MH)
def odd2 : List (List Nat) := [[], [45], [45, 48], [48, 49], [49, 47, 49], [50, 47, 52], [51, 47], [47, 51], [49, 47, 48], [49, 47, 48, 50], [45, 45, 49], [43, 49], [49, 47, 45, 50], [32, 49], [49, 32], [49, 47, 50, 47, 51], [97], [48, 47, 51]]
theorem odd2_none : ∀ l ∈ odd2, fracO l = none := by decide +kernel
theorem odd2_len : ∀ l ∈ odd2, l.length ≤ 60 := by decide +kernel
/-- a thing drawn, of texts -/
theorem of_str {ns : List Int} {is : List (List Nat)} {m : MH} (kk : Nat) (hB : Bag ns rest m) (h : 0 < is.length) (hx : is.length ≤ 1000) : ∃ i m', i ∈ is ∧ FN (PP cl) (kk + 2) n__law_of [.ref 0, .lst (is.map fun i => .str (S i))] m = .ok (.str (S i)) m' ∧ Bag ns rest m' := by
  obtain ⟨x, m', h1, h2, h3⟩ := of_ok cl kk rest (xs := is.map fun i => .str (S i)) hB (by simpa using h) (by simpa using hx)
  obtain ⟨i, hi, rfl⟩ := List.mem_map.mp h1
  exact ⟨i, m', hi, h2, h3⟩
theorem why2 {l : List Nat} (hcl : 4 ∈ cl) (hl : l.length ≤ 60) (h : fracO l = none) (m : MH) : whyR (wdG nmG cl) (FN (PP cl) 60 16 [.str (S l)] m) = .ok (.tup [.str "InvalidFraction", .str (S l)]) m := by
  rw [show FN (PP cl) 60 16 [.str (S l)] m = _ from read_fraction_bad cl 56 hl h m]
  have w : wdG nmG cl ⟨4, [1, 0], [.str (S l), .str "InvalidFraction"]⟩ = some (.tup [.str "InvalidFraction", .str (S l)]) := by
    unfold wdG
    rw [if_pos hcl]
    rfl
  unfold whyR
  dsimp only
  rw [w]
theorem sign_ok {l : List Nat} (h : ∀ c ∈ l, c < 0x110000) : PyData.strOk (S l) = true := by
  unfold PyData.strOk S
  simp
  exact h
theorem ne_why {l : List Nat} (h : ∀ c ∈ l, c < 0x110000) : cmpD .ne (.tup [.str "InvalidFraction", .str (S l)]) (.tup [.str "InvalidFraction", .str (S l)]) = some (.bl false) := by
  have pl : Pl 2 (.tup [.str "InvalidFraction", .str (S l)]) := by
    have z : PyData.strOk (Str.ofString "InvalidFraction") = true := by decide +kernel
    simp [Pl, sign_ok h, z]
  rw [cmp_ne (k := 2) (by decide) pl pl, eqv_refl pl]
  rfl
theorem frac_small {n d : Int} (h : Low n d) : ∀ c ∈ fracL n d, c < 0x110000 := fun c hc => by
  rcases frac_signs (frac_back h) c hc with z | z | z <;> omega
theorem turn2 {ns : List Int} (s0 s2 s3 s4 s5 s6 s7 s8 : Option Sl) {m : MH} (hB : Bag ns rest m) (hcl : 4 ∈ cl) : ∃ s3' s4' s5' s6' s7' s8' m', exs (GG cl 60) mkxG [Z1_0, Z1_1, Z1_2, Z1_3, Z1_4, Z1_5, Z1_6, Z1_7, Z1_8] [s0, some (.val (.ref 0)), s2, s3, s4, s5, s6, s7, s8] m =
    .nx [s0, some (.val (.ref 0)), s2, s3', s4', s5', s6', s7', s8'] m' ∧ Bag ns rest m' := by
  -- the value
  obtain ⟨n1, d1, m1, e1, B1, l1, x1, y1⟩ := some_fraction_ok cl 57 rest hB
  obtain ⟨r2, m2, e2, a2, b2, B2⟩ := draw_ok cl 59 rest (many := 1000000000) B1 (by decide) (by decide)
  obtain ⟨r3, m3, e3, a3, b3, B3⟩ := draw_ok cl 59 rest (many := 100000000) B2 (by decide) (by decide)
  have e4 : FN (PP cl) 60 7 [.int (r2 - 500000000), .int (1 + r3)] m3 = .ok (due (r2 - 500000000) (1 + r3)) m3 := low_ok cl 59 (by omega) (by omega) (by omega) m3
  have q := red_fr (r2 - 500000000) (1 + r3) (by omega)
  have q1 := rn_le (r2 - 500000000) (1 + r3) (by omega)
  have q2 := rd_le (r2 - 500000000) (1 + r3) (by omega)
  obtain ⟨x, m4, hx, e5, B4⟩ := of_ok cl 58 rest (xs := [fr n1 d1, due (r2 - 500000000) (1 + r3)]) B3 (by simp) (by simp)
  obtain ⟨n, d, rfl, hL, hn, hd⟩ : ∃ n d, x = fr n d ∧ Low n d ∧ n.natAbs < 10 ^ 20 ∧ d.natAbs < 10 ^ 20 := by
    simp only [List.mem_cons, List.not_mem_nil, or_false] at hx
    rcases hx with rfl | rfl
    · have := l1.pos
      exact ⟨n1, d1, rfl, l1, by omega, by omega⟩
    · exact ⟨_, _, rfl, q, by omega, by omega⟩
  have h1 : FN (PP cl) 60 17 [.ref 0] m = .ok (fr n1 d1) m1 := e1
  have h2 : FN (PP cl) 60 5 [.ref 0, .int 1000000000] m1 = .ok (.int r2) m2 := e2
  have h3 : FN (PP cl) 60 5 [.ref 0, .int 100000000] m2 = .ok (.int r3) m3 := e3
  have h5 : FN (PP cl) 60 6 [.ref 0, .lst [fr n1 d1, due (r2 - 500000000) (1 + r3)]] m3 = .ok (fr n d) m4 := e5
  have k9 : binD .pow (.int 10) (.int 9) = some (.int 1000000000) := by kernel_rfl
  have k8 : binD .pow (.int 10) (.int 8) = some (.int 100000000) := by kernel_rfl
  have k5 : binD .mul (.int 5) (.int 100000000) = some (.int 500000000) := by kernel_rfl
  have p0 : Mp.ex (GG cl 60) mkxG Z1_0 [s0, some (.val (.ref 0)), s2, s3, s4, s5, s6, s7, s8] m = .nx [s0, some (.val (.ref 0)), s2, some (.val (fr n d)), s4, s5, s6, s7, s8] m4 := by
    simp [h1, h2, h3, e4, h5, k9, k8, k5, le_line]
  have hl := fracL_len hn hd
  have f1 : FN (PP cl) 60 18 [fr n d] m4 = .ok (.str (S (fracL n d))) m4 := law_text_ok cl 59 hn hd m4
  have f2 : FN (PP cl) 60 12 [fr n d] m4 = .ok (.str (S (fracL n d))) m4 := fraction_text_ok cl 59 hn hd m4
  have f3 : FN (PP cl) 60 16 [.str (S (fracL n d))] m4 = .ok (fr n d) m4 := read_fraction_ok cl 56 (by omega) (frac_back hL) m4
  have p1 : Mp.ex (GG cl 60) mkxG Z1_1 [s0, some (.val (.ref 0)), s2, some (.val (fr n d)), s4, s5, s6, s7, s8] m4 = .nx [s0, some (.val (.ref 0)), s2, some (.val (fr n d)), some (.val (.str (S (fracL n d)))), s5, s6, s7, s8] m4 := by
    simp [f1]
  have b3 : bndG 3 [] [.str (S (fracL n d))] = some [.str (S (fracL n d))] := rfl
  have b4 : bndG 4 [] [fr n d] = some [fr n d] := rfl
  have p2 : Mp.ex (GG cl 60) mkxG Z1_2 [s0, some (.val (.ref 0)), s2, some (.val (fr n d)), some (.val (.str (S (fracL n d)))), s5, s6, s7, s8] m4 = .nx [s0, some (.val (.ref 0)), s2, some (.val (fr n d)), some (.val (.str (S (fracL n d)))), some (.val (.lst [.str (S (fracL n d)), fr n d, fr n d])), s6, s7, s8] m4 := by
    simp only [ex_asg, ev_lst, ev_call, ev_callK, evs_cons, evs_nil, ev_loc_succ, ev_loc_zero, R.ok_bind, gtW_fn, gtW_bnd, gg_bnd, b3, b4, f2, f3, List.length_cons, List.length_nil, le_line (show 0 + 1 + 1 + 1 ≤ 1000 by decide), if_true, SR.of_ok, tgD_nm]
    rfl
  have p3 : Mp.ex (GG cl 60) mkxG Z1_3 [s0, some (.val (.ref 0)), s2, some (.val (fr n d)), some (.val (.str (S (fracL n d)))), some (.val (.lst [.str (S (fracL n d)), fr n d, fr n d])), s6, s7, s8] m4 = .nx [s0, some (.val (.ref 0)), s2, some (.val (fr n d)), some (.val (.str (S (fracL n d)))), some (.val (.lst [.str (S (fracL n d)), fr n d, fr n d])), s6, s7, s8] m4 := by
    have z : FN (PP cl) 60 8 [.lst [.str (S (fracL n d)), fr n d, fr n d], .lst [.str (S (fracL n d)), fr n d, fr n d]] m4 = .ok (.bl true) m4 := alike_refl cl 8 52 _ m4 (by simp [Alk, le_line])
    simp only [ex_ife, tst, ev_notv, ev_call, ev_lst, evs_cons, evs_nil, ev_loc_succ, ev_loc_zero, R.ok_bind, gtW_fn, List.length_cons, List.length_nil, le_line (show 0 + 1 + 1 + 1 ≤ 1000 by decide), if_true, z]
    rfl
  -- an odd text
  obtain ⟨o, m5, ho, e6, B5⟩ := of_str cl rest (is := odd2) 58 B4 (by decide) (by decide)
  have h6 : FN (PP cl) 60 6 [.ref 0, .lst (odd2.map fun i => .str (S i))] m4 = .ok (.str (S o)) m5 := e6
  have p4 : ∀ s5, Mp.ex (GG cl 60) mkxG Z1_4 [s0, some (.val (.ref 0)), s2, some (.val (fr n d)), some (.val (.str (S (fracL n d)))), s5, s6, s7, s8] m4 = .nx [s0, some (.val (.ref 0)), s2, some (.val (fr n d)), some (.val (.str (S (fracL n d)))), s5, some (.val (.str (S o))), s7, s8] m5 := fun s5 => by
    have od : evs (GG cl 60) [.k (.str ""), .k (.str "-"), .k (.str "-0"), .k (.str "01"), .k (.str "1/1"), .k (.str "2/4"), .k (.str "3/"), .k (.str "/3"), .k (.str "1/0"), .k (.str "1/02"), .k (.str "--1"), .k (.str "+1"), .k (.str "1/-2"), .k (.str " 1"), .k (.str "1 "), .k (.str "1/2/3"), .k (.str "a"), .k (.str "0/3")]
        [s0, some (.val (.ref 0)), s2, some (.val (fr n d)), some (.val (.str (S (fracL n d)))), s5, s6, s7, s8] m4 = .ok (odd2.map fun i => .str (S i)) m4 := by kernel_rfl
    have ll : (odd2.map fun i => Mp.D.str (S i)).length ≤ sizeLine := le_line (by decide)
    rw [ex_asg, ev_call, evs_cons]
    simp only [ev_loc_succ, ev_loc_zero, R.ok_bind]
    rw [show evs (GG cl 60) [E.lst [.k (.str ""), .k (.str "-"), .k (.str "-0"), .k (.str "01"), .k (.str "1/1"), .k (.str "2/4"), .k (.str "3/"), .k (.str "/3"), .k (.str "1/0"), .k (.str "1/02"), .k (.str "--1"), .k (.str "+1"), .k (.str "1/-2"), .k (.str " 1"), .k (.str "1 "), .k (.str "1/2/3"), .k (.str "a"), .k (.str "0/3")]] [s0, some (.val (.ref 0)), s2, some (.val (fr n d)), some (.val (.str (S (fracL n d)))), s5, s6, s7, s8] m4 = .ok [.lst (odd2.map fun i => .str (S i))] m4 from by
      rw [evs_cons, ev_lst, od, R.ok_bind, if_pos ll]
      rfl]
    simp only [R.ok_bind, gtW_fn, h6, SR.of_ok, tgD_nm]
    rfl
  have p5 : ∀ s5, Mp.ex (GG cl 60) mkxG Z1_5 [s0, some (.val (.ref 0)), s2, some (.val (fr n d)), some (.val (.str (S (fracL n d)))), s5, some (.val (.str (S o))), s7, s8] m5 = .nx [s0, some (.val (.ref 0)), s2, some (.val (fr n d)), some (.val (.str (S (fracL n d)))), s5, some (.val (.str (S o))), s7, s8] m5 := fun s5 => by
    have w := why2 cl hcl (odd2_len o ho) (odd2_none o ho) m5
    have z := ne_why (l := o) (fun c hc => by
      have : ∀ l ∈ odd2, ∀ c ∈ l, c < 0x110000 := by decide +kernel
      exact this o ho c hc)
    simp only [ex_ife, tst, ev_cmp, ev_why, ev_call, ev_tup, evs_cons, evs_nil, ev_loc_succ, ev_loc_zero, ev_k, R.ok_bind, gtW_fn, gtW_why, gg_why, w, List.length_cons, List.length_nil, le_line (show 0 + 1 + 1 ≤ 1000 by decide), if_true, z, optR_some]
    rfl
  -- a sign more
  obtain ⟨at_, m6, e7, a7, b7, B6⟩ := draw_ok cl 59 rest (many := ((fracL n d).length : Int) + 1) B5 (by omega) (by omega)
  have h7 : FN (PP cl) 60 5 [.ref 0, .int (((fracL n d).length : Int) + 1)] m5 = .ok (.int at_) m6 := e7
  have ln := len_S (l := fracL n d) (by omega) m5
  have p6 : ∀ s5, Mp.ex (GG cl 60) mkxG Z1_6 [s0, some (.val (.ref 0)), s2, some (.val (fr n d)), some (.val (.str (S (fracL n d)))), s5, some (.val (.str (S o))), s7, s8] m5 = .nx [s0, some (.val (.ref 0)), s2, some (.val (fr n d)), some (.val (.str (S (fracL n d)))), s5, some (.val (.str (S o))), some (.val (.int at_)), s8] m6 := fun s5 => by
    simp [ln, h7]
  obtain ⟨w, m7, hw, e8, B7⟩ := of_str cl rest (is := [[32], [120], [43], [46]]) 58 B6 (by decide) (by decide)
  obtain ⟨c, rfl, hc1, hc2, hc3, hc4⟩ : ∃ c, w = [c] ∧ ¬ (48 ≤ c ∧ c ≤ 57) ∧ c ≠ 45 ∧ c ≠ 47 ∧ c < 0x110000 := by
    simp only [List.mem_cons, List.not_mem_nil, or_false] at hw
    rcases hw with rfl | rfl | rfl | rfl
    · exact ⟨32, rfl, by decide, by decide, by decide, by decide⟩
    · exact ⟨120, rfl, by decide, by decide, by decide, by decide⟩
    · exact ⟨43, rfl, by decide, by decide, by decide, by decide⟩
    · exact ⟨46, rfl, by decide, by decide, by decide, by decide⟩
  obtain ⟨j, rfl⟩ := Int.eq_ofNat_of_zero_le a7
  have s1 := slS_to (l := fracL n d) (by omega) j
  have s2' := slS_from (l := fracL n d) (by omega) j
  have h8 : FN (PP cl) 60 6 [.ref 0, .lst [.str " ", .str "x", .str "+", .str "."]] m6 = .ok (.str (S [c])) m7 := e8
  have ca1 := cat_S (a := (fracL n d).take j) (b := [c]) (by rw [List.length_take]; simp; omega)
  have ca2 := cat_S (a := (fracL n d).take j ++ [c]) (b := (fracL n d).drop j) (by rw [List.length_append, List.length_take, List.length_drop]; simp; omega)
  have p7 : ∀ s5, Mp.ex (GG cl 60) mkxG Z1_7 [s0, some (.val (.ref 0)), s2, some (.val (fr n d)), some (.val (.str (S (fracL n d)))), s5, some (.val (.str (S o))), some (.val (.int (j : Int))), s8] m6 = .nx [s0, some (.val (.ref 0)), s2, some (.val (fr n d)), some (.val (.str (S (fracL n d)))), s5, some (.val (.str (S o))), some (.val (.int (j : Int))), some (.val (.str (S ((fracL n d).take j ++ [c] ++ (fracL n d).drop j))))] m7 := fun s5 => by
    simp only [ex_asg, ev_bin, ev_sl, ev_prt, ev_k, ev_call, ev_lst, evs_cons, evs_nil, ev_loc_succ, ev_loc_zero, R.ok_bind, optI, s1, s2', optR_some, gtW_fn, h8, ca1, ca2, List.length_cons, List.length_nil, le_line (show 0 + 1 + 1 + 1 + 1 ≤ 1000 by decide), if_true, SR.of_ok, tgD_nm]
    rfl
  have p8 : ∀ s5, Mp.ex (GG cl 60) mkxG Z1_8 [s0, some (.val (.ref 0)), s2, some (.val (fr n d)), some (.val (.str (S (fracL n d)))), s5, some (.val (.str (S o))), some (.val (.int (j : Int))), some (.val (.str (S ((fracL n d).take j ++ [c] ++ (fracL n d).drop j))))] m7 = .nx [s0, some (.val (.ref 0)), s2, some (.val (fr n d)), some (.val (.str (S (fracL n d)))), s5, some (.val (.str (S o))), some (.val (.int (j : Int))), some (.val (.str (S ((fracL n d).take j ++ [c] ++ (fracL n d).drop j))))] m7 := fun s5 => by
    have w := why2 cl (l := (fracL n d).take j ++ [c] ++ (fracL n d).drop j) hcl (by rw [List.length_append, List.length_append, List.length_take, List.length_drop]; simp; omega) (frac_odd hc1 hc2 hc3) m7
    have z := ne_why (l := (fracL n d).take j ++ [c] ++ (fracL n d).drop j) (fun b hb => by
      simp only [List.mem_append, List.mem_singleton] at hb
      rcases hb with (hb | rfl) | hb
      · exact frac_small hL b (List.mem_of_mem_take hb)
      · exact hc4
      · exact frac_small hL b (List.mem_of_mem_drop hb))
    simp only [ex_ife, tst, ev_cmp, ev_why, ev_call, ev_tup, evs_cons, evs_nil, ev_loc_succ, ev_loc_zero, ev_k, R.ok_bind, gtW_fn, gtW_why, gg_why, w, List.length_cons, List.length_nil, le_line (show 0 + 1 + 1 ≤ 1000 by decide), if_true, z, optR_some]
    rfl
  refine ⟨some (.val (fr n d)), some (.val (.str (S (fracL n d)))), some (.val (.lst [.str (S (fracL n d)), fr n d, fr n d])), some (.val (.str (S o))), some (.val (.int (j : Int))), some (.val (.str (S ((fracL n d).take j ++ [c] ++ (fracL n d).drop j)))), m7, ?_, B7⟩
  rw [exs_cons, p0, SR.then_nx, exs_cons, p1, SR.then_nx, exs_cons, p2, SR.then_nx, exs_cons, p3, SR.then_nx, exs_cons, p4, SR.then_nx, exs_cons, p5, SR.then_nx, exs_cons, p6, SR.then_nx, exs_cons, p7, SR.then_nx, exs_cons, p8, SR.then_nx, exs_nil]
theorem turns2 {ns : List Int} (hcl : 4 ∈ cl) (s0 : Option Sl) : ∀ (xs : List Mp.D) (s2 s3 s4 s5 s6 s7 s8 : Option Sl) (m : MH), Bag ns rest m → ∃ fr' m', forS (.nm 2) (exs (GG cl 60) mkxG [Z1_0, Z1_1, Z1_2, Z1_3, Z1_4, Z1_5, Z1_6, Z1_7, Z1_8]) xs [s0, some (.val (.ref 0)), s2, s3, s4, s5, s6, s7, s8] m = .nx fr' m'
  | [], _, _, _, _, _, _, _, m, _ => ⟨_, m, rfl⟩
  | x :: xs, s2, s3, s4, s5, s6, s7, s8, m, hB => by
    obtain ⟨a3, a4, a5, a6, a7, a8, m1, e, B1⟩ := turn2 cl rest s0 (some (.val x)) s3 s4 s5 s6 s7 s8 hB hcl
    obtain ⟨fr', m2, e2⟩ := turns2 hcl s0 xs (some (.val x)) a3 a4 a5 a6 a7 a8 m1 B1
    refine ⟨fr', m2, ?_⟩
    unfold forS
    have t : tgD (.nm 2) x [s0, some (.val (.ref 0)), s2, s3, s4, s5, s6, s7, s8] = some [s0, some (.val (.ref 0)), some (.val x), s3, s4, s5, s6, s7, s8] := by rw [tgD_nm]; rfl
    rw [t]
    dsimp only
    rw [e]
    exact e2
end
theorem law2_ok (cl : List Nat) (hcl : 4 ∈ cl) (ns : List Int) (hl : ns.length ≤ 63) : ∃ m', FN (PP cl) 61 n_law_k02 [.fz (ns.map Mp.D.int)] [] = .ok (.bl true) m' := by
  obtain ⟨m1, e1, B1⟩ := bag_ok cl 59 ns hl
  have e1' : FN (PP cl) 60 4 [.fz (ns.map Mp.D.int)] [] = .ok (.ref 0) m1 := e1
  have r : rngD (.int 0) (.int 8) = some ((List.range 8).map fun (n : Nat) => Mp.D.int (0 + (n : Int))) := rfl
  obtain ⟨fr', m2, e2⟩ := turns2 cl [] hcl (some (.val (.fz (ns.map Mp.D.int)))) ((List.range 8).map fun (n : Nat) => Mp.D.int (0 + (n : Int))) none none none none none none none m1 B1
  refine ⟨m2, ?_⟩
  rw [F_law_k02]
  refine runF_rt rfl ?_
  have ml : m_law_k02 = [Z0, Z1, Z2] := rfl
  show exs (GG cl 60) mkxG m_law_k02 [some (.val (.fz (ns.map Mp.D.int))), none, none, none, none, none, none, none, none] [] = _
  have a0 : Mp.ex (GG cl 60) mkxG Z0 [some (.val (.fz (ns.map Mp.D.int))), none, none, none, none, none, none, none, none] [] = .nx [some (.val (.fz (ns.map Mp.D.int))), some (.val (.ref 0)), none, none, none, none, none, none, none] m1 := by
    simp [e1']
  have t1 : FN (PP cl) 60 12 [fr (-7) 2] m2 = .ok (.str (S [45, 55, 47, 50])) m2 := by
    have := fraction_text_ok cl 59 (n := -7) (d := 2) (by decide) (by decide) m2
    rw [show fracL (-7) 2 = [45, 55, 47, 50] from by decide +kernel] at this
    exact this
  have t2 : FN (PP cl) 60 16 [.str (S [48])] m2 = .ok (fr 0 1) m2 := read_fraction_ok cl 56 (by decide) (by decide +kernel) m2
  have t3 : FN (PP cl) 60 16 [.str (S [45, 49, 50, 47, 53])] m2 = .ok (fr (-12) 5) m2 := read_fraction_ok cl 56 (by decide) (by decide +kernel) m2
  have t2' : FN (PP cl) 60 16 [.str "0"] m2 = .ok (fr 0 1) m2 := t2
  have t3' : FN (PP cl) 60 16 [.str "-12/5"] m2 = .ok (fr (-12) 5) m2 := t3
  have z : cmpD .eq (.lst [.str (S [45, 55, 47, 50]), fr 0 1, fr (-12) 5]) (.lst [.str "-7/2", .tup [.int 0, .int 1], .tup [.int (-12), .int 5]]) = some (.bl true) := by kernel_rfl
  rw [ml, exs_cons, a0, SR.then_nx, exs_cons, ex_for0, ev_rng1, ev_k, R.ok_bind, r]
  simp only [SR.of_ok, items_lst]
  rw [e2]
  simp only [SR.then_nx, exs_cons, exs_nil, ex_ret, ev_cmp, ev_lst, ev_call, ev_tup, ev_neg, ev_k, evs_cons, evs_nil, R.ok_bind, gtW_fn, t1, t2', t3', List.length_cons, List.length_nil, le_line (show 0 + 1 + 1 + 1 ≤ 1000 by decide), le_line (show 0 + 1 + 1 ≤ 1000 by decide), if_true, z, optR_some, SR.of_ok, SR.then_rt]
end Kb
end
set_option maxRecDepth 100000 in
set_option maxHeartbeats 8000000 in
theorem PySem.Challenge.cw_kindlebody_k02_texts_of_fractions_holds : PySem.Challenge.rw_kindlebody_k02_texts_of_fractions.Holds := by
  exact K02.holds_of (fun ns hl => Kb.law2_ok K02.cl (by decide) ns hl)
