import PyProof.Rows.All
import HandS.ForMost
import HandS.ForExc
import HandS.TryOnly
import HandS.TryMany
import HandS.TupAny
import HandS.TupMul
import HandS.IsInst
import HandS.Conv
import HandS.Zip
import HandS.Deep
import HandS.Style
import HandS.Wide
import KE.DataEq
import KE.DataCmp
import KE.DataMinMax
import KE.SortData
import KE.KTupSum
import KE.GoesEnum
import HandS.ExcIs
import HandS.TupSets
import HandS.Strs
import HandS.SetFor
import HandS.More
import KE.KDictSum
import KE.KDictCopyH
import PySem.Challenge.RW_bakewright_k54_rows_and_days_of_weeks
import HandS.Ends
set_option Elab.async false
set_option linter.all false
set_option maxRecDepth 100000
/-! D1: data states. A def's slots as data, its own lists, and how they lie in the abstract heap. -/
namespace Dl
open PySem PySem.Spec L2

/-- a result: stuck (nothing is said), a value, an exception of the c-th class -/
inductive Rz (α : Type) where
  | st | ok (a : α) | ex (c : Nat)
namespace Rz
def bind {α β : Type} (x : Rz α) (f : α → Rz β) : Rz β := match x with
  | st => st
  | ok a => f a
  | ex c => ex c
def map {α β : Type} (f : α → β) (x : Rz α) : Rz β := x.bind fun a => ok (f a)
@[simp] theorem bind_ok {α β : Type} (a : α) (f : α → Rz β) : (ok a).bind f = f a := rfl
@[simp] theorem bind_st {α β : Type} (f : α → Rz β) : (st : Rz α).bind f = st := rfl
@[simp] theorem bind_ex {α β : Type} (c : Nat) (f : α → Rz β) : (ex c : Rz α).bind f = ex c := rfl
@[simp] theorem map_ok {α β : Type} (a : α) (f : α → β) : (ok a).map f = ok (f a) := rfl
@[simp] theorem map_st {α β : Type} (f : α → β) : (st : Rz α).map f = st := rfl
@[simp] theorem map_ex {α β : Type} (c : Nat) (f : α → β) : (ex c : Rz α).map f = ex c := rfl
end Rz

/-- what a slot holds: data that nobody changes; a list of its own; the law's script, only read -/
inductive W where
  | d (x : PyData)
  | l (xs : List PyData)
  | r (ns : List Int)
  /-- a dict of its own -/
  | m (T : Bool) (kvs : List (PyData × PyData))
  /-- data with dicts in it, given up -/
  | q (x : PyData)
/-- the same as data -/
def W.dat : W → PyData
  | .d x => x
  | .l xs => .list xs
  | .r ns => .list (ns.map .int)
  | .m _ kvs => .dict kvs
  | .q x => x
@[simp] theorem W.dat_d (x : PyData) : W.dat (.d x) = x := rfl
@[simp] theorem W.dat_l (xs : List PyData) : W.dat (.l xs) = .list xs := rfl
abbrev Ms := List (Option W)

/-- a text first: so are the written tuples -/
def hdStr : List PyData → Bool
  | .str _ :: _ => true
  | _ => false
/-! the value v is the data x; Fz: the lists that nobody changes any more -/
mutual
inductive Rp (K : PySem.W.Frag) (Fz : Addr → Prop) (H : Hp) : V → PyData → Prop
  | non : Rp K Fz H .non .none
  | bl (b : Bool) : Rp K Fz H (.bl b) (.bool b)
  | int (i : Int) : Rp K Fz H (.int i) (.int i)
  | str (x : Str) : Rp K Fz H (.str x) (.str x)
  | lst {a : Addr} {xs : List V} {ds : List PyData} : Fz a → H a = some (.lst xs) → RpAll K Fz H xs ds → Rp K Fz H (.ref a) (.list ds)
  | tup {a : Addr} {xs : List V} {ds : List PyData} : H a = some (.tup xs) → RpAll K Fz H xs ds → Rp K Fz H (.ref a) (.tuple ds)
  | tupK {a : Addr} {xs : List V} {ds : List PyData} : (∀ H, SqT K H a xs) → hdStr ds = true → RpAll K Fz H xs ds → Rp K Fz H (.ref a) (.tuple ds)
inductive RpAll (K : PySem.W.Frag) (Fz : Addr → Prop) (H : Hp) : List V → List PyData → Prop
  | nil : RpAll K Fz H [] []
  | cons {v : V} {vs : List V} {d : PyData} {ds : List PyData} : Rp K Fz H v d → RpAll K Fz H vs ds → RpAll K Fz H (v :: vs) (d :: ds)
end
def isT : HO → Prop
  | .tup _ => True
  | .frz _ _ => True
  | _ => False
/-- what was frozen stays so, and stands -/
structure Le (Fz : Addr → Prop) (H : Hp) (Fz' : Addr → Prop) (H' : Hp) : Prop where
  fz : ∀ a, Fz a → Fz' a
  hp : ∀ a o, H a = some o → (Fz a ∨ isT o) → H' a = some o
theorem Le.refl {Fz : Addr → Prop} {H : Hp} : Le Fz H Fz H := ⟨fun _ h => h, fun _ _ h _ => h⟩
theorem Le.trans {F1 F2 F3 : Addr → Prop} {H1 H2 H3 : Hp} (a : Le F1 H1 F2 H2) (b : Le F2 H2 F3 H3) : Le F1 H1 F3 H3 :=
  ⟨fun x h => b.fz x (a.fz x h), fun x o h k => b.hp x o (a.hp x o h k) (k.imp (a.fz x) id)⟩
section
variable {K : PySem.W.Frag} {Fz Fz' : Addr → Prop} {H H' : Hp}
theorem sqT_le (l : Le Fz H Fz' H') {a : Addr} {xs : List V} (h : SqT K H a xs) : SqT K H' a xs := by
  rcases h with (h | ⟨o, h⟩) | h
  · exact .inl (.inl (l.hp _ _ h (.inr trivial)))
  · exact .inl (.inr ⟨o, l.hp _ _ h (.inr trivial)⟩)
  · exact .inr h
theorem sqL_le (l : Le Fz H Fz' H') {a : Addr} {xs : List V} (f : Fz a) (h : SqL K H a xs) : SqL K H' a xs := by
  rcases h with (h | ⟨o, h⟩) | h
  · exact .inl (.inl (l.hp _ _ h (.inl f)))
  · exact .inl (.inr ⟨o, l.hp _ _ h (.inr trivial)⟩)
  · exact .inr h
mutual
theorem Rp.mono (l : Le Fz H Fz' H') : ∀ {d : PyData} {v : V}, Rp K Fz H v d → Rp K Fz' H' v d
  | _, _, .non => .non
  | _, _, .bl b => .bl b
  | _, _, .int i => .int i
  | _, _, .str x => .str x
  | _, _, .lst f s r => .lst (l.fz _ f) (l.hp _ _ s (.inl f)) (RpAll.mono l r)
  | _, _, .tup s r => .tup (l.hp _ _ s (.inr trivial)) (RpAll.mono l r)
  | _, _, .tupK s h r => .tupK s h (RpAll.mono l r)
theorem RpAll.mono (l : Le Fz H Fz' H') : ∀ {ds : List PyData} {vs : List V}, RpAll K Fz H vs ds → RpAll K Fz' H' vs ds
  | _, _, .nil => .nil
  | _, _, .cons r rs => .cons (Rp.mono l r) (RpAll.mono l rs)
end
theorem RpAll.length : ∀ {vs : List V} {ds : List PyData}, RpAll K Fz H vs ds → vs.length = ds.length
  | _, _, .nil => rfl
  | _, _, .cons _ r => by rw [List.length_cons, List.length_cons, RpAll.length r]
theorem RpAll.append : ∀ {vs us : List V} {ds es : List PyData}, RpAll K Fz H vs ds → RpAll K Fz H us es → RpAll K Fz H (vs ++ us) (ds ++ es)
  | _, _, _, _, .nil, s => s
  | _, _, _, _, .cons r t, s => .cons r (RpAll.append t s)
theorem RpAll.get : ∀ {vs : List V} {ds : List PyData} {i : Nat} {v : V}, RpAll K Fz H vs ds → vs[i]? = some v → ∃ d, ds[i]? = some d ∧ Rp K Fz H v d
  | _, _, _, _, .nil, e => by simp at e
  | _, _, 0, _, .cons r _, e => by simp at e; subst e; exact ⟨_, rfl, r⟩
  | _, _, i + 1, _, .cons _ t, e => by
    obtain ⟨d, h1, h2⟩ := RpAll.get (i := i) t (by simpa using e)
    exact ⟨d, by simpa using h1, h2⟩
theorem RpAll.get' : ∀ {vs : List V} {ds : List PyData} {i : Nat} {d : PyData}, RpAll K Fz H vs ds → ds[i]? = some d → ∃ v, vs[i]? = some v ∧ Rp K Fz H v d
  | _, _, _, _, .nil, e => by simp at e
  | _, _, 0, _, .cons r _, e => by simp at e; subst e; exact ⟨_, rfl, r⟩
  | _, _, i + 1, _, .cons _ t, e => by
    obtain ⟨d, h1, h2⟩ := RpAll.get' (i := i) t (by simpa using e)
    exact ⟨d, by simpa using h1, h2⟩
theorem RpAll.set {v : V} {d : PyData} (r : Rp K Fz H v d) : ∀ {vs : List V} {ds : List PyData} (i : Nat), RpAll K Fz H vs ds → RpAll K Fz H (vs.set i v) (ds.set i d)
  | _, _, _, .nil => .nil
  | _, _, 0, .cons _ t => .cons r t
  | _, _, i + 1, .cons q t => .cons q (RpAll.set r i t)
theorem RpAll.take : ∀ {vs : List V} {ds : List PyData} (n : Nat), RpAll K Fz H vs ds → RpAll K Fz H (vs.take n) (ds.take n)
  | _, _, 0, _ => .nil
  | _, _, _ + 1, .nil => .nil
  | _, _, n + 1, .cons r t => .cons r (RpAll.take n t)
theorem RpAll.drop : ∀ {vs : List V} {ds : List PyData} (n : Nat), RpAll K Fz H vs ds → RpAll K Fz H (vs.drop n) (ds.drop n)
  | _, _, 0, r => r
  | _, _, _ + 1, .nil => .nil
  | _, _, n + 1, .cons _ t => RpAll.drop n t
theorem RpAll.reverse : ∀ {vs : List V} {ds : List PyData}, RpAll K Fz H vs ds → RpAll K Fz H vs.reverse ds.reverse
  | _, _, .nil => .nil
  | _, _, .cons r t => by
    rw [List.reverse_cons, List.reverse_cons]
    exact RpAll.append (RpAll.reverse t) (.cons r .nil)
theorem RpAll.rep {vs : List V} {ds : List PyData} (r : RpAll K Fz H vs ds) : ∀ k : Nat, RpAll K Fz H (List.replicate k vs).flatten (List.replicate k ds).flatten
  | 0 => .nil
  | k + 1 => by
    rw [List.replicate_succ, List.replicate_succ, List.flatten_cons, List.flatten_cons]
    exact r.append (RpAll.rep r k)
theorem RpAll.repL {vs : List V} {ds : List PyData} {k : Nat} (e : (List.replicate k vs).flatten = vs) (r : RpAll K Fz H vs ds) : (List.replicate k ds).flatten = ds := by
  have hl := r.length
  match k, e with
  | 0, e =>
    simp at e
    subst e
    cases r; rfl
  | 1, _ => simp
  | k + 2, e =>
    have h1 := congrArg List.length e
    simp only [List.length_flatten, List.map_replicate, List.sum_replicate_nat] at h1
    have : vs.length = 0 := by
      cases hv : vs.length with
      | zero => rfl
      | succ n => rw [hv] at h1; simp [Nat.add_mul] at h1; omega
    have : ds = [] := List.eq_nil_of_length_eq_zero (by omega)
    subst this
    simp
theorem RpAll.ints : ∀ {vs : List V} {ns : List Int}, RpAll K Fz H vs (ns.map .int) → vs = ns.map V.int
  | _, [], .nil => rfl
  | _, n :: ns, .cons r t => by
    cases r
    rw [RpAll.ints t]
    rfl
theorem RpAll.of_ints : ∀ ns : List Int, RpAll K Fz H (ns.map V.int) (ns.map .int)
  | [] => .nil
  | n :: ns => .cons (.int n) (RpAll.of_ints ns)
theorem RpAll.bools : ∀ {vs : List V} {bs : List Bool}, RpAll K Fz H vs (bs.map .bool) → vs = bs.map V.bl
  | _, [], .nil => rfl
  | _, n :: ns, .cons r t => by
    cases r
    rw [RpAll.bools t]
    rfl
/-- read as the layer's own data -/
theorem Rp.dp : ∀ {d : PyData} {v : V}, Rp K Fz H v d → Dp K H v d := fun {d v} h =>
  Rp.rec (motive_1 := fun v d _ => Dp K H v d) (motive_2 := fun vs ds _ => DpAll K H vs ds)
    .non (fun b => .bl b) (fun i => .int i) (fun x => .str x) (fun _ s _ r => .lst (.inl (.inl s)) r) (fun s _ r => .tup (.inl (.inl s)) r) (fun s _ _ r => .tup (s _) r) .nil (fun _ _ r rs => .cons r rs) h
theorem RpAll.dp : ∀ {ds : List PyData} {vs : List V}, RpAll K Fz H vs ds → DpAll K H vs ds
  | _, _, .nil => .nil
  | _, _, .cons r rs => .cons r.dp (RpAll.dp rs)
mutual
/-- no dict in it -/
theorem Rp.plain : ∀ {d : PyData} {v : V}, Rp K Fz H v d → d.plain = true
  | _, _, .non => by simp [PyData.plain]
  | _, _, .bl _ => by simp [PyData.plain]
  | _, _, .int _ => by simp [PyData.plain]
  | _, _, .str _ => by simp [PyData.plain]
  | _, _, .lst _ _ r => by simp only [PyData.plain]; exact RpAll.plain r
  | _, _, .tup _ r => by simp only [PyData.plain]; exact RpAll.plain r
  | _, _, .tupK _ _ r => by simp only [PyData.plain]; exact RpAll.plain r
theorem RpAll.plain : ∀ {ds : List PyData} {vs : List V}, RpAll K Fz H vs ds → PyData.plainAll ds = true
  | _, _, .nil => by simp [PyData.plainAll]
  | _, _, .cons r rs => by simp only [PyData.plainAll, Rp.plain r, RpAll.plain rs, Bool.and_self]
end
end

/-! ### dicts -/
def keyD : Key → PyData
  | .inl i => .int i
  | .inr x => .str x
def keysD (k : List Key) : PyData := .tuple (k.map keyD)
/-- what a dict holds -/
structure DEnt (K : PySem.W.Frag) (Fz : Addr → Prop) (H : Hp) {κ : Type} (kd : κ → PyData) (ks : List (κ × V)) (kvs : List (PyData × PyData)) : Prop where
  keys : kvs.map (·.1) = ks.map fun p => kd p.1
  vals : RpAll K Fz H (ks.map (·.2)) (kvs.map (·.2))
theorem DEnt.mono {K : PySem.W.Frag} {Fz Fz' : Addr → Prop} {H H' : Hp} (l : Le Fz H Fz' H') {κ : Type} {kd : κ → PyData} {ks : List (κ × V)} {kvs : List (PyData × PyData)} (h : DEnt K Fz H kd ks kvs) : DEnt K Fz' H' kd ks kvs := ⟨h.keys, h.vals.mono l⟩
mutual
/-- data with dicts in it -/
inductive Rq (K : PySem.W.Frag) (Fz : Addr → Prop) (H : Hp) : V → PyData → Prop
  | pl {v : V} {x : PyData} : Rp K Fz H v x → Rq K Fz H v x
  | dK {a : Addr} {o : Obj} {ks : List (Key × V)} {kvs : List (PyData × PyData)} : H a = some (.frz o (.dK ks)) → DEnt K Fz H keyD ks kvs → Rq K Fz H (.ref a) (.dict kvs)
  | dT {a : Addr} {o : Obj} {ks : List (List Key × V)} {kvs : List (PyData × PyData)} : H a = some (.frz o (.dT ks)) → DEnt K Fz H keysD ks kvs → Rq K Fz H (.ref a) (.dict kvs)
  | tup {a : Addr} {xs : List V} {ds : List PyData} : H a = some (.tup xs) → RqAll K Fz H xs ds → Rq K Fz H (.ref a) (.tuple ds)
inductive RqAll (K : PySem.W.Frag) (Fz : Addr → Prop) (H : Hp) : List V → List PyData → Prop
  | nil : RqAll K Fz H [] []
  | cons {v : V} {vs : List V} {d : PyData} {ds : List PyData} : Rq K Fz H v d → RqAll K Fz H vs ds → RqAll K Fz H (v :: vs) (d :: ds)
end
section
variable {K : PySem.W.Frag} {Fz Fz' : Addr → Prop} {H H' : Hp}
mutual
theorem Rq.mono (l : Le Fz H Fz' H') : ∀ {d : PyData} {v : V}, Rq K Fz H v d → Rq K Fz' H' v d
  | _, _, .pl r => .pl (r.mono l)
  | _, _, .dK s r => .dK (l.hp _ _ s (.inr trivial)) (r.mono l)
  | _, _, .dT s r => .dT (l.hp _ _ s (.inr trivial)) (r.mono l)
  | _, _, .tup s r => .tup (l.hp _ _ s (.inr trivial)) (RqAll.mono l r)
theorem RqAll.mono (l : Le Fz H Fz' H') : ∀ {ds : List PyData} {vs : List V}, RqAll K Fz H vs ds → RqAll K Fz' H' vs ds
  | _, _, .nil => .nil
  | _, _, .cons r rs => .cons (Rq.mono l r) (RqAll.mono l rs)
end
mutual
theorem Rq.rp : ∀ {d : PyData} {v : V}, Rq K Fz H v d → d.plain = true → Rp K Fz H v d
  | _, _, .pl r, _ => r
  | _, _, .dK _ _, h => by simp [PyData.plain] at h
  | _, _, .dT _ _, h => by simp [PyData.plain] at h
  | _, _, .tup s r, h => .tup s (RqAll.rp r (by simpa only [PyData.plain] using h))
theorem RqAll.rp : ∀ {ds : List PyData} {vs : List V}, RqAll K Fz H vs ds → PyData.plainAll ds = true → RpAll K Fz H vs ds
  | _, _, .nil, _ => .nil
  | _, _, .cons r rs, h => by
    simp only [PyData.plainAll, Bool.and_eq_true] at h
    exact .cons (Rq.rp r h.1) (RqAll.rp rs h.2)
end
end
/-- what a slot's value is, with the addresses that it owns -/
inductive RW (K : PySem.W.Frag) (Fz : Addr → Prop) (H : Hp) : V → W → List Addr → Prop
  | mK {a : Addr} {ks : List (Key × V)} {kvs : List (PyData × PyData)} : H a = some (.dK ks) → DEnt K Fz H keyD ks kvs → RW K Fz H (.ref a) (.m false kvs) [a]
  | mT {a : Addr} {ks : List (List Key × V)} {kvs : List (PyData × PyData)} : H a = some (.dT ks) → DEnt K Fz H keysD ks kvs → RW K Fz H (.ref a) (.m true kvs) [a]
  | q {v : V} {x : PyData} : Rq K Fz H v x → RW K Fz H v (.q x) []
  | d {v : V} {x : PyData} : Rp K Fz H v x → RW K Fz H v (.d x) []
  | l {a : Addr} {vs : List V} {xs : List PyData} : H a = some (.lst vs) → RpAll K Fz H vs xs → RW K Fz H (.ref a) (.l xs) [a]
  | r {a : Addr} {ns : List Int} : ((∃ o, H a = some (.frz o (.lst (ns.map V.int)))) ∨ ∀ H, SqL K H a (ns.map V.int)) → RW K Fz H (.ref a) (.r ns) []
/-- all slots -/
inductive RL (K : PySem.W.Frag) (Fz : Addr → Prop) (H : Hp) : L2.St → Ms → List Addr → Prop
  | nil : RL K Fz H [] [] []
  | no {x : Option V} {σ : L2.St} {m : Ms} {fp : List Addr} : RL K Fz H σ m fp → RL K Fz H (x :: σ) (none :: m) fp
  | so {v : V} {w : W} {f : List Addr} {σ : L2.St} {m : Ms} {fp : List Addr} : RW K Fz H v w f → RL K Fz H σ m fp → RL K Fz H (some v :: σ) (some w :: m) (f ++ fp)
/-- the state: B is what stood ahead and stands -/
structure RsF (K : PySem.W.Frag) (B : Hp) (Fz : Addr → Prop) (H : Hp) (σ : L2.St) (m : Ms) (fp : List Addr) : Prop where
  rl : RL K Fz H σ m fp
  nd : fp.Nodup
  own : ∀ a ∈ fp, B a = none ∧ ¬ Fz a
  base : ∀ a o, B a = some o → H a = some o
  fz : ∀ a, Fz a → H a ≠ none
def Rs (K : PySem.W.Frag) (B : Hp) (Fz : Addr → Prop) (H : Hp) (σ : L2.St) (m : Ms) : Prop := ∃ fp, RsF K B Fz H σ m fp
/-- more is frozen: only what was new or one's own -/
structure Ext (B : Hp) (Fz Fz' : Addr → Prop) : Prop where
  le : ∀ a, Fz a → Fz' a
  new : ∀ a, Fz' a → Fz a ∨ B a = none
theorem Ext.refl {B : Hp} {Fz : Addr → Prop} : Ext B Fz Fz := ⟨fun _ h => h, fun _ h => .inl h⟩
theorem Ext.trans {B : Hp} {F1 F2 F3 : Addr → Prop} (a : Ext B F1 F2) (b : Ext B F2 F3) : Ext B F1 F3 :=
  ⟨fun x h => b.le x (a.le x h), fun x h => (b.new x h).elim (a.new x) .inr⟩
section
variable {K : PySem.W.Frag} {B : Hp} {Fz Fz' : Addr → Prop} {H H' : Hp} {σ τ : L2.St} {m n : Ms} {fp f : List Addr} {v : V} {w : W}
theorem RW.mono (l : Le Fz H Fz' H') (k : ∀ a ∈ f, ∀ o, H a = some o → H' a = some o) (h : RW K Fz H v w f) : RW K Fz' H' v w f := by
  cases h with
  | d r => exact .d (r.mono l)
  | l e r => exact .l (k _ (by simp) _ e) (r.mono l)
  | mK e r => exact .mK (k _ (by simp) _ e) (r.mono l)
  | mT e r => exact .mT (k _ (by simp) _ e) (r.mono l)
  | q r => exact .q (r.mono l)
  | r q => exact .r (q.imp (fun ⟨o, q⟩ => ⟨o, l.hp _ _ q (.inr trivial)⟩) id)
theorem RL.mono (l : Le Fz H Fz' H') : ∀ {σ : L2.St} {m : Ms} {fp : List Addr}, RL K Fz H σ m fp → (∀ a ∈ fp, ∀ o, H a = some o → H' a = some o) → RL K Fz' H' σ m fp
  | _, _, _, .nil, _ => .nil
  | _, _, _, .no r, k => .no (RL.mono l r k)
  | _, _, _, .so r s, k => .so (r.mono l fun a h => k a (List.mem_append_left _ h)) (RL.mono l s fun a h => k a (List.mem_append_right _ h))
theorem RL.length : ∀ {σ : L2.St} {m : Ms} {fp : List Addr}, RL K Fz H σ m fp → σ.length = m.length
  | _, _, _, .nil => rfl
  | _, _, _, .no r => by rw [List.length_cons, List.length_cons, RL.length r]
  | _, _, _, .so _ r => by rw [List.length_cons, List.length_cons, RL.length r]
/-- what is owned is a tracked list -/
theorem RW.own (h : RW K Fz H v w f) : ∀ a ∈ f, ∃ o, H a = some o ∧ ¬ isT o := by
  cases h with
  | d _ => intro a h; simp at h
  | l e r =>
    intro a h
    rw [List.mem_singleton] at h
    subst h; exact ⟨_, e, id⟩
  | mK e r =>
    intro a h
    rw [List.mem_singleton] at h
    subst h; exact ⟨_, e, id⟩
  | mT e r =>
    intro a h
    rw [List.mem_singleton] at h
    subst h; exact ⟨_, e, id⟩
  | q _ => intro a h; simp at h
  | r _ => intro a h; simp at h
theorem RL.own : ∀ {σ : L2.St} {m : Ms} {fp : List Addr}, RL K Fz H σ m fp → ∀ a ∈ fp, ∃ o, H a = some o ∧ ¬ isT o
  | _, _, _, .nil => by intro a h; simp at h
  | _, _, _, .no r => RL.own r
  | _, _, _, .so r s => by
    intro a h
    rcases List.mem_append.mp h with h | h
    · exact r.own a h
    · exact RL.own s a h
/-- a slot -/
theorem RL.get : ∀ {σ : L2.St} {m : Ms} {fp : List Addr} {i : Nat} {w : W}, RL K Fz H σ m fp → m[i]? = some (some w) → ∃ v f, σ[i]? = some (some v) ∧ RW K Fz H v w f ∧ ∀ a ∈ f, a ∈ fp
  | _, _, _, _, _, .nil, e => by simp at e
  | _, _, _, 0, _, .no r, e => by simp at e
  | _, _, _, i + 1, _, .no r, e => by
    obtain ⟨v, f, h1, h2, h3⟩ := RL.get (i := i) r (by simpa using e)
    exact ⟨v, f, by simpa using h1, h2, h3⟩
  | _, _, _, 0, _, .so r _, e => by
    simp at e; subst e
    exact ⟨_, _, rfl, r, fun a h => List.mem_append_left _ h⟩
  | _, _, _, i + 1, _, .so _ r, e => by
    obtain ⟨v, f, h1, h2, h3⟩ := RL.get (i := i) r (by simpa using e)
    exact ⟨v, f, by simpa using h1, h2, fun a h => List.mem_append_right _ (h3 a h)⟩
/-- a slot is stored: the top's value goes there -/
theorem RL.put : ∀ {σ : L2.St} {m : Ms} {fp f : List Addr} (i : Nat) {v : V} {w : W}, RL K Fz H σ m fp → RW K Fz H v w f → i < m.length →
    ∃ fp', RL K Fz H (σ.set i (some v)) (m.set i (some w)) fp' ∧ ∃ g, (fp').Perm (f ++ g) ∧ g.Sublist fp
  | _, _, _, _, i, _, _, .nil, _, h => by simp at h
  | _, _, _, _, 0, _, _, .no r, q, _ => ⟨_, .so q r, _, .refl _, .refl _⟩
  | _, _, _, _, 0, _, _, .so q' r, q, _ => ⟨_, .so q r, _, .refl _, List.sublist_append_right _ _⟩
  | _, _, _, _, i + 1, _, _, .no r, q, h => by
    obtain ⟨fp', r', g, p, s⟩ := RL.put i r q (by simpa using h)
    exact ⟨fp', .no r', g, p, s⟩
  | _, _, _, f, i + 1, _, _, .so (f := f0) q' r, q, h => by
    obtain ⟨fp', r', g, p, s⟩ := RL.put i r q (by simpa using h)
    refine ⟨_, .so q' r', f0 ++ g, ?_, s.append_left f0⟩
    refine (List.Perm.append_left f0 p).trans ?_
    rw [← List.append_assoc, ← List.append_assoc]
    exact List.Perm.append_right g List.perm_append_comm
/-- a slot is forgotten -/
theorem RL.drop1 : ∀ {σ : L2.St} {m : Ms} {fp : List Addr} (i : Nat), RL K Fz H σ m fp → ∃ g, RL K Fz H (σ.set i none) (m.set i none) g ∧ g.Sublist fp
  | _, _, _, _, .nil => ⟨_, .nil, .refl _⟩
  | _, _, _, 0, .no r => ⟨_, .no r, .refl _⟩
  | _, _, _, 0, .so _ r => ⟨_, .no r, List.sublist_append_right _ _⟩
  | _, _, _, i + 1, .no r => by
    obtain ⟨g, r', s⟩ := RL.drop1 i r
    exact ⟨g, .no r', s⟩
  | _, _, _, i + 1, .so (f := f0) q r => by
    obtain ⟨g, r', s⟩ := RL.drop1 i r
    exact ⟨_, .so q r', s.append_left f0⟩

/-! ### the state -/
theorem Rs.lsz (h : Rs K B Fz H σ m) : σ.length = m.length := let ⟨_, r⟩ := h; r.rl.length
theorem Rs.base (h : Rs K B Fz H σ m) : ∀ a o, B a = some o → H a = some o := let ⟨_, r⟩ := h; r.base
theorem Rs.fzn (h : Rs K B Fz H σ m) : ∀ a, Fz a → H a ≠ none := let ⟨_, r⟩ := h; r.fz
/-- the top is dropped -/
theorem Rs.pop {x : Option V} {y : Option W} (h : Rs K B Fz H (x :: σ) (y :: m)) : Rs K B Fz H σ m := by
  obtain ⟨fp, r⟩ := h
  cases r with
  | mk rl nd own base fz =>
  cases rl with
  | no s => exact ⟨_, s, nd, own, base, fz⟩
  | so q s =>
    rw [List.nodup_append] at nd
    exact ⟨_, s, nd.2.1, fun a h => own a (List.mem_append_right _ h), base, fz⟩
/-- the second is dropped -/
theorem Rs.pop2 {x y : Option V} {u w : Option W} (h : Rs K B Fz H (x :: y :: σ) (u :: w :: m)) : Rs K B Fz H (x :: σ) (u :: m) := by
  obtain ⟨fp, rl, nd, own, base, fz⟩ := h
  cases rl with
  | no s =>
    obtain ⟨g, t, nd', own', base', fz'⟩ := Rs.pop ⟨_, s, nd, own, base, fz⟩
    exact ⟨_, .no t, nd', own', base', fz'⟩
  | so q s =>
    cases s with
    | no s => exact ⟨_, .so q s, nd, own, base, fz⟩
    | @so _ _ f2 _ _ fp2 q2 s =>
      refine ⟨_, .so q s, nd.sublist ?_, fun a h => own a ?_, base, fz⟩
      · exact (List.sublist_append_right f2 fp2).append_left _
      · rcases List.mem_append.mp h with h | h
        · exact List.mem_append_left _ h
        · exact List.mem_append_right _ (List.mem_append_right _ h)
/-- data on top -/
theorem Rs.top {x : PyData} (h : Rs K B Fz H (some v :: σ) (some (.d x) :: m)) : Rp K Fz H v x := by
  obtain ⟨fp, r⟩ := h
  have z := r.rl
  cases z with
  | so q s => cases q with | d q' => exact q'
theorem Rs.push {x : PyData} (h : Rs K B Fz H σ m) (r : Rp K Fz H v x) : Rs K B Fz H (some v :: σ) (some (.d x) :: m) := by
  obtain ⟨fp, rl, nd, own, base, fz⟩ := h
  exact ⟨_, .so (f := []) (.d r) rl, nd, own, base, fz⟩
theorem Rs.get {i : Nat} {x : PyData} (h : Rs K B Fz H σ m) (e : m[i]? = some (some (.d x))) : ∃ v, σ[i]? = some (some v) ∧ Rp K Fz H v x := by
  obtain ⟨fp, r⟩ := h
  obtain ⟨v, f, h1, h2, _⟩ := r.rl.get e
  cases h2 with | d q => exact ⟨v, h1, q⟩
theorem Rs.getL {i : Nat} {xs : List PyData} (h : Rs K B Fz H σ m) (e : m[i]? = some (some (.l xs))) :
    ∃ a vs, σ[i]? = some (some (.ref a)) ∧ H a = some (.lst vs) ∧ RpAll K Fz H vs xs ∧ B a = none ∧ ¬ Fz a := by
  obtain ⟨fp, r⟩ := h
  obtain ⟨v, f, h1, h2, h3⟩ := r.rl.get e
  cases h2 with
  | l q q2 => exact ⟨_, _, h1, q, q2, (r.own _ (h3 _ (by simp))).1, (r.own _ (h3 _ (by simp))).2⟩
theorem Rs.getR {i : Nat} {ns : List Int} (h : Rs K B Fz H σ m) (e : m[i]? = some (some (.r ns))) : ∃ a, σ[i]? = some (some (.ref a)) ∧ SqL K H a (ns.map V.int) ∧ RW K Fz H (.ref a) (.r ns) [] := by
  obtain ⟨fp, r⟩ := h
  obtain ⟨v, f, h1, h2, h3⟩ := r.rl.get e
  cases h2 with
  | r q => exact ⟨_, h1, q.elim (fun ⟨o, q⟩ => .inl (.inr ⟨o, q⟩)) (fun q => q H), .r q⟩
/-- the top is stored in slot i -/
theorem Rs.put (i : Nat) (h : Rs K B Fz H (some v :: σ) (some w :: m)) (hi : i < m.length) : Rs K B Fz H (σ.set i (some v)) (m.set i (some w)) := by
  obtain ⟨fp, rl, nd, own, base, fz⟩ := h
  cases rl with
  | @so _ _ f _ _ fp q s =>
    obtain ⟨fp', r', g, p, sub⟩ := RL.put i s q hi
    refine ⟨fp', r', p.nodup_iff.mpr (nd.sublist (sub.append_left f)), fun a ha => own a ?_, base, fz⟩
    rcases List.mem_append.mp (p.mem_iff.mp ha) with h | h
    · exact List.mem_append_left _ h
    · exact List.mem_append_right _ (sub.subset h)
theorem Rs.clear (i : Nat) (h : Rs K B Fz H σ m) : Rs K B Fz H (σ.set i none) (m.set i none) := by
  obtain ⟨fp, rl, nd, own, base, fz⟩ := h
  obtain ⟨g, r, s⟩ := RL.drop1 i rl
  exact ⟨g, r, nd.sublist s, fun a h => own a (s.subset h), base, fz⟩
/-- what is known of all of the heap but of one's own lists -/
theorem RsF.le_of (r : RsF K B Fz H σ m fp) (h : ∀ a o, H a = some o → a ∉ fp → H' a = some o) (e : ∀ a, Fz a → Fz' a) : Le Fz H Fz' H' := by
  refine ⟨e, fun a o q k => h a o q fun hf => ?_⟩
  rcases k with k | k
  · exact (r.own a hf).2 k
  · obtain ⟨vs, q', n⟩ := r.rl.own a hf
    rw [q] at q'; cases q'
    exact n k
/-- the heap grows -/
theorem Rs.grow (h : Rs K B Fz H σ m) (s : Same H H') (e : Ext H Fz Fz') (z : ∀ a, Fz' a → H' a ≠ none) : Rs K B Fz' H' σ m := by
  obtain ⟨fp, r⟩ := h
  refine ⟨fp, r.rl.mono ⟨e.le, fun a o q _ => s a o q⟩ (fun a _ o q => s a o q), r.nd, fun a ha => ⟨(r.own a ha).1, fun hf => ?_⟩, fun a o q => s a o (r.base a o q), z⟩
  rcases e.new a hf with h | h
  · exact (r.own a ha).2 h
  · obtain ⟨vs, q, _⟩ := r.rl.own a ha
    rw [h] at q; cases q
theorem same_new {p : Addr} {o : HO} (h : H p = none) : Same H (upd H p o) := fun b x e => by
  rw [upd_ne (ne_of_none e h)]
  exact e
theorem Rs.new {p : Addr} {o : HO} (h : Rs K B Fz H σ m) (hp : H p = none) : Rs K B Fz (upd H p o) σ m :=
  h.grow (same_new hp) .refl fun a ha => by
    have q := h.fzn a ha
    by_cases e : a = p
    · subst e; rw [upd_same]; simp
    · rw [upd_ne e]; exact q
/-- a new tuple -/
theorem Rs.newTup {p : Addr} {vs : List V} {ds : List PyData} (h : Rs K B Fz H σ m) (hp : H p = none) (r : RpAll K Fz H vs ds) : Rs K B Fz (upd H p (.tup vs)) (some (.ref p) :: σ) (some (.d (.tuple ds)) :: m) :=
  (h.new hp).push (.tup upd_same (r.mono ⟨fun _ x => x, fun a o q _ => same_new hp a o q⟩))
/-- a new list, one's own -/
theorem Rs.newLst {p : Addr} {vs : List V} {ds : List PyData} (h : Rs K B Fz H σ m) (hp : H p = none) (r : RpAll K Fz H vs ds) : Rs K B Fz (upd H p (.lst vs)) (some (.ref p) :: σ) (some (.l ds) :: m) := by
  obtain ⟨fp, s⟩ := id h
  have nf : ¬ Fz p := fun z => h.fzn p z hp
  have nb : B p = none := by
    cases q : B p with
    | none => rfl
    | some o =>
      have := h.base p o q
      rw [hp] at this; cases this
  have rl' : RL K Fz (upd H p (.lst vs)) σ m fp := s.rl.mono ⟨fun _ x => x, fun a o q _ => same_new hp a o q⟩ fun a _ o q => same_new hp a o q
  refine ⟨[p] ++ fp, .so (.l upd_same (r.mono ⟨fun _ x => x, fun a o q _ => same_new hp a o q⟩)) rl', ?_, fun a ha => ?_, fun a o q => same_new hp a o (s.base a o q), fun a q => ?_⟩
  · rw [List.singleton_append, List.nodup_cons]
    refine ⟨fun z => ?_, s.nd⟩
    obtain ⟨us, q, _⟩ := s.rl.own p z
    rw [hp] at q; cases q
  · rcases List.mem_append.mp ha with z | z
    · rw [List.mem_singleton] at z
      subst z; exact ⟨nb, nf⟩
    · exact s.own a z
  · have e := h.fzn a q
    by_cases z : a = p
    · subst z; rw [upd_same]; simp
    · rw [upd_ne z]; exact e

/-! ### freezing -/
/-- a list of one's own is given up -/
theorem RL.more {p : Addr} (hp : ∃ vs, H p = some (.lst vs)) (h : RL K Fz H σ m fp) : RL K (fun a => Fz a ∨ a = p) H σ m fp := h.mono ⟨fun _ => .inl, fun _ _ q _ => q⟩ fun _ _ _ q => q
theorem Rs.frzTop {xs : List PyData} (h : Rs K B Fz H (some v :: σ) (some (.l xs) :: m)) : ∃ Fz', Ext B Fz Fz' ∧ Rs K B Fz' H (some v :: σ) (some (.d (.list xs)) :: m) := by
  obtain ⟨fp, rl, nd, own, base, fz⟩ := h
  cases rl with
  | so q s =>
    cases q with
    | @l p vs _ e r =>
      have l : Le Fz H (fun a => Fz a ∨ a = p) H := ⟨fun _ => .inl, fun _ _ q _ => q⟩
      rw [List.singleton_append, List.nodup_cons] at nd
      refine ⟨fun a => Fz a ∨ a = p, ⟨fun _ => .inl, fun a ha => ha.imp id fun z => by subst z; exact (own a (by simp)).1⟩, _, .so (f := []) (.d (.lst (.inr rfl) e (r.mono l))) (s.mono l fun _ _ _ q => q), nd.2, fun a ha => ?_, base, fun a ha => ?_⟩
      · refine ⟨(own a (List.mem_append_right _ ha)).1, fun z => ?_⟩
        rcases z with z | z
        · exact (own a (List.mem_append_right _ ha)).2 z
        · subst z; exact nd.1 ha
      · rcases ha with ha | ha
        · exact fz a ha
        · subst ha; rw [e]; simp
/-- data of a value, its own list given up -/
def W.noR : W → Bool
  | .d _ => true
  | .l _ => true
  | _ => false
theorem Rs.frz (h : Rs K B Fz H (some v :: σ) (some w :: m)) (n : w.noR = true) : ∃ Fz', Ext B Fz Fz' ∧ Rs K B Fz' H (some v :: σ) (some (.d w.dat) :: m) := by
  cases w with
  | d x => exact ⟨Fz, .refl, h⟩
  | l xs => exact h.frzTop
  | r ns => cases n
  | m _ _ => cases n
  | q _ => cases n
theorem getElem?_some_split {α : Type} : ∀ {l : List α} {i : Nat} {x : α}, l[i]? = some x → ∃ l1 l2, l = l1 ++ x :: l2 ∧ l1.length = i
  | [], _, _, h => by simp at h
  | a :: l, 0, x, h => by simp at h; subst h; exact ⟨[], l, rfl, rfl⟩
  | a :: l, i + 1, x, h => by
    obtain ⟨l1, l2, e, z⟩ := getElem?_some_split (l := l) (i := i) (by simpa using h)
    exact ⟨a :: l1, l2, by rw [e]; rfl, by simp [z]⟩
/-- the own list of slot i is given up, where it stands -/
theorem RL.frzAt : ∀ {σ : L2.St} {m : Ms} {fp : List Addr} (i : Nat) {xs : List PyData}, RL K Fz H σ m fp → m[i]? = some (some (.l xs)) →
    ∃ p vs g, σ[i]? = some (some (.ref p)) ∧ H p = some (.lst vs) ∧ RpAll K Fz H vs xs ∧ RL K (fun a => Fz a ∨ a = p) H σ (m.set i (some (.d (.list xs)))) g ∧ fp.Perm (p :: g)
  | _, _, _, _, _, .nil, e => by simp at e
  | _, _, _, 0, _, .no _, e => by simp at e
  | _, _, _, i + 1, _, .no r, e => by
    obtain ⟨p, vs, g, h1, h2, h3, h4, h5⟩ := RL.frzAt i r (by simpa using e)
    exact ⟨p, vs, g, by simpa using h1, h2, h3, .no h4, h5⟩
  | _, _, _, 0, _, .so q r, e => by
    have e' := Option.some.inj (Option.some.inj e)
    subst e'
    cases q with
    | @l p vs _ e r' =>
      have l : Le Fz H (fun a => Fz a ∨ a = p) H := ⟨fun _ => .inl, fun _ _ q _ => q⟩
      exact ⟨p, vs, _, rfl, e, r', .so (f := []) (.d (.lst (.inr rfl) e (r'.mono l))) (r.mono l fun _ _ _ q => q), .refl _⟩
  | _, _, _, i + 1, _, .so (f := f) q r, e => by
    obtain ⟨p, vs, g, h1, h2, h3, h4, h5⟩ := RL.frzAt i r (by simpa using e)
    have l : Le Fz H (fun a => Fz a ∨ a = p) H := ⟨fun _ => .inl, fun _ _ q _ => q⟩
    exact ⟨p, vs, f ++ g, by simpa using h1, h2, h3, .so (q.mono l fun _ _ _ q => q) h4, (h5.append_left f).trans List.perm_middle⟩
theorem Rs.frzAt (i : Nat) {xs : List PyData} (h : Rs K B Fz H σ m) (e : m[i]? = some (some (.l xs))) : ∃ Fz', Ext B Fz Fz' ∧ Rs K B Fz' H σ (m.set i (some (.d (.list xs)))) := by
  obtain ⟨fp, rl, nd, own, base, fz⟩ := h
  obtain ⟨p, vs, g, h1, h2, h3, h4, h5⟩ := rl.frzAt i e
  have nd' := h5.nodup_iff.mp nd
  rw [List.nodup_cons] at nd'
  have pin : p ∈ fp := h5.mem_iff.mpr (by simp)
  refine ⟨fun a => Fz a ∨ a = p, ⟨fun _ => .inl, fun a ha => ha.imp id fun z => by subst z; exact (own a pin).1⟩, g, h4, nd'.2, fun a ha => ?_, base, fun a ha => ?_⟩
  · have ha' : a ∈ fp := h5.mem_iff.mpr (List.mem_cons_of_mem _ ha)
    refine ⟨(own a ha').1, fun z => ?_⟩
    rcases z with z | z
    · exact (own a ha').2 z
    · subst z; exact nd'.1 ha
  · rcases ha with ha | ha
    · exact fz a ha
    · subst ha; rw [h2]; simp

/-! ### holding values while something else is reckoned -/
open Classical in
/-- values τ are held; what comes behind leaves them alone -/
theorem Rs.hold (h : Rs K B Fz H (τ ++ σ) (n ++ m)) (hl : τ.length = n.length) : ∃ B2 : Hp, Rs K B2 Fz H σ m ∧ (∀ a o, B2 a = some o → H a = some o) ∧ (∀ F', Ext B2 Fz F' → Ext B Fz F') ∧
    ∀ {Fz' : Addr → Prop} {H' : Hp} {ρ : L2.St} {r : Ms}, Ext B2 Fz Fz' → Rs K B2 Fz' H' (ρ ++ σ) (r ++ m) → ρ.length = r.length → Rs K B Fz' H' (ρ ++ (τ ++ σ)) (r ++ (n ++ m)) ∧ Le Fz H Fz' H' := by
  obtain ⟨fp, rl, nd, own, base, fz⟩ := h
  have split : ∀ {Fz : Addr → Prop} {H : Hp} {τ σ : L2.St} {n m : Ms} {fp : List Addr}, RL K Fz H (τ ++ σ) (n ++ m) fp → τ.length = n.length → ∃ f1 f2, fp = f1 ++ f2 ∧ RL K Fz H τ n f1 ∧ RL K Fz H σ m f2 := by
    intro Fz H τ
    induction τ with
    | nil =>
      intro σ n m fp h hl
      cases n with
      | nil => exact ⟨[], fp, rfl, .nil, h⟩
      | cons _ _ => simp at hl
    | cons x τ ih =>
      intro σ n m fp h hl
      cases n with
      | nil => simp at hl
      | cons y n =>
        rw [List.cons_append, List.cons_append] at h
        cases h with
        | no r =>
          obtain ⟨f1, f2, e, a, b⟩ := ih r (by simpa using hl)
          exact ⟨f1, f2, e, .no a, b⟩
        | @so _ _ f _ _ _ q r =>
          obtain ⟨f1, f2, e, a, b⟩ := ih r (by simpa using hl)
          exact ⟨f ++ f1, f2, by rw [e, List.append_assoc], .so q a, b⟩
  have glue : ∀ {Fz : Addr → Prop} {H : Hp} {τ σ : L2.St} {n m : Ms} {f1 f2 : List Addr}, RL K Fz H τ n f1 → RL K Fz H σ m f2 → RL K Fz H (τ ++ σ) (n ++ m) (f1 ++ f2) := by
    intro Fz H τ σ n m f1 f2 a b
    induction a with
    | nil => exact b
    | no r ih => exact .no ih
    | so q r ih => rw [List.append_assoc]; exact .so q ih
  obtain ⟨f1, f2, e, r1, r2⟩ := split rl hl
  subst e
  rw [List.nodup_append] at nd
  obtain ⟨nd1, nd2, nd3⟩ := nd
  have b2s : ∀ a o, (if a ∈ f2 then none else H a) = some o → a ∉ f2 ∧ H a = some o := fun a o q => by
    by_cases z : a ∈ f2
    · rw [if_pos z] at q; cases q
    · rw [if_neg z] at q; exact ⟨z, q⟩
  have bb : ∀ a, (if a ∈ f2 then (none : Option HO) else H a) = none → B a = none := fun a q => by
    by_cases z : a ∈ f2
    · exact (own a (List.mem_append_right _ z)).1
    · rw [if_neg z] at q
      cases w : B a with
      | none => rfl
      | some o => rw [base a o w] at q; cases q
  have exB : ∀ F', Ext (fun a => if a ∈ f2 then none else H a) Fz F' → Ext B Fz F' := fun F' x => ⟨x.le, fun a ha => (x.new a ha).imp id (bb a)⟩
  refine ⟨fun a => if a ∈ f2 then none else H a, ⟨f2, r2, nd2, fun a ha => ⟨if_pos ha, (own a (List.mem_append_right _ ha)).2⟩, fun a o q => (b2s a o q).2, fz⟩, fun a o q => (b2s a o q).2, exB, ?_⟩
  intro Fz' H' ρ r x h' hl'
  obtain ⟨fp', rl', nd', own', base', fz'⟩ := h'
  obtain ⟨g1, g2, e', q1, q2⟩ := split rl' hl'
  subst e'
  -- the heap beyond the slots' own lists stands
  have st : ∀ a o, H a = some o → a ∉ f2 → H' a = some o := fun a o q z => base' a o (by rw [if_neg z]; exact q)
  have l : Le Fz H Fz' H' := ⟨x.le, fun a o q k => st a o q fun z => by
    rcases k with k | k
    · exact (own a (List.mem_append_right _ z)).2 k
    · obtain ⟨vs, q', n⟩ := r2.own a z
      rw [q] at q'; cases q'
      exact n k⟩
  have d1 : ∀ a ∈ f1, (if a ∈ f2 then none else H a) ≠ none := fun a ha => by
    have z : a ∉ f2 := fun z => nd3 a ha a z rfl
    rw [if_neg z]
    obtain ⟨vs, q, _⟩ := r1.own a ha
    rw [q]; simp
  have rt : RL K Fz' H' τ n f1 := r1.mono l fun a ha o q => st a o q fun z => nd3 a ha a z rfl
  rw [List.nodup_append] at nd'
  obtain ⟨n1, n2, n3⟩ := nd'
  refine ⟨⟨g1 ++ (f1 ++ g2), glue q1 (glue rt q2), ?_, fun a ha => ?_, fun a o q => ?_, fz'⟩, l⟩
  · rw [List.nodup_append]
    refine ⟨n1, ?_, fun a ha b hb e => ?_⟩
    · rw [List.nodup_append]
      refine ⟨nd1, n2, fun a ha b hb e => ?_⟩
      subst e
      exact d1 a ha (own' a (List.mem_append_right _ hb)).1
    · subst e
      rcases List.mem_append.mp hb with hb | hb
      · exact d1 a hb (own' a (List.mem_append_left _ ha)).1
      · exact n3 a ha a hb rfl
  · rcases List.mem_append.mp ha with ha | ha
    · exact ⟨bb a (own' a (List.mem_append_left _ ha)).1, (own' a (List.mem_append_left _ ha)).2⟩
    · rcases List.mem_append.mp ha with ha | ha
      · refine ⟨(own a (List.mem_append_left _ ha)).1, fun z => ?_⟩
        rcases x.new a z with z | z
        · exact (own a (List.mem_append_left _ ha)).2 z
        · exact d1 a ha z
      · exact ⟨bb a (own' a (List.mem_append_right _ ha)).1, (own' a (List.mem_append_right _ ha)).2⟩
  · have z : a ∉ f2 := fun z => by
      have := (own a (List.mem_append_right _ z)).1
      rw [q] at this; cases this
    exact st a o (base a o q) z
/-- something else is reckoned: what was data stays so -/
theorem Rs.step (h : Rs K B Fz H σ m) : ∃ B2 : Hp, Rs K B2 Fz H σ m ∧ (∀ F', Ext B2 Fz F' → Ext B Fz F') ∧
    ∀ {Fz' : Addr → Prop} {H' : Hp} {ρ : L2.St} {r : Ms}, Ext B2 Fz Fz' → Rs K B2 Fz' H' (ρ ++ σ) (r ++ m) → ρ.length = r.length → Rs K B Fz' H' (ρ ++ σ) (r ++ m) ∧ Le Fz H Fz' H' := by
  obtain ⟨B2, h1, h2, h3, h4⟩ := Rs.hold (τ := []) (n := []) (by simpa using h) rfl
  exact ⟨B2, h1, h3, fun x h' hl => by simpa using h4 x h' hl⟩
end
end Dl
set_option Elab.async false
set_option linter.all false
set_option maxRecDepth 100000
/-! D2: judgements of expressions over data states; names, constants, operators, comparisons, displays, subscripts. -/
namespace Dl
open PySem PySem.Spec L2
abbrev CT := Nat → Value
/-- a value that is read: data, or a list of one's own in a slot -/
def SV (K : PySem.W.Frag) (Fz : Addr → Prop) (H : Hp) (σ : L2.St) (m : Ms) (v : V) (x : PyData) : Prop :=
  Rp K Fz H v x ∨ ∃ (i : Nat) (xs : List PyData), σ[i]? = some (some v) ∧ m[i]? = some (some (W.l xs)) ∧ x = PyData.list xs
inductive Vw (K : PySem.W.Frag) (Fz : Addr → Prop) (H : Hp) : V → PyData → Prop
  | rp {v : V} {x : PyData} : Rp K Fz H v x → Vw K Fz H v x
  | own {a : Addr} {vs : List V} {xs : List PyData} : H a = some (.lst vs) → RpAll K Fz H vs xs → Vw K Fz H (.ref a) (.list xs)
section
variable {K : PySem.W.Frag} {B : Hp} {Fz Fz' : Addr → Prop} {H H' : Hp} {σ : L2.St} {m : Ms} {v : V} {x : PyData}
theorem SV.vw (h : Rs K B Fz H σ m) (s : SV K Fz H σ m v x) : Vw K Fz H v x := by
  rcases s with s | ⟨i, xs, e1, e2, rfl⟩
  · exact .rp s
  · obtain ⟨a, vs, e, q1, q2, _⟩ := h.getL e2
    rw [e1] at e; cases e
    exact .own q1 q2
theorem SV.le (l : Le Fz H Fz' H') (s : SV K Fz H σ m v x) : SV K Fz' H' σ m v x := s.imp (Rp.mono l) id
theorem Vw.dp (h : Vw K Fz H v x) : Dp K H v x := by
  cases h with
  | rp r => exact r.dp
  | own e r => exact .lst (.inl (.inl e)) r.dp
theorem Vw.plain (h : Vw K Fz H v x) : x.plain = true := by
  cases h with
  | rp r => exact r.plain
  | own e r => simp only [PyData.plain]; exact r.plain
theorem Vw.int {i : Int} (h : Vw K Fz H v (.int i)) : v = .int i := by
  cases h with | rp r => cases r; rfl
theorem Vw.bool {b : Bool} (h : Vw K Fz H v (.bool b)) : v = .bl b := by
  cases h with | rp r => cases r; rfl
theorem Vw.str {s : Str} (h : Vw K Fz H v (.str s)) : v = .str s := by
  cases h with | rp r => cases r; rfl
theorem Vw.non (h : Vw K Fz H v .none) : v = .non := by
  cases h with | rp r => cases r; rfl
theorem Vw.list {xs : List PyData} (h : Vw K Fz H v (.list xs)) : ∃ a vs, v = .ref a ∧ H a = some (.lst vs) ∧ RpAll K Fz H vs xs := by
  cases h with
  | rp r => cases r with | lst f e r => exact ⟨_, _, rfl, e, r⟩
  | own e r => exact ⟨_, _, rfl, e, r⟩
theorem Rp.tupE {xs : List PyData} (h : Rp K Fz H v (.tuple xs)) : ∃ a vs, v = .ref a ∧ SqT K H a vs ∧ RpAll K Fz H vs xs := by
  cases h with
  | tup e r => exact ⟨_, _, rfl, .inl (.inl e), r⟩
  | tupK e _ r => exact ⟨_, _, rfl, e _, r⟩
theorem Vw.tupR {xs : List PyData} (h : Vw K Fz H v (.tuple xs)) : Rp K Fz H v (.tuple xs) := by
  cases h with
  | rp r => exact r
theorem Vw.tup {xs : List PyData} (h : Vw K Fz H v (.tuple xs)) : ∃ a vs, v = .ref a ∧ SqT K H a vs ∧ RpAll K Fz H vs xs := by
  cases h with
  | rp r => cases r with
    | tup e r => exact ⟨_, _, rfl, .inl (.inl e), r⟩
    | tupK e _ r => exact ⟨_, _, rfl, e _, r⟩
end

/-! ### the judgement -/
/-- R: what is known of the value and the state behind the expression; Wx: what is wanted of an exception -/
def tG {α : Type} (K : PySem.W.Frag) (ct : CT) (Wx : WX) (R : Hp → (Addr → Prop) → Hp → L2.St → Ms → V → α → Prop) (f : Ms → Rz α) : TE := fun σ H Q => ∃ B Fz m, Rs K B Fz H σ m ∧
  match f m with
  | .st => False
  | .ok a => ∀ v H' Fz', Ext B Fz Fz' → R B Fz' H' σ m v a → Q v H'
  | .ex c => ∀ H' Fz', Ext B Fz Fz' → Rs K B Fz' H' σ m → Wx (ct c) Option.none σ H'
def rE (K : PySem.W.Frag) : Hp → (Addr → Prop) → Hp → L2.St → Ms → V → W → Prop := fun B Fz H σ m v w => Rs K B Fz H (some v :: σ) (some w :: m)
def rV (K : PySem.W.Frag) : Hp → (Addr → Prop) → Hp → L2.St → Ms → V → PyData → Prop := fun B Fz H σ m v x => Rs K B Fz H σ m ∧ Rp K Fz H v x
def rR (K : PySem.W.Frag) : Hp → (Addr → Prop) → Hp → L2.St → Ms → V → PyData → Prop := fun B Fz H σ m v x => Rs K B Fz H σ m ∧ SV K Fz H σ m v x
abbrev tE (K : PySem.W.Frag) (ct : CT) (Wx : WX) (f : Ms → Rz W) : TE := tG K ct Wx (rE K) f
abbrev tV (K : PySem.W.Frag) (ct : CT) (Wx : WX) (f : Ms → Rz PyData) : TE := tG K ct Wx (rV K) f
abbrev tR (K : PySem.W.Frag) (ct : CT) (Wx : WX) (f : Ms → Rz PyData) : TE := tG K ct Wx (rR K) f
structure DE (X : Cx) (ct : CT) (Wx : WX) (e : Expr) (f : Ms → Rz W) : Prop where
  pe : PE X e (tE X.K ct Wx f)
structure DV (X : Cx) (ct : CT) (Wx : WX) (e : Expr) (f : Ms → Rz PyData) : Prop where
  pe : PE X e (tV X.K ct Wx f)
structure DR (X : Cx) (ct : CT) (Wx : WX) (e : Expr) (f : Ms → Rz PyData) : Prop where
  pe : PE X e (tR X.K ct Wx f)
theorem PE_imp {X : Cx} {e : Expr} {t t' : TE} (h : PE X e t) (q : ∀ σ H Q, t' σ H Q → t σ H Q) : PE X e t' := ⟨fun pins s σ H Q I w => h.run pins s σ H Q I (q _ _ _ w)⟩
section
variable {X : Cx} {ct : CT} {Wx : WX} {e a b : Expr} {pos : Pos}
/-- a value given up is data -/
def toV (f : Ms → Rz W) : Ms → Rz PyData := fun m => (f m).bind fun w => match w with
  | .d x => .ok x
  | .l xs => .ok (.list xs)
  | _ => .st
def ofV (f : Ms → Rz PyData) : Ms → Rz W := fun m => (f m).map W.d
theorem DE.v {f : Ms → Rz W} (h : DE X ct Wx e f) : DV X ct Wx e (toV f) := ⟨PE_imp h.pe fun σ H Q ⟨B, Fz, m, r, q⟩ => by
  refine ⟨B, Fz, m, r, ?_⟩
  unfold toV at q
  cases hf : f m with
  | st => rw [hf] at q; exact q
  | ex c => rw [hf] at q; exact q
  | ok w =>
    rw [hf] at q
    cases w with
    | d x => exact fun v H' Fz' e r' => q v H' Fz' e ⟨r'.pop, r'.top⟩
    | l xs =>
      intro v H' Fz' e r'
      obtain ⟨F2, e2, r2⟩ := Rs.frzTop r'
      exact q v H' F2 (e.trans e2) ⟨r2.pop, r2.top⟩
    | _ => exact q.elim⟩
theorem DV.rd {f : Ms → Rz PyData} (h : DV X ct Wx e f) : DR X ct Wx e f := ⟨PE_imp h.pe fun σ H Q ⟨B, Fz, m, r, q⟩ => by
  refine ⟨B, Fz, m, r, ?_⟩
  cases hf : f m with
  | st => rw [hf] at q; exact q
  | ex c => rw [hf] at q; exact q
  | ok w => rw [hf] at q; exact fun v H' Fz' e r' => q v H' Fz' e ⟨r'.1, Or.inl r'.2⟩⟩
theorem DE.rd {f : Ms → Rz W} (h : DE X ct Wx e f) : DR X ct Wx e (toV f) := h.v.rd
theorem DV.toE {f : Ms → Rz PyData} (h : DV X ct Wx e f) : DE X ct Wx e (ofV f) := ⟨PE_imp h.pe fun σ H Q ⟨B, Fz, m, r, q⟩ => by
  refine ⟨B, Fz, m, r, ?_⟩
  unfold ofV at q
  cases hf : f m with
  | st => rw [hf] at q; exact q
  | ex c => rw [hf] at q; exact q
  | ok w => rw [hf] at q; exact fun v H' Fz' e r' => q v H' Fz' e (r'.1.push r'.2)⟩

/-- one after another: a read value -/
theorem tR_then {K : PySem.W.Frag} {f : Ms → Rz PyData} {B : Hp} {Fz : Addr → Prop} {σ : L2.St} {m : Ms} {H : Hp} {Q : VK} (h : Rs K B Fz H σ m)
    (hk : match f m with
      | .st => False
      | .ok x => ∀ v H' Fz', Ext B Fz Fz' → Rs K B Fz' H' σ m → Le Fz H Fz' H' → SV K Fz' H' σ m v x → Q v H'
      | .ex c => ∀ H' Fz', Ext B Fz Fz' → Rs K B Fz' H' σ m → Wx (ct c) Option.none σ H') : tR K ct Wx f σ H Q := by
  obtain ⟨B2, h2, he, ht⟩ := h.step
  refine ⟨B2, Fz, m, h2, ?_⟩
  cases hf : f m with
  | st => rw [hf] at hk; exact hk
  | ex c => rw [hf] at hk; exact fun H' Fz' e r => hk H' Fz' (he _ e) (ht (ρ := []) (r := []) e r rfl).1
  | ok x =>
    rw [hf] at hk
    intro v H' Fz' e ⟨r, s⟩
    obtain ⟨r', l⟩ := ht (ρ := []) (r := []) e r rfl
    exact hk v H' Fz' (he _ e) r' l s
theorem tV_then {K : PySem.W.Frag} {f : Ms → Rz PyData} {B : Hp} {Fz : Addr → Prop} {σ : L2.St} {m : Ms} {H : Hp} {Q : VK} (h : Rs K B Fz H σ m)
    (hk : match f m with
      | .st => False
      | .ok x => ∀ v H' Fz', Ext B Fz Fz' → Rs K B Fz' H' σ m → Le Fz H Fz' H' → Rp K Fz' H' v x → Q v H'
      | .ex c => ∀ H' Fz', Ext B Fz Fz' → Rs K B Fz' H' σ m → Wx (ct c) Option.none σ H') : tV K ct Wx f σ H Q := by
  obtain ⟨B2, h2, he, ht⟩ := h.step
  refine ⟨B2, Fz, m, h2, ?_⟩
  cases hf : f m with
  | st => rw [hf] at hk; exact hk
  | ex c => rw [hf] at hk; exact fun H' Fz' e r => hk H' Fz' (he _ e) (ht (ρ := []) (r := []) e r rfl).1
  | ok x =>
    rw [hf] at hk
    intro v H' Fz' e ⟨r, s⟩
    obtain ⟨r', l⟩ := ht (ρ := []) (r := []) e r rfl
    exact hk v H' Fz' (he _ e) r' l s
def ofO {α : Type} : Option α → Rz α
  | some a => .ok a
  | none => .st
@[simp] theorem ofO_some {α : Type} (a : α) : ofO (some a) = .ok a := rfl
@[simp] theorem ofO_none {α : Type} : ofO (none : Option α) = .st := rfl

/-! ### names and constants -/
def vVar (i : Nat) : Ms → Rz PyData := fun m => match m[i]? with
  | some (some (.d x)) => .ok x
  | _ => .st
def rVar (i : Nat) : Ms → Rz PyData := fun m => match m[i]? with
  | some (some (.d x)) => .ok x
  | some (some (.l xs)) => .ok (.list xs)
  | _ => .st
def vC (x : PyData) : Ms → Rz PyData := fun _ => .ok x
theorem vVar_ok {i : Nat} {m : Ms} {x : PyData} (h : vVar i m = .ok x) : m[i]? = some (some (.d x)) := by
  unfold vVar at h
  split at h
  · rename_i y z
    cases h; exact z
  · cases h
theorem vVar_ex {i : Nat} {m : Ms} {c : Nat} : vVar i m ≠ .ex c := by
  unfold vVar
  split <;> (intro h; cases h)
theorem rVar_ok {i : Nat} {m : Ms} {x : PyData} (h : rVar i m = .ok x) : m[i]? = some (some (.d x)) ∨ ∃ xs, m[i]? = some (some (.l xs)) ∧ x = .list xs := by
  unfold rVar at h
  split at h
  · rename_i y z
    cases h; exact .inl z
  · rename_i y z
    cases h; exact .inr ⟨_, z, rfl⟩
  · cases h
theorem rVar_ex {i : Nat} {m : Ms} {c : Nat} : rVar i m ≠ .ex c := by
  unfold rVar
  split <;> (intro h; cases h)
section
variable {x : Str}
theorem dv_var (i : Nat) (hN : X.N[i]? = some x := by rfl) (hv : Vis X.env.scope x := by first | exact Or.inl rfl | exact Or.inr (Or.inl rfl) | exact Or.inr (Or.inr rfl)) (hd : (x == ("__debug__" : Str)) = false := by decide)
    (hcd : (x == ("__classdict__" : Str)) = false := by decide) : DV X ct Wx (.Name x pos) (vVar i) := ⟨PE_imp (pe_var hN hv hd hcd) fun σ H Q ⟨B, Fz, m, r, q⟩ => by
  cases hf : vVar i m with
  | st => rw [hf] at q; exact q.elim
  | ex c => exact absurd hf vVar_ex
  | ok y =>
    rw [hf] at q
    obtain ⟨v, h1, h2⟩ := r.get (vVar_ok hf)
    exact ⟨v, h1, q v H Fz .refl ⟨r, h2⟩⟩⟩
theorem dr_var (i : Nat) (hN : X.N[i]? = some x := by rfl) (hv : Vis X.env.scope x := by first | exact Or.inl rfl | exact Or.inr (Or.inl rfl) | exact Or.inr (Or.inr rfl)) (hd : (x == ("__debug__" : Str)) = false := by decide)
    (hcd : (x == ("__classdict__" : Str)) = false := by decide) : DR X ct Wx (.Name x pos) (rVar i) := ⟨PE_imp (pe_var hN hv hd hcd) fun σ H Q ⟨B, Fz, m, r, q⟩ => by
  cases hf : rVar i m with
  | st => rw [hf] at q; exact q.elim
  | ex c => exact absurd hf rVar_ex
  | ok y =>
    rw [hf] at q
    rcases rVar_ok hf with e | ⟨xs, e, rfl⟩
    · obtain ⟨v, h1, h2⟩ := r.get e
      exact ⟨v, h1, q v H Fz .refl ⟨r, Or.inl h2⟩⟩
    · obtain ⟨a, vs, h1, h2, h3, _⟩ := r.getL e
      exact ⟨_, h1, q _ H Fz .refl ⟨r, Or.inr ⟨i, xs, h1, e, rfl⟩⟩⟩⟩
end
theorem dv_c {t : V} {x : PyData} (h : PE X e (tC t)) (r : ∀ Fz H, Rp X.K Fz H t x) : DV X ct Wx e (vC x) := ⟨PE_imp h fun σ H Q ⟨B, Fz, m, s, q⟩ => q t H Fz .refl ⟨s, r _ _⟩⟩
theorem dv_int {i : Int} {j pos} : DV X ct Wx (.Constant (.int i) j pos) (vC (.int i)) := dv_c pe_int fun _ _ => .int i
theorem dv_bl {i : Bool} {j pos} : DV X ct Wx (.Constant (.bool i) j pos) (vC (.bool i)) := dv_c pe_bl fun _ _ => .bl i
theorem dv_non {j pos} : DV X ct Wx (.Constant .none j pos) (vC .none) := dv_c pe_non fun _ _ => .non
theorem dv_str {i : Str} {j pos} : DV X ct Wx (.Constant (.str i) j pos) (vC (.str i)) := dv_c pe_str fun _ _ => .str i
/-- a constant of the module -/
def GlC (K : PySem.W.Frag) (mg : Str → Option Value) (x : Str) (d : PyData) : Prop := ∃ v u, mg x = some u ∧ RelV v u ∧ ∀ Fz H, Rp K Fz H v d
theorem dv_glob {x : Str} {d : PyData} (h : GlC X.K X.mg x d) (hg : Gl X x := by rfl) (hd : (x == ("__debug__" : Str)) = false := by decide) : DV X ct Wx (.Name x pos) (vC d) := by
  obtain ⟨v, u, h1, h2, h3⟩ := h
  exact dv_c (pe_glob hg h1 h2 hd) h3

/-! ### two operands -/
def e2 (g : PyData → PyData → Option W) (f1 f2 : Ms → Rz PyData) : Ms → Rz W := fun m => (f1 m).bind fun x => (f2 m).bind fun y => ofO (g x y)
def e1 (g : PyData → Option W) (f : Ms → Rz PyData) : Ms → Rz W := fun m => (f m).bind fun x => ofO (g x)
/-- a rule by values does what g says -/
def OpOk (K : PySem.W.Frag) (r : R2) (g : PyData → PyData → Option W) : Prop :=
  ∀ {B : Hp} {Fz : Addr → Prop} {H : Hp} {σ : L2.St} {m : Ms} {v u : V} {x y : PyData} {w : W} {Q : VK}, Rs K B Fz H σ m → Vw K Fz H v x → Vw K Fz H u y → g x y = some w →
    (∀ v' H', Rs K B Fz H' (some v' :: σ) (some w :: m) → Q v' H') → r v u H Q
theorem op2 {r : R2} {g : PyData → PyData → Option W} {fa fb : Ms → Rz PyData} (hg : OpOk X.K r g) {σ : L2.St} {H : Hp} {Q : VK} (q : tE X.K ct Wx (e2 g fa fb) σ H Q) : tOp r (tR X.K ct Wx fa) (tR X.K ct Wx fb) σ H Q := by
  obtain ⟨B, Fz, m, h, q⟩ := q
  unfold e2 at q
  refine tR_then h ?_
  cases ha : fa m with
  | st => rw [ha] at q; exact q
  | ex c => rw [ha] at q; exact q
  | ok x =>
    intro v H1 Fz1 x1 h1 l1 s1
    rw [ha, Rz.bind_ok] at q
    refine tR_then h1 ?_
    cases hb : fb m with
    | st => rw [hb] at q; exact q
    | ex c => rw [hb] at q; exact fun H' Fz' x2 r2 => q H' Fz' (x1.trans x2) r2
    | ok y =>
      intro u H2 Fz2 x2 h2 l2 s2
      rw [hb, Rz.bind_ok] at q
      cases hw : g x y with
      | none => rw [hw] at q; exact q.elim
      | some w =>
        rw [hw] at q
        exact hg h2 ((s1.le l2).vw h2) (s2.vw h2) hw fun v' H' r => q v' H' Fz2 (x1.trans x2) r
theorem de_op {op : Operator} {r : R2} {g : PyData → PyData → Option W} {fa fb : Ms → Rz PyData} (ho : OpR X (binaryOp op) r) (hg : OpOk X.K r g) (ha : DR X ct Wx a fa) (hb : DR X ct Wx b fb) : DE X ct Wx (.BinOp a op b pos) (e2 g fa fb) :=
  ⟨PE_imp (pe_op ho ha.pe hb.pe) fun _ _ _ q => op2 hg q⟩
/-- by cases of the data -/
theorem OpOk.imm {K : PySem.W.Frag} {B : Hp} {Fz : Addr → Prop} {H : Hp} {σ : L2.St} {m : Ms} {v : V} {x : PyData} {Q : VK} (h : Rs K B Fz H σ m) (r : Rp K Fz H v x) (q : ∀ v' H', Rs K B Fz H' (some v' :: σ) (some (.d x) :: m) → Q v' H') : Q v H := q v H (h.push r)
end
end Dl
set_option Elab.async false
set_option linter.all false
set_option maxRecDepth 100000
/-! D3: operators by data. -/
namespace Dl
open PySem PySem.Spec PyProof.Rows L2

/-! ### what operators give -/
def addD : PyData → PyData → Option W
  | .int i, .int j => some (.d (.int (i + j)))
  | .tuple a, .tuple b => if a.length + b.length ≤ 16000000 then some (.d (.tuple (a ++ b))) else none
  | .list a, .list b => if a.length + b.length ≤ 16000000 then some (.l (a ++ b)) else none
  | .str a, .str b => if a.length + b.length ≤ 16000000 then some (.d (.str (a ++ b))) else none
  | _, _ => none
def subD : PyData → PyData → Option W
  | .int i, .int j => some (.d (.int (i - j)))
  | _, _ => none
def smallI (i : Int) : Prop := -(2 ^ 64) < i ∧ i < 2 ^ 64
instance (i : Int) : Decidable (smallI i) := by unfold smallI; infer_instance
def mulD : PyData → PyData → Option W
  | .int i, .int j => if smallI i ∨ smallI j then some (.d (.int (i * j))) else none
  | .list a, .int k => if (-1000000 ≤ k ∧ k ≤ 1000000) ∧ a.length * k.toNat ≤ 16000000 then some (.l (List.replicate k.toNat a).flatten) else none
  | .tuple a, .int k => if (-1000 ≤ k ∧ k ≤ 1000) ∧ a.length ≤ 1000 then some (.d (.tuple (List.replicate k.toNat a).flatten)) else none
  | _, _ => none
def divD : PyData → PyData → Option W
  | .int i, .int j => if 0 < j ∧ j < 1073741824 then some (.d (.int (i / j))) else none
  | _, _ => none
def modD : PyData → PyData → Option W
  | .int i, .int j => if 0 < j then some (.d (.int (i % j))) else none
  | _, _ => none
def powD : PyData → PyData → Option W
  | .int i, .int j => if 0 ≤ j ∧ j ≤ 1000000 ∧ i.natAbs < 2 ^ 64 then some (.d (.int (i ^ j.toNat))) else none
  | _, _ => none
theorem sz_le : (16000000 : Nat) ≤ sizeLine := by rw [sizeLine_eq]; decide
section
variable {X : Cx}
/-! ### the rules by values -/
def rStrCat : R2 := fun x y H Q => ∃ i j, x = .str i ∧ y = .str j ∧ i.length + j.length ≤ sizeLine ∧ Q (.str (i ++ j)) H
def rAddD (K : PySem.W.Frag) : R2 := fun x y H Q => rI0 (fun i j => .int (i + j)) x y H Q ∨ (rCatA K x y H Q ∨ (rCat x y H Q ∨ rStrCat x y H Q))
theorem op_addD : OpR X (binaryOp .Add) (rAddD X.K) := op_add.or (op_catA.or (op_cat.or op_add_str))
theorem ok_addD {K : PySem.W.Frag} : OpOk K (rAddD K) addD := by
  intro B Fz H σ m v u x y w Q h a b e q
  unfold addD at e
  split at e
  · cases e
    exact .inl ⟨_, _, a.int, b.int, q _ _ (h.push (.int _))⟩
  · split at e
    · rename_i hz
      cases e
      have ra := a.tupR
      have rb := b.tupR
      obtain ⟨p, vs, rfl, s1, r1⟩ := a.tup
      obtain ⟨p', us, rfl, s2, r2⟩ := b.tup
      refine .inr (.inl ⟨p, p', vs, us, rfl, rfl, s1, s2, ?_, fun z => ?_, fun _ z => ?_, fun _ _ p hp => ?_⟩)
      · rw [r1.length, r2.length]; exact Nat.le_trans hz sz_le
      · subst z; cases r1
        exact q _ _ (h.push (by simpa using rb))
      · subst z; cases r2
        exact q _ _ (h.push (by simpa using ra))
      · exact q _ _ (h.newTup hp (r1.append r2))
    · cases e
  · split at e
    · rename_i hz
      cases e
      obtain ⟨p, vs, rfl, s1, r1⟩ := a.list
      obtain ⟨p', us, rfl, s2, r2⟩ := b.list
      refine .inr (.inr (.inl ⟨p, p', vs, us, rfl, rfl, s1, s2, ?_, fun p hp => ?_⟩))
      · rw [r1.length, r2.length]; exact Nat.le_trans hz sz_le
      · exact q _ _ (h.newLst hp (r1.append r2))
    · cases e
  · split at e
    · rename_i hz
      cases e
      exact .inr (.inr (.inr ⟨_, _, a.str, b.str, Nat.le_trans hz sz_le, q _ _ (h.push (.str _))⟩))
    · cases e
  · cases e
theorem ok_subD {K : PySem.W.Frag} : OpOk K (rI0 fun i j => .int (i - j)) subD := by
  intro B Fz H σ m v u x y w Q h a b e q
  unfold subD at e
  split at e
  · cases e
    exact ⟨_, _, a.int, b.int, q _ _ (h.push (.int _))⟩
  · cases e
theorem ok_divD {K : PySem.W.Frag} : OpOk K (rI CDiv fun i j => .int (i / j)) divD := by
  intro B Fz H σ m v u x y w Q h a b e q
  unfold divD at e
  split at e
  · split at e
    · rename_i hz
      cases e
      exact ⟨_, _, a.int, b.int, hz, q _ _ (h.push (.int _))⟩
    · cases e
  · cases e
theorem ok_modD {K : PySem.W.Frag} : OpOk K (rI (fun _ j => 0 < j) fun i j => .int (i % j)) modD := by
  intro B Fz H σ m v u x y w Q h a b e q
  unfold modD at e
  split at e
  · split at e
    · rename_i hz
      cases e
      exact ⟨_, _, a.int, b.int, hz, q _ _ (h.push (.int _))⟩
    · cases e
  · cases e
theorem ok_powD {K : PySem.W.Frag} : OpOk K (rI CPow fun i j => .int (i ^ j.toNat)) powD := by
  intro B Fz H σ m v u x y w Q h a b e q
  unfold powD at e
  split at e
  · split at e
    · rename_i hz
      cases e
      exact ⟨_, _, a.int, b.int, hz, q _ _ (h.push (.int _))⟩
    · cases e
  · cases e

/-! ### a tuple so many times -/
theorem tuple_mul_same (l : Addr) (items : Array Value) (n : Nat) (dd : Option Addr) (sl : Array (Option Value)) (x : Int) (u : Tok) (c0 : (decide (x < -(2 ^ 63)) || decide (x ≥ 2 ^ 63)) = false) (c1 : (items.isEmpty || x == 1) = true) :
    Meets (Builtin.«tuple.__mul__» ⟨[.ref l, .int x u], []⟩) (fun _ R s => s.heap.get? l = some { cls := .type "tuple", dict := dd, data := .seq items n, slots := sl } ∧ R (.ok (.ret (Value.ref l))) s) :=
  .of_wp fun prog w A R s h => by
    obtain ⟨hp, g, d, tk, os⟩ := s
    obtain ⟨hl, h⟩ := h
    have f1 := AutoSeq1.idx_int
    wp_walk using wpAny_loadPart' hl
    repeat (first
      | (refine wpAny_ite_false (decide_eq_false (by rw [c0]; exact Bool.false_ne_true)) ?_; wp_walk using wpAny_loadPart' hl)
      | (refine wpAny_ite_true (decide_eq_true c1) ?_; wp_walk using wpAny_loadPart' hl))
    exact ⟨_, rfl, h⟩
theorem tuple_mul_none (l : Addr) (items : Array Value) (n : Nat) (dd : Option Addr) (sl : Array (Option Value)) (x : Int) (u : Tok) (c0 : (decide (x < -(2 ^ 63)) || decide (x ≥ 2 ^ 63)) = false) (c1 : (items.isEmpty || x == 1) = false) (c2 : (decide (x ≤ 0) || items.isEmpty) = true) :
    Meets (Builtin.«tuple.__mul__» ⟨[.ref l, .int x u], []⟩) (fun _ R s => s.heap.get? l = some { cls := .type "tuple", dict := dd, data := .seq items n, slots := sl } ∧
      R (.ok (.ret (Value.ref s.heap.objs.size))) { s with heap := s.heap.push { cls := Value.type "tuple", data := Data.seq #[] } }) :=
  .of_wp fun prog w A R s h => by
    obtain ⟨hp, g, d, tk, os⟩ := s
    obtain ⟨hl, h⟩ := h
    have f1 := AutoSeq1.idx_int
    have hsz : (#[] : Array Value).size ≤ sizeLine := Nat.zero_le _
    wp_walk using wpAny_loadPart' hl
    repeat (first
      | (refine wpAny_ite_false (decide_eq_false (by rw [c0]; exact Bool.false_ne_true)) ?_; wp_walk using wpAny_loadPart' hl)
      | (refine wpAny_ite_false (decide_eq_false (by rw [c1]; exact Bool.false_ne_true)) ?_; wp_walk using wpAny_loadPart' hl)
      | (refine wpAny_ite_true (decide_eq_true c2) ?_; wp_walk using wpAny_loadPart' hl)
      | (refine wpAny_ite_false (decide_eq_false (Nat.not_lt.mpr hsz)) ?_; wp_walk using wpAny_loadPart' hl))
    exact ⟨_, rfl, h⟩
/-- a tuple times an int, any -/
def rRepA (K : PySem.W.Frag) : R2 := fun x y H Q => ∃ l k xs, x = .ref l ∧ y = .int k ∧ SqT K H l xs ∧ (-1000 ≤ k ∧ k ≤ 1000) ∧ xs.length ≤ 1000 ∧
  (xs = [] ∨ k = 1 → Q (.ref l) H) ∧ (¬ (xs = [] ∨ k = 1) → ∀ p, H p = none → Q (.ref p) (upd H p (.tup (List.replicate k.toNat xs).flatten)))
theorem op_repA : OpR X (binaryOp .Mult) (rRepA X.K) := by
  intro pins s σ H x y v u Q I rx ry h
  obtain ⟨l, k, xs, rfl, rfl, hT, ⟨h1, h2⟩, hz, q1, q2⟩ := h
  by_cases big : xs ≠ [] ∧ 2 ≤ k
  · exact op_repT pins s σ H _ _ v u Q I rx ry ⟨l, k, xs, rfl, rfl, hT, big.1, big.2, h2, hz, q2 fun z => z.elim big.1 fun z => by omega⟩
  · cases rx
    obtain ⟨t, rfl⟩ := ry
    obtain ⟨its, r, ⟨⟨cls, dd, data, sl⟩, ho, hc, n, hd⟩, hs⟩ := I.tuple hT
    simp only at hc hd
    subst hc hd
    have hle : its.length = xs.length := r.length.symm
    have he : its.toArray.isEmpty = decide (xs = []) := by
      cases its with
      | nil =>
        have : xs = [] := List.eq_nil_of_length_eq_zero hle.symm
        simp [this]
      | cons a b =>
        have : xs ≠ [] := fun z => by rw [z] at hle; simp at hle
        simp [this]
    have c0 : (decide (k < -(2 ^ 63)) || decide (k ≥ 2 ^ 63)) = false := by
      rw [decide_eq_false (by omega), decide_eq_false (by omega)] <;> rfl
    by_cases hk : xs = [] ∨ k = 1
    · have c1 : (its.toArray.isEmpty || k == 1) = true := by
        rw [he]
        rcases hk with z | z
        · simp [z]
        · simp [z]
      refine wpAny_binaryOp_repeat_ref (T := "tuple") (U := "int") (by decide) ⟨_, ho, rfl⟩ (fun s' => typeIs_int s' k t) noFill_tuple_mul PySem.F.fills_int_mul PySem.F.slot_int_rmul repeat_tuple PySem.F.slot_int_index.lookup
        (call_meets PySem.F.slot_int_rmul (typeIs_int s k t) PySem.F.entry_int_rmul (PySem.F.args_int_rmul_2 _ _) (int_rmul_tuple k t l its.toArray n dd sl)
          ⟨ho, rfl, ⟨_, ho, rfl⟩, call_meets PySem.F.slot_tuple_mul ⟨_, ho, rfl⟩ PySem.F.entry_tuple_mul (PySem.F.args_tuple_mul_2 _ _) (tuple_mul_same l its.toArray n dd sl k t c0 c1) ⟨ho, ?_⟩⟩)
      exact ⟨.ref l, H, I, rfl, q1 hk⟩
    · have hx : xs ≠ [] := fun z => hk (.inl z)
      have hk1 : k ≠ 1 := fun z => hk (.inr z)
      have hk0 : k ≤ 0 := by
        by_cases z : 2 ≤ k
        · exact absurd ⟨hx, z⟩ big
        · omega
      have c1 : (its.toArray.isEmpty || k == 1) = false := by
        rw [he, decide_eq_false hx, Bool.false_or]
        exact beq_eq_false_iff_ne.mpr hk1
      have c2 : (decide (k ≤ 0) || its.toArray.isEmpty) = true := by
        rw [decide_eq_true hk0] <;> rfl
      refine wpAny_binaryOp_repeat_ref (T := "tuple") (U := "int") (by decide) ⟨_, ho, rfl⟩ (fun s' => typeIs_int s' k t) noFill_tuple_mul PySem.F.fills_int_mul PySem.F.slot_int_rmul repeat_tuple PySem.F.slot_int_index.lookup
        (call_meets PySem.F.slot_int_rmul (typeIs_int s k t) PySem.F.entry_int_rmul (PySem.F.args_int_rmul_2 _ _) (int_rmul_tuple k t l its.toArray n dd sl)
          ⟨ho, rfl, ⟨_, ho, rfl⟩, call_meets PySem.F.slot_tuple_mul ⟨_, ho, rfl⟩ PySem.F.entry_tuple_mul (PySem.F.args_tuple_mul_2 _ _) (tuple_mul_none l its.toArray n dd sl k t c0 c1 c2) ⟨ho, ?_⟩⟩)
      have e0 : (List.replicate k.toNat xs).flatten = [] := by
        have : k.toNat = 0 := by omega
        rw [this] <;> rfl
      refine ⟨.ref s.heap.objs.size, upd H s.heap.objs.size (.tup (List.replicate k.toNat xs).flatten), I.laid (t' := s.toks) (fun b ob q => Heap.get?_push_of_some _ q) (Nat.le_refl _) ?_, rfl, q2 hk _ (I.hok.fresh (Nat.le_refl _))⟩
      rw [e0]
      exact ⟨Nat.zero_le _, [], .nil, IsTup.new _ _⟩
def rMulD (K : PySem.W.Frag) : R2 := fun x y H Q => rI CMul (fun i j => .int (i * j)) x y H Q ∨ (rRep x y H Q ∨ rRepA K x y H Q)
theorem op_mulD : OpR X (binaryOp .Mult) (rMulD X.K) := op_mul.or (op_rep.or op_repA)
theorem ok_mulD {K : PySem.W.Frag} : OpOk K (rMulD K) mulD := by
  intro B Fz H σ m v u x y w Q h a b e q
  unfold mulD at e
  split at e
  · split at e
    · rename_i hz
      cases e
      exact .inl ⟨_, _, a.int, b.int, hz, q _ _ (h.push (.int _))⟩
    · cases e
  · split at e
    · rename_i hz
      cases e
      obtain ⟨p, vs, rfl, s1, r1⟩ := a.list
      refine .inr (.inl ⟨p, _, vs, rfl, b.int, s1, by omega, by omega, ?_, fun p hp => ?_⟩)
      · rw [r1.length]; exact Nat.le_trans hz.2 sz_le
      · exact q _ _ (h.newLst hp (r1.rep _))
    · cases e
  · split at e
    · rename_i k hz
      cases e
      have ra := a.tupR
      obtain ⟨p, vs, rfl, s1, r1⟩ := a.tup
      refine .inr (.inr ⟨p, _, vs, rfl, b.int, s1, hz.1, by rw [r1.length]; exact hz.2, fun z => ?_, fun _ p hp => ?_⟩)
      · have e0 : (List.replicate k.toNat vs).flatten = vs := by
          rcases z with z | z
          · subst z
            induction k.toNat with
            | zero => rfl
            | succ n ih => rw [List.replicate_succ, List.flatten_cons, ih] <;> rfl
          · subst z
            simp
        have e1 : (List.replicate k.toNat _).flatten = _ := RpAll.repL e0 r1
        rw [e1] at q
        exact q _ _ (h.push ra)
      · exact q _ _ (h.newTup hp (r1.rep _))
    · cases e
  · cases e

/-! ### comparisons -/
def eqD : PyData → PyData → Option Bool := fun x y => if min x.depth y.depth ≤ 100 then some (PyData.eqv x y) else none
def neD : PyData → PyData → Option Bool := fun x y => if min x.depth y.depth ≤ 100 then some (!PyData.eqv x y) else none
def isNoneD : PyData → Bool
  | .none => true
  | _ => false
theorem isNoneD_iff {x : PyData} : isNoneD x = false ↔ x ≠ .none := by cases x <;> simp [isNoneD]
/-- may be ordered: ints, or data of one shape -/
def canLt : PyData → PyData → Bool
  | .int _, .int _ => true
  | x, y => PySem.W.alike x y && !isNoneD x && decide (min x.depth y.depth ≤ 100)
def ltB : PyData → PyData → Bool
  | .int i, .int j => decide (i < j)
  | x, y => PySem.W.dataLt x y
def ltD (x y : PyData) : Option Bool := if canLt x y = true then some (ltB x y) else none
def gtD (x y : PyData) : Option Bool := ltD y x
def leD (x y : PyData) : Option Bool := (gtD x y).map not
def geD (x y : PyData) : Option Bool := (ltD x y).map not
def isD : PyData → PyData → Option Bool
  | x, .none => some (isNoneD x)
  | .bool a, .bool b => some (a == b)
  | .none, .bool _ => some false
  | .int _, .bool _ => some false
  | .tuple _, .bool _ => some false
  | .list _, .bool _ => some false
  | .str _, .bool _ => some false
  | _, _ => none
def isnotD (x y : PyData) : Option Bool := (isD x y).map not
def inD (x : PyData) : PyData → Option Bool
  | .list xs => if min x.depth (PyData.depthAll xs) ≤ 100 then some (xs.any fun y => PyData.eqv y x) else none
  | .tuple xs => if min x.depth (PyData.depthAll xs) ≤ 100 then some (xs.any fun y => PyData.eqv y x) else none
  | _ => none
def notInD (x y : PyData) : Option Bool := (inD x y).map not
/-- a comparison -/
def CmpOk (K : PySem.W.Frag) (r : R2) (g : PyData → PyData → Option Bool) : Prop :=
  ∀ {Fz : Addr → Prop} {H : Hp} {v u : V} {x y : PyData} {b : Bool} {Q : VK}, Vw K Fz H v x → Vw K Fz H u y → g x y = some b → Q (.bl b) H → r v u H Q
def rOf (P : V → V → Hp → Bool → Prop) : R2 := fun v u H Q => ∃ b, P v u H b ∧ Q (.bl b) H
def pEq (K : PySem.W.Frag) (g : PyData → PyData → Option Bool) : V → V → Hp → Bool → Prop := fun v u H b => ∃ x y, Dp K H v x ∧ Dp K H u y ∧ x.plain = true ∧ y.plain = true ∧ g x y = some b
theorem cmpOk_of {K : PySem.W.Frag} {g : PyData → PyData → Option Bool} : CmpOk K (rOf (pEq K g)) g := fun a b e q => ⟨_, ⟨_, _, a.dp, b.dp, a.plain, b.plain, e⟩, q⟩
/-- from a rule of the model over data -/
theorem op_of {op : CmpOp} {g : PyData → PyData → Option Bool} (h : ∀ (s : Shared) (v u : Value) (x y : PyData) (as bs : List Addr) (b : Bool) (Q : Value → Shared → Prop) (E : Value → Shared → Prop), Reads s.heap v x as → Reads s.heap u y bs →
    x.plain = true → y.plain = true → g x y = some b → (∀ tk, Q (.bool b) { s with toks := tk }) → wpAny (model X.prog X.w) X.A (compareOp op v u) Q E s) : OpR X (compareOp op) (rOf (pEq X.K g)) := by
  intro pins s σ H x y v u Q I rx ry hh
  obtain ⟨b, ⟨dx, dy, a1, a2, p1, p2, e⟩, q⟩ := hh
  obtain ⟨as, r1⟩ := Dp.reads I dx x v a1 rx
  obtain ⟨bs, r2⟩ := Dp.reads I dy y u a2 ry
  exact h s v u dx dy as bs b _ _ r1 r2 p1 p2 e fun tk => ⟨.bl b, H, I.tok tk, rfl, q⟩
theorem op_eqG (hu : X.A.units + 101 < cLine) : OpR X (compareOp .Eq) (rOf (pEq X.K eqD)) := op_of fun s v u x y as bs b Q E r1 r2 p1 p2 e q => by
  unfold eqD at e
  split at e
  · cases e
    exact PySem.SeqAt.eq_plain r1 r2 p1 p2 (by omega) (q s.toks)
  · cases e
theorem op_neG (hu : X.A.units + 101 < cLine) : OpR X (compareOp .NotEq) (rOf (pEq X.K neD)) := op_of fun s v u x y as bs b Q E r1 r2 p1 p2 e q => by
  unfold neD at e
  split at e
  · cases e
    exact PySem.SeqAt.ne_plain r1 r2 p1 p2 (by omega) (q s.toks)
  · cases e
theorem canLt_cases {x y : PyData} (h : canLt x y = true) : (∃ i j, x = .int i ∧ y = .int j ∧ ltB x y = decide (i < j)) ∨ (PySem.W.alike x y = true ∧ x ≠ .none ∧ min x.depth y.depth ≤ 100 ∧ ltB x y = PySem.W.dataLt x y) := by
  unfold canLt at h
  split at h
  · exact .inl ⟨_, _, rfl, rfl, rfl⟩
  · rename_i hn
    simp only [Bool.and_eq_true, decide_eq_true_eq, Bool.not_eq_true'] at h
    refine .inr ⟨h.1.1, isNoneD_iff.mp h.1.2, h.2, ?_⟩
    unfold ltB
    split
    · exact absurd rfl (hn _ _ rfl)
    · rfl
theorem ints_of {h : Heap} {v : Value} {i : Int} {as : List Addr} (r : Reads h v (.int i) as) : ∃ t, v = .int i t := by
  cases r with | int _ t => exact ⟨t, rfl⟩
theorem op_ltG (hu : X.A.units + 101 < cLine) : OpR X (compareOp .Lt) (rOf (pEq X.K ltD)) := op_of fun s v u x y as bs b Q E r1 r2 p1 p2 e q => by
  unfold ltD at e
  split at e
  · rename_i hc
    cases e
    rcases canLt_cases hc with ⟨i, j, rfl, rfl, e⟩ | ⟨h1, h2, h3, e⟩
    · obtain ⟨t, rfl⟩ := ints_of r1
      obtain ⟨t', rfl⟩ := ints_of r2
      rw [e] at q
      exact lt_int (q s.toks)
    · rw [e] at q
      exact PySem.W.lt_data r1 r2 h1 h2 (by omega) (q s.toks)
  · cases e
theorem op_gtG (hu : X.A.units + 101 < cLine) : OpR X (compareOp .Gt) (rOf (pEq X.K gtD)) := op_of fun s v u x y as bs b Q E r1 r2 p1 p2 e q => by
  unfold gtD ltD at e
  split at e
  · rename_i hc
    cases e
    rcases canLt_cases hc with ⟨i, j, rfl, rfl, e⟩ | ⟨h1, h2, h3, e⟩
    · obtain ⟨t, rfl⟩ := ints_of r1
      obtain ⟨t', rfl⟩ := ints_of r2
      rw [e] at q
      exact gt_int (q s.toks)
    · rw [e] at q
      have h1' := (PySem.W.alike_comm y x).symm.trans h1
      exact PySem.W.gt_data r1 r2 h1' (PySem.W.ne_none_both h1 h2) (by omega) (q s.toks)
  · cases e
theorem op_leG (hu : X.A.units + 101 < cLine) : OpR X (compareOp .LtE) (rOf (pEq X.K leD)) := op_of fun s v u x y as bs b Q E r1 r2 p1 p2 e q => by
  unfold leD gtD ltD at e
  split at e
  · rename_i hc
    cases e
    rcases canLt_cases hc with ⟨i, j, rfl, rfl, e⟩ | ⟨h1, h2, h3, e⟩
    · obtain ⟨t, rfl⟩ := ints_of r1
      obtain ⟨t', rfl⟩ := ints_of r2
      rw [e] at q
      have z : (!decide (i < j)) = decide (j ≤ i) := by
        by_cases c : i < j
        · rw [decide_eq_true c, decide_eq_false (by omega)] <;> rfl
        · rw [decide_eq_false c, decide_eq_true (by omega)] <;> rfl
      refine le_int ?_
      rw [← z]
      exact q s.toks
    · rw [e] at q
      have h1' := (PySem.W.alike_comm y x).symm.trans h1
      exact PySem.W.le_data r1 r2 h1' (PySem.W.ne_none_both h1 h2) (by omega) (q s.toks)
  · cases e
theorem op_geG (hu : X.A.units + 101 < cLine) : OpR X (compareOp .GtE) (rOf (pEq X.K geD)) := op_of fun s v u x y as bs b Q E r1 r2 p1 p2 e q => by
  unfold geD ltD at e
  split at e
  · rename_i hc
    cases e
    rcases canLt_cases hc with ⟨i, j, rfl, rfl, e⟩ | ⟨h1, h2, h3, e⟩
    · obtain ⟨t, rfl⟩ := ints_of r1
      obtain ⟨t', rfl⟩ := ints_of r2
      rw [e] at q
      have z : (!decide (i < j)) = decide (j ≤ i) := by
        by_cases c : i < j
        · rw [decide_eq_true c, decide_eq_false (by omega)] <;> rfl
        · rw [decide_eq_false c, decide_eq_true (by omega)] <;> rfl
      refine ge_int ?_
      rw [← z]
      exact q s.toks
    · rw [e] at q
      exact PySem.W.ge_data r1 r2 h1 h2 (by omega) (q s.toks)
  · cases e
end
end Dl
set_option Elab.async false
set_option linter.all false
set_option maxRecDepth 100000
/-! D4: comparisons, tests, and / or / not, conditional expressions, arguments, displays, subscripts, slices. -/
namespace Dl
open PySem PySem.Spec PyProof.Rows L2
def evalAllD : List (Ms → Rz PyData) → Ms → Rz (List PyData)
  | [], _ => .ok []
  | f :: fs, m => (f m).bind fun x => (evalAllD fs m).bind fun xs => .ok (x :: xs)
def tT (K : PySem.W.Frag) (ct : CT) (Wx : WX) (f : Ms → Rz Bool) : TT := fun σ H Q => ∃ B Fz m, Rs K B Fz H σ m ∧
  match f m with
  | .st => False
  | .ok b => ∀ H' Fz', Ext B Fz Fz' → Rs K B Fz' H' σ m → Q b H'
  | .ex c => ∀ H' Fz', Ext B Fz Fz' → Rs K B Fz' H' σ m → Wx (ct c) Option.none σ H'
structure DT (X : Cx) (ct : CT) (Wx : WX) (e : Expr) (f : Ms → Rz Bool) : Prop where
  pt : PT X e (tT X.K ct Wx f)
/-- a test in a row of and / or -/
structure DW (X : Cx) (ct : CT) (Wx : WX) (e : Expr) (f : Ms → Rz Bool) : Prop where
  pw : PW X e (tT X.K ct Wx f)
theorem PT_imp {X : Cx} {e : Expr} {t t' : TT} (h : PT X e t) (q : ∀ σ H Q, t' σ H Q → t σ H Q) : PT X e t' := ⟨fun pins s σ H Q I w => h.run pins s σ H Q I (q _ _ _ w)⟩
theorem PW_imp {X : Cx} {e : Expr} {t t' : TT} (h : PW X e t) (q : ∀ σ H Q, t' σ H Q → t σ H Q) : PW X e t' := ⟨fun wh pins s σ H Q I w => h.run wh pins s σ H Q I (q _ _ _ w)⟩
section
variable {X : Cx} {ct : CT} {Wx : WX} {e a b c : Expr} {pos : Pos}
theorem DW.t {f : Ms → Rz Bool} (h : DW X ct Wx e f) : DT X ct Wx e f := ⟨h.pw.pt⟩
theorem tT_then {K : PySem.W.Frag} {f : Ms → Rz Bool} {B : Hp} {Fz : Addr → Prop} {σ : L2.St} {m : Ms} {H : Hp} {Q : Bool → Hp → Prop} (h : Rs K B Fz H σ m)
    (hk : match f m with
      | .st => False
      | .ok x => ∀ H' Fz', Ext B Fz Fz' → Rs K B Fz' H' σ m → Le Fz H Fz' H' → Q x H'
      | .ex c => ∀ H' Fz', Ext B Fz Fz' → Rs K B Fz' H' σ m → Wx (ct c) Option.none σ H') : tT K ct Wx f σ H Q := by
  obtain ⟨B2, h2, he, ht⟩ := h.step
  refine ⟨B2, Fz, m, h2, ?_⟩
  cases hf : f m with
  | st => rw [hf] at hk; exact hk
  | ex c => rw [hf] at hk; exact fun H' Fz' e r => hk H' Fz' (he _ e) (ht (ρ := []) (r := []) e r rfl).1
  | ok x =>
    rw [hf] at hk
    intro H' Fz' e r
    obtain ⟨r', l⟩ := ht (ρ := []) (r := []) e r rfl
    exact hk H' Fz' (he _ e) r' l

/-! ### comparisons -/
def t2 (g : PyData → PyData → Option Bool) (f1 f2 : Ms → Rz PyData) : Ms → Rz Bool := fun m => (f1 m).bind fun x => (f2 m).bind fun y => ofO (g x y)
def v2 (g : PyData → PyData → Option Bool) (f1 f2 : Ms → Rz PyData) : Ms → Rz PyData := fun m => (t2 g f1 f2 m).map .bool
theorem cmp2 {r : R2} {g : PyData → PyData → Option Bool} {fa fb : Ms → Rz PyData} (hg : CmpOk X.K r g) {σ : L2.St} {H : Hp} {B : Hp} {Fz : Addr → Prop} {m : Ms} {Q : VK} (h : Rs X.K B Fz H σ m)
    (q : match t2 g fa fb m with
      | .st => False
      | .ok b => ∀ H' Fz', Ext B Fz Fz' → Rs X.K B Fz' H' σ m → Q (.bl b) H'
      | .ex c => ∀ H' Fz', Ext B Fz Fz' → Rs X.K B Fz' H' σ m → Wx (ct c) Option.none σ H') : tOp r (tR X.K ct Wx fa) (tR X.K ct Wx fb) σ H Q := by
  unfold t2 at q
  refine tR_then h ?_
  cases ha : fa m with
  | st => rw [ha] at q; exact q
  | ex c => rw [ha] at q; exact q
  | ok x =>
    intro v H1 Fz1 x1 h1 l1 s1
    rw [ha, Rz.bind_ok] at q
    refine tR_then h1 ?_
    cases hb : fb m with
    | st => rw [hb] at q; exact q
    | ex c => rw [hb] at q; exact fun H' Fz' x2 r2 => q H' Fz' (x1.trans x2) r2
    | ok y =>
      intro u H2 Fz2 x2 h2 l2 s2
      rw [hb, Rz.bind_ok] at q
      cases hw : g x y with
      | none => rw [hw] at q; exact q.elim
      | some w =>
        rw [hw] at q
        exact hg ((s1.le l2).vw h2) (s2.vw h2) hw (q H2 Fz2 (x1.trans x2) h2)
theorem dv_cmp {op : CmpOp} {r : R2} {g : PyData → PyData → Option Bool} {fa fb : Ms → Rz PyData} (ho : OpR X (compareOp op) r) (hg : CmpOk X.K r g) (ha : DR X ct Wx a fa) (hb : DR X ct Wx b fb) (hm : behindInMarks op b = false) :
    DV X ct Wx (.Compare a [op] [b] pos) (v2 g fa fb) := ⟨PE_imp (pe_cmpR ho ha.pe hb.pe hm) fun σ H Q ⟨B, Fz, m, h, q⟩ => by
  refine cmp2 hg h ?_
  unfold v2 at q
  cases ht : t2 g fa fb m with
  | st => rw [ht] at q; exact q
  | ex c => rw [ht] at q; exact q
  | ok b => rw [ht] at q; exact fun H' Fz' e r => q _ H' Fz' e ⟨r, .bl b⟩⟩
theorem dt_cmp {op : CmpOp} {r : R2} {g : PyData → PyData → Option Bool} {fa fb : Ms → Rz PyData} (ho : OpR X (compareOp op) r) (hg : CmpOk X.K r g) (ha : DR X ct Wx a fa) (hb : DR X ct Wx b fb) (hm : behindInMarks op b = false) :
    DT X ct Wx (.Compare a [op] [b] pos) (t2 g fa fb) := ⟨PT_imp (pt_cmpR ho ha.pe hb.pe hm) fun σ H Q ⟨B, Fz, m, h, q⟩ => by
  refine cmp2 hg h ?_
  cases ht : t2 g fa fb m with
  | st => rw [ht] at q; exact q
  | ex c => rw [ht] at q; exact q
  | ok b => rw [ht] at q; exact fun H' Fz' e r => ⟨b, rfl, q H' Fz' e r⟩⟩
/-- a < b < c -/
def t3 (g g' : PyData → PyData → Option Bool) (f1 f2 f3 : Ms → Rz PyData) : Ms → Rz Bool := fun m => (f1 m).bind fun x => (f2 m).bind fun y => (ofO (g x y)).bind fun b => if b = true then (f3 m).bind fun z => ofO (g' y z) else .ok false
def v3 (g g' : PyData → PyData → Option Bool) (f1 f2 f3 : Ms → Rz PyData) : Ms → Rz PyData := fun m => (t3 g g' f1 f2 f3 m).map .bool
theorem chain3 {r r' : R2} {g g' : PyData → PyData → Option Bool} {fa fb fc : Ms → Rz PyData} (hg : CmpOk X.K r g) (hg' : CmpOk X.K r' g') {σ : L2.St} {H : Hp} {B : Hp} {Fz : Addr → Prop} {m : Ms} {Q : VK} (h : Rs X.K B Fz H σ m)
    (q : match t3 g g' fa fb fc m with
      | .st => False
      | .ok b => ∀ H' Fz', Ext B Fz Fz' → Rs X.K B Fz' H' σ m → Q (.bl b) H'
      | .ex c => ∀ H' Fz', Ext B Fz Fz' → Rs X.K B Fz' H' σ m → Wx (ct c) Option.none σ H') : tChain r r' (tR X.K ct Wx fa) (tR X.K ct Wx fb) (tR X.K ct Wx fc) σ H Q := by
  unfold t3 at q
  refine tR_then h ?_
  cases ha : fa m with
  | st => rw [ha] at q; exact q
  | ex c => rw [ha] at q; exact q
  | ok x =>
    intro v H1 Fz1 x1 h1 l1 s1
    rw [ha, Rz.bind_ok] at q
    refine tR_then h1 ?_
    cases hb : fb m with
    | st => rw [hb] at q; exact q
    | ex c => rw [hb] at q; exact fun H' Fz' x2 r2 => q H' Fz' (x1.trans x2) r2
    | ok y =>
      intro u H2 Fz2 x2 h2 l2 s2
      rw [hb, Rz.bind_ok] at q
      cases hw : g x y with
      | none => rw [hw] at q; exact q.elim
      | some w =>
        rw [hw, ofO_some, Rz.bind_ok] at q
        refine hg ((s1.le l2).vw h2) (s2.vw h2) hw ⟨w, rfl, ?_⟩
        cases w with
        | false =>
          rw [if_neg Bool.false_ne_true] at q ⊢
          exact q H2 Fz2 (x1.trans x2) h2
        | true =>
          rw [if_pos rfl] at q ⊢
          refine tR_then h2 ?_
          cases hc : fc m with
          | st => rw [hc] at q; exact q
          | ex c => rw [hc] at q; exact fun H' Fz' x3 r3 => q H' Fz' ((x1.trans x2).trans x3) r3
          | ok z =>
            intro t H3 Fz3 x3 h3 l3 s3
            rw [hc, Rz.bind_ok] at q
            cases hw' : g' y z with
            | none => rw [hw'] at q; exact q.elim
            | some w =>
              rw [hw'] at q
              exact hg' ((s2.le l3).vw h3) (s3.vw h3) hw' (q H3 Fz3 ((x1.trans x2).trans x3) h3)
theorem dv_chain {op op' : CmpOp} {r r' : R2} {g g' : PyData → PyData → Option Bool} {fa fb fc : Ms → Rz PyData} (ho : OpR X (compareOp op) r) (ho' : OpR X (compareOp op') r') (hg : CmpOk X.K r g) (hg' : CmpOk X.K r' g') (ha : DR X ct Wx a fa) (hb : DR X ct Wx b fb) (hc : DR X ct Wx c fc)
    (hm : lastMarks [op, op'] [b, c] = false := by with_unfolding_all rfl) : DV X ct Wx (.Compare a [op, op'] [b, c] pos) (v3 g g' fa fb fc) := ⟨PE_imp (pe_chain ho ho' ha.pe hb.pe hc.pe hm) fun σ H Q ⟨B, Fz, m, h, q⟩ => by
  refine chain3 hg hg' h ?_
  unfold v3 at q
  cases ht : t3 g g' fa fb fc m with
  | st => rw [ht] at q; exact q
  | ex c => rw [ht] at q; exact q
  | ok b => rw [ht] at q; exact fun H' Fz' e r => q _ H' Fz' e ⟨r, .bl b⟩⟩
theorem dt_chain {op op' : CmpOp} {r r' : R2} {g g' : PyData → PyData → Option Bool} {fa fb fc : Ms → Rz PyData} (ho : OpR X (compareOp op) r) (ho' : OpR X (compareOp op') r') (hg : CmpOk X.K r g) (hg' : CmpOk X.K r' g') (ha : DR X ct Wx a fa) (hb : DR X ct Wx b fb) (hc : DR X ct Wx c fc)
    (hm : lastMarks [op, op'] [b, c] = false := by with_unfolding_all rfl) : DT X ct Wx (.Compare a [op, op'] [b, c] pos) (t3 g g' fa fb fc) := ⟨PT_imp (pt_chain ho ho' ha.pe hb.pe hc.pe hm) fun σ H Q ⟨B, Fz, m, h, q⟩ => by
  refine chain3 hg hg' h ?_
  cases ht : t3 g g' fa fb fc m with
  | st => rw [ht] at q; exact q
  | ex c => rw [ht] at q; exact q
  | ok b => rw [ht] at q; exact fun H' Fz' e r => ⟨b, rfl, q H' Fz' e r⟩⟩

/-! ### tests -/
def boolD : PyData → Rz Bool
  | .bool b => .ok b
  | _ => .st
def tV' (f : Ms → Rz PyData) : Ms → Rz Bool := fun m => (f m).bind boolD
/-- an expression whose value is True or False -/
theorem dt_val {f : Ms → Rz PyData} (h : DR X ct Wx e f) (he : ∀ whole, isTrue e X.env whole = (do let v ← whole; standAt e.pos; holding [v] (truthy v)) := by intro _; rfl) : DT X ct Wx e (tV' f) := ⟨PT_imp (pt_val h.pe he) fun σ H Q ⟨B, Fz, m, h, q⟩ => by
  unfold tV' at q
  refine tR_then h ?_
  cases hf : f m with
  | st => rw [hf] at q; exact q
  | ex c => rw [hf] at q; exact q
  | ok x =>
    intro v H1 Fz1 x1 h1 l1 s1
    rw [hf, Rz.bind_ok] at q
    cases x with
    | bool b => exact ⟨b, (s1.vw h1).bool, q H1 Fz1 x1 h1⟩
    | _ => exact q.elim⟩
def tAnd' (f g : Ms → Rz Bool) : Ms → Rz Bool := fun m => (f m).bind fun b => if b = true then g m else .ok false
def tOr' (f g : Ms → Rz Bool) : Ms → Rz Bool := fun m => (f m).bind fun b => if b = true then .ok true else g m
def tNot' (f : Ms → Rz Bool) : Ms → Rz Bool := fun m => (f m).map not
theorem dt_not {f : Ms → Rz Bool} (h : DT X ct Wx a f) : DT X ct Wx (.UnaryOp .Not a pos) (tNot' f) := ⟨PT_imp (pt_not h.pt) fun σ H Q ⟨B, Fz, m, h, q⟩ => by
  unfold tNot' at q
  refine tT_then h ?_
  cases hf : f m with
  | st => rw [hf] at q; exact q
  | ex c => rw [hf] at q; exact q
  | ok x => rw [hf] at q; exact fun H1 Fz1 x1 h1 l1 => q H1 Fz1 x1 h1⟩
theorem dw_and1 {f : Ms → Rz Bool} (h : DT X ct Wx a f) : DW X ct Wx (.BoolOp .And [a] pos) f := ⟨pw_and1 h.pt⟩
theorem dw_or1 {f : Ms → Rz Bool} (h : DT X ct Wx a f) : DW X ct Wx (.BoolOp .Or [a] pos) f := ⟨pw_or1 h.pt⟩
theorem dw_and {rest : List Expr} {f g : Ms → Rz Bool} (h : DT X ct Wx a f) (h2 : DW X ct Wx (.BoolOp .And (b :: rest) pos) g) : DW X ct Wx (.BoolOp .And (a :: b :: rest) pos) (tAnd' f g) := ⟨PW_imp (pw_and h.pt h2.pw) fun σ H Q ⟨B, Fz, m, h, q⟩ => by
  unfold tAnd' at q
  refine tT_then h ?_
  cases hf : f m with
  | st => rw [hf] at q; exact q
  | ex c => rw [hf] at q; exact q
  | ok x =>
    intro H1 Fz1 x1 h1 l1
    rw [hf, Rz.bind_ok] at q
    cases x with
    | false => exact q H1 Fz1 x1 h1
    | true =>
      rw [if_pos rfl] at q ⊢
      refine tT_then h1 ?_
      cases hg : g m with
      | st => rw [hg] at q; exact q
      | ex c => rw [hg] at q; exact fun H2 Fz2 x2 r2 => q H2 Fz2 (x1.trans x2) r2
      | ok y => rw [hg] at q; exact fun H2 Fz2 x2 r2 _ => q H2 Fz2 (x1.trans x2) r2⟩
theorem dw_or {rest : List Expr} {f g : Ms → Rz Bool} (h : DT X ct Wx a f) (h2 : DW X ct Wx (.BoolOp .Or (b :: rest) pos) g) : DW X ct Wx (.BoolOp .Or (a :: b :: rest) pos) (tOr' f g) := ⟨PW_imp (pw_or h.pt h2.pw) fun σ H Q ⟨B, Fz, m, h, q⟩ => by
  unfold tOr' at q
  refine tT_then h ?_
  cases hf : f m with
  | st => rw [hf] at q; exact q
  | ex c => rw [hf] at q; exact q
  | ok x =>
    intro H1 Fz1 x1 h1 l1
    rw [hf, Rz.bind_ok] at q
    cases x with
    | true => exact q H1 Fz1 x1 h1
    | false =>
      rw [if_neg Bool.false_ne_true] at q ⊢
      refine tT_then h1 ?_
      cases hg : g m with
      | st => rw [hg] at q; exact q
      | ex c => rw [hg] at q; exact fun H2 Fz2 x2 r2 => q H2 Fz2 (x1.trans x2) r2
      | ok y => rw [hg] at q; exact fun H2 Fz2 x2 r2 _ => q H2 Fz2 (x1.trans x2) r2⟩
/-- values: and, or (all but the last True or False), not -/
def vAnd (f g : Ms → Rz PyData) : Ms → Rz PyData := fun m => (f m).bind fun x => (boolD x).bind fun b => if b = true then g m else .ok (.bool false)
def vOr (f g : Ms → Rz PyData) : Ms → Rz PyData := fun m => (f m).bind fun x => (boolD x).bind fun b => if b = true then .ok (.bool true) else g m
def vNot (f : Ms → Rz PyData) : Ms → Rz PyData := fun m => (f m).bind fun x => (boolD x).map fun b => .bool (!b)
theorem dv_one {op} {f : Ms → Rz PyData} (h : DV X ct Wx a f) : DV X ct Wx (.BoolOp op [a] pos) f := ⟨pe_one h.pe⟩
theorem dv_and {rest : List Expr} {f g : Ms → Rz PyData} (h : DV X ct Wx a f) (h2 : DV X ct Wx (.BoolOp .And (b :: rest) pos) g) : DV X ct Wx (.BoolOp .And (a :: b :: rest) pos) (vAnd f g) := ⟨PE_imp (pe_and h.pe h2.pe) fun σ H Q ⟨B, Fz, m, h, q⟩ => by
  unfold vAnd at q
  refine tV_then h ?_
  cases hf : f m with
  | st => rw [hf] at q; exact q
  | ex c => rw [hf] at q; exact q
  | ok x =>
    intro v H1 Fz1 x1 h1 l1 r1
    rw [hf, Rz.bind_ok] at q
    cases x with
    | bool b =>
      cases r1
      refine ⟨b, rfl, ?_⟩
      have q : _ := q
      cases b with
      | false => exact q _ H1 Fz1 x1 ⟨h1, .bl false⟩
      | true =>
        rw [if_pos rfl]
        refine tV_then h1 ?_
        simp only [boolD, Rz.bind_ok, if_pos, if_neg, Bool.false_eq_true, if_false, if_true] at q
        cases hg : g m with
        | st => rw [hg] at q; exact q
        | ex c => rw [hg] at q; exact fun H2 Fz2 x2 r2 => q H2 Fz2 (x1.trans x2) r2
        | ok y => rw [hg] at q; exact fun v H2 Fz2 x2 r2 _ p => q v H2 Fz2 (x1.trans x2) ⟨r2, p⟩
    | _ => exact q.elim⟩
theorem dv_or {rest : List Expr} {f g : Ms → Rz PyData} (h : DV X ct Wx a f) (h2 : DV X ct Wx (.BoolOp .Or (b :: rest) pos) g) : DV X ct Wx (.BoolOp .Or (a :: b :: rest) pos) (vOr f g) := ⟨PE_imp (pe_or h.pe h2.pe) fun σ H Q ⟨B, Fz, m, h, q⟩ => by
  unfold vOr at q
  refine tV_then h ?_
  cases hf : f m with
  | st => rw [hf] at q; exact q
  | ex c => rw [hf] at q; exact q
  | ok x =>
    intro v H1 Fz1 x1 h1 l1 r1
    rw [hf, Rz.bind_ok] at q
    cases x with
    | bool b =>
      cases r1
      refine ⟨b, rfl, ?_⟩
      cases b with
      | true => exact q _ H1 Fz1 x1 ⟨h1, .bl true⟩
      | false =>
        rw [if_neg Bool.false_ne_true]
        refine tV_then h1 ?_
        simp only [boolD, Rz.bind_ok, if_pos, if_neg, Bool.false_eq_true, if_false, if_true] at q
        cases hg : g m with
        | st => rw [hg] at q; exact q
        | ex c => rw [hg] at q; exact fun H2 Fz2 x2 r2 => q H2 Fz2 (x1.trans x2) r2
        | ok y => rw [hg] at q; exact fun v H2 Fz2 x2 r2 _ p => q v H2 Fz2 (x1.trans x2) ⟨r2, p⟩
    | _ => exact q.elim⟩
theorem dv_not {f : Ms → Rz PyData} (h : DV X ct Wx a f) : DV X ct Wx (.UnaryOp .Not a pos) (vNot f) := ⟨PE_imp (pe_not h.pe) fun σ H Q ⟨B, Fz, m, h, q⟩ => by
  unfold vNot at q
  refine tV_then h ?_
  cases hf : f m with
  | st => rw [hf] at q; exact q
  | ex c => rw [hf] at q; exact q
  | ok x =>
    intro v H1 Fz1 x1 h1 l1 r1
    rw [hf, Rz.bind_ok] at q
    cases x with
    | bool b =>
      cases r1
      exact ⟨b, rfl, q _ H1 Fz1 x1 ⟨h1, .bl _⟩⟩
    | _ => exact q.elim⟩
def vIf (t : Ms → Rz Bool) (f g : Ms → Rz PyData) : Ms → Rz PyData := fun m => (t m).bind fun b => if b = true then f m else g m
theorem dv_if {t : Ms → Rz Bool} {f g : Ms → Rz PyData} (ht : DT X ct Wx c t) (hf : DV X ct Wx a f) (hg : DV X ct Wx b g) : DV X ct Wx (.IfExp c a b pos) (vIf t f g) := ⟨PE_imp (pe_ifExp ht.pt hf.pe hg.pe) fun σ H Q ⟨B, Fz, m, h, q⟩ => by
  unfold vIf at q
  refine tT_then h ?_
  cases hf : t m with
  | st => rw [hf] at q; exact q
  | ex c => rw [hf] at q; exact q
  | ok x =>
    intro H1 Fz1 x1 h1 l1
    rw [hf, Rz.bind_ok] at q
    cases x with
    | true =>
      rw [if_pos rfl] at q ⊢
      refine tV_then h1 ?_
      cases hg : f m with
      | st => rw [hg] at q; exact q
      | ex c => rw [hg] at q; exact fun H2 Fz2 x2 r2 => q H2 Fz2 (x1.trans x2) r2
      | ok y => rw [hg] at q; exact fun v H2 Fz2 x2 r2 _ p => q v H2 Fz2 (x1.trans x2) ⟨r2, p⟩
    | false =>
      rw [if_neg Bool.false_ne_true] at q ⊢
      refine tV_then h1 ?_
      cases hg : g m with
      | st => rw [hg] at q; exact q
      | ex c => rw [hg] at q; exact fun H2 Fz2 x2 r2 => q H2 Fz2 (x1.trans x2) r2
      | ok y => rw [hg] at q; exact fun v H2 Fz2 x2 r2 _ p => q v H2 Fz2 (x1.trans x2) ⟨r2, p⟩⟩

/-! ### arguments, displays -/
def tAv (K : PySem.W.Frag) (ct : CT) (Wx : WX) (fs : List (Ms → Rz PyData)) : TA := fun σ H Q => ∃ B Fz m, Rs K B Fz H σ m ∧
  match evalAllD fs m with
  | .st => False
  | .ok xs => ∀ vs H' Fz', Ext B Fz Fz' → Rs K B Fz' H' σ m → RpAll K Fz' H' vs xs → Q vs H'
  | .ex c => ∀ H' Fz', Ext B Fz Fz' → Rs K B Fz' H' σ m → Wx (ct c) Option.none σ H'
structure DA (X : Cx) (ct : CT) (Wx : WX) (es : List Expr) (fs : List (Ms → Rz PyData)) : Prop where
  pa : PA X es (tAv X.K ct Wx fs)
theorem PA_imp {es : List Expr} {t t' : TA} (h : PA X es t) (q : ∀ σ H Q, t' σ H Q → t σ H Q) : PA X es t' := ⟨fun p pins s σ H Q I w => h.run p pins s σ H Q I (q _ _ _ w)⟩
theorem da_nil : DA X ct Wx [] [] := ⟨PA_imp pa_nil fun σ H Q ⟨B, Fz, m, h, q⟩ => q [] H Fz .refl h .nil⟩
theorem tAv_then {K : PySem.W.Frag} {fs : List (Ms → Rz PyData)} {B : Hp} {Fz : Addr → Prop} {σ : L2.St} {m : Ms} {H : Hp} {Q : List V → Hp → Prop} (h : Rs K B Fz H σ m)
    (hk : match evalAllD fs m with
      | .st => False
      | .ok xs => ∀ vs H' Fz', Ext B Fz Fz' → Rs K B Fz' H' σ m → Le Fz H Fz' H' → RpAll K Fz' H' vs xs → Q vs H'
      | .ex c => ∀ H' Fz', Ext B Fz Fz' → Rs K B Fz' H' σ m → Wx (ct c) Option.none σ H') : tAv K ct Wx fs σ H Q := by
  obtain ⟨B2, h2, he, ht⟩ := h.step
  refine ⟨B2, Fz, m, h2, ?_⟩
  cases hf : evalAllD fs m with
  | st => rw [hf] at hk; exact hk
  | ex c => rw [hf] at hk; exact fun H' Fz' e r => hk H' Fz' (he _ e) (ht (ρ := []) (r := []) e r rfl).1
  | ok x =>
    rw [hf] at hk
    intro vs H' Fz' e r s
    obtain ⟨r', l⟩ := ht (ρ := []) (r := []) e r rfl
    exact hk vs H' Fz' (he _ e) r' l s
theorem da_cons {es : List Expr} {f : Ms → Rz PyData} {fs : List (Ms → Rz PyData)} (ha : DV X ct Wx e f) (hs : DA X ct Wx es fs) (hst : starEach (e :: es) X.env = (false, eval e X.env) :: starEach es X.env := by rfl) : DA X ct Wx (e :: es) (f :: fs) := ⟨PA_imp (pa_cons ha.pe hs.pa hst) fun σ H Q ⟨B, Fz, m, h, q⟩ => by
  refine tV_then h ?_
  cases hf : f m with
  | st => simp only [evalAllD, hf, Rz.bind_st] at q
  | ex c => simp only [evalAllD, hf, Rz.bind_ex] at q; exact q
  | ok x =>
    intro v H1 Fz1 x1 h1 l1 s1
    simp only [evalAllD, hf, Rz.bind_ok] at q
    refine tAv_then h1 ?_
    cases hg : evalAllD fs m with
    | st => rw [hg] at q; exact q
    | ex c => rw [hg] at q; exact fun H2 Fz2 x2 r2 => q H2 Fz2 (x1.trans x2) r2
    | ok xs =>
      rw [hg] at q
      exact fun vs H2 Fz2 x2 r2 l2 s2 => q (v :: vs) H2 Fz2 (x1.trans x2) r2 (.cons (s1.mono l2) s2)⟩
def eTup (fs : List (Ms → Rz PyData)) : Ms → Rz PyData := fun m => (evalAllD fs m).map .tuple
def eLst (fs : List (Ms → Rz PyData)) : Ms → Rz W := fun m => (evalAllD fs m).map .l
theorem evalAllD_len : ∀ {fs : List (Ms → Rz PyData)} {m : Ms} {xs : List PyData}, evalAllD fs m = .ok xs → xs.length = fs.length
  | [], m, xs, h => by simp only [evalAllD] at h; cases h; rfl
  | f :: fs, m, xs, h => by
    simp only [evalAllD] at h
    cases hf : f m with
    | st => rw [hf] at h; cases h
    | ex c => rw [hf] at h; cases h
    | ok x =>
      rw [hf, Rz.bind_ok] at h
      cases hg : evalAllD fs m with
      | st => rw [hg] at h; cases h
      | ex c => rw [hg] at h; cases h
      | ok ys =>
        rw [hg] at h
        cases h
        rw [List.length_cons, List.length_cons, evalAllD_len hg]
theorem dv_tup {es : List Expr} {fs : List (Ms → Rz PyData)} {x1} (h : DA X ct Wx es fs) (hz : fs.length ≤ 1000 := by decide) : DV X ct Wx (.Tuple es x1 pos) (eTup fs) := ⟨PE_imp (pe_tup h.pa) fun σ H Q ⟨B, Fz, m, h, q⟩ => by
  unfold eTup at q
  refine tAv_then h ?_
  cases hf : evalAllD fs m with
  | st => rw [hf] at q; exact q
  | ex c => rw [hf] at q; exact q
  | ok xs =>
    intro vs H1 Fz1 x1 h1 l1 s1
    rw [hf] at q
    have z := evalAllD_len hf
    refine ⟨?_, fun p hp => ?_⟩
    · rw [s1.length, z]; exact Nat.le_trans (Nat.le_trans hz (by decide)) sz_le
    · have r := h1.newTup hp s1
      exact q _ _ Fz1 x1 ⟨r.pop, r.top⟩⟩
theorem de_lst {es : List Expr} {fs : List (Ms → Rz PyData)} (h : DA X ct Wx es fs) (hz : fs.length ≤ 1000 := by decide) : DE X ct Wx (.List es pos) (eLst fs) := ⟨PE_imp (pe_lst h.pa) fun σ H Q ⟨B, Fz, m, h, q⟩ => by
  unfold eLst at q
  refine tAv_then h ?_
  cases hf : evalAllD fs m with
  | st => rw [hf] at q; exact q
  | ex c => rw [hf] at q; exact q
  | ok xs =>
    intro vs H1 Fz1 x1 h1 l1 s1
    rw [hf] at q
    have z := evalAllD_len hf
    refine ⟨?_, fun p hp => ?_⟩
    · rw [s1.length, z]; exact Nat.le_trans (Nat.le_trans hz (by decide)) sz_le
    · exact q _ _ Fz1 x1 (h1.newLst hp s1)⟩

/-! ### unary, subscripts, slices -/
def negD : PyData → Option W
  | .int i => some (.d (.int (-i)))
  | _ => none
theorem de_neg {f : Ms → Rz PyData} (h : DR X ct Wx a f) : DE X ct Wx (.UnaryOp .USub a pos) (e1 negD f) := ⟨PE_imp (pe_un un_neg h.pe) fun σ H Q ⟨B, Fz, m, h, q⟩ => by
  unfold e1 at q
  refine tR_then h ?_
  cases hf : f m with
  | st => rw [hf] at q; exact q
  | ex c => rw [hf] at q; exact q
  | ok x =>
    intro v H1 Fz1 x1 h1 l1 s1
    rw [hf, Rz.bind_ok] at q
    cases x with
    | int i => exact ⟨i, (s1.vw h1).int, q _ _ Fz1 x1 (h1.push (.int _))⟩
    | _ => exact q.elim⟩
/-- the item of any sign's place -/
def ixD : PyData → PyData → Option W
  | .list xs, .int i => (atI xs i).map .d
  | .tuple xs, .int i => (atI xs i).map .d
  | _, _ => none
theorem rp_atI {K : PySem.W.Frag} {Fz : Addr → Prop} {H : Hp} {vs : List V} {xs : List PyData} {i : Int} {x : PyData} (r : RpAll K Fz H vs xs) (e : atI xs i = some x) : ∃ v, atI vs i = some v ∧ Rp K Fz H v x := by
  unfold atI at e ⊢
  rw [r.length]
  cases hj : ixN xs.length i with
  | none => rw [hj] at e; cases e
  | some j =>
    rw [hj] at e
    obtain ⟨v, h1, h2⟩ := r.get' (i := j) (by simpa using e)
    exact ⟨v, by simpa using h1, h2⟩
theorem ok_ixD {K : PySem.W.Frag} : OpOk K (rIx K) ixD := by
  intro B Fz H σ m v u x y w Q h a b e q
  unfold ixD at e
  split at e
  · rename_i xs i
    cases ha : atI xs i with
    | none => rw [ha] at e; cases e
    | some z =>
      rw [ha] at e; cases e
      obtain ⟨p, vs, rfl, s1, r1⟩ := a.list
      obtain ⟨v', e1, r'⟩ := rp_atI r1 ha
      exact .inl ⟨p, vs, i, v', rfl, b.int, .inl (.inl s1), e1, q _ _ (h.push r')⟩
  · rename_i xs i
    cases ha : atI xs i with
    | none => rw [ha] at e; cases e
    | some z =>
      rw [ha] at e; cases e
      obtain ⟨p, vs, rfl, s1, r1⟩ := a.tup
      obtain ⟨v', e1, r'⟩ := rp_atI r1 ha
      exact .inr (.inl ⟨p, vs, i, v', rfl, b.int, s1, e1, q _ _ (h.push r')⟩)
  · cases e
theorem de_ix {fa fb : Ms → Rz PyData} (ha : DR X ct Wx a fa) (hb : DR X ct Wx b fb) (hs : PlainIx b := by exact fun _ _ => rfl) : DE X ct Wx (.Subscript a b pos) (e2 ixD fa fb) :=
  ⟨PE_imp (pe_ix ix_seq ha.pe hb.pe hs) fun _ _ _ q => op2 ok_ixD q⟩
/-- a part of a slice -/
def tO (K : PySem.W.Frag) (ct : CT) (Wx : WX) (f : Ms → Rz (Option Int)) : TO := fun σ H Q => ∃ B Fz m, Rs K B Fz H σ m ∧
  match f m with
  | .st => False
  | .ok o => ∀ H' Fz', Ext B Fz Fz' → Rs K B Fz' H' σ m → Q o H'
  | .ex c => ∀ H' Fz', Ext B Fz Fz' → Rs K B Fz' H' σ m → Wx (ct c) Option.none σ H'
structure DO (X : Cx) (ct : CT) (Wx : WX) (e : Option Expr) (f : Ms → Rz (Option Int)) : Prop where
  po : PO X e (tO X.K ct Wx f)
theorem PO_imp {e : Option Expr} {t t' : TO} (h : PO X e t) (q : ∀ σ H Q, t' σ H Q → t σ H Q) : PO X e t' := ⟨fun pins s σ H Q I w => h.run pins s σ H Q I (q _ _ _ w)⟩
def oNone : Ms → Rz (Option Int) := fun _ => .ok none
def intD : PyData → Rz Int
  | .int i => .ok i
  | _ => .st
def oSome (f : Ms → Rz PyData) : Ms → Rz (Option Int) := fun m => (f m).bind fun x => (intD x).map some
theorem do_none : DO X ct Wx none oNone := ⟨PO_imp po_none fun σ H Q ⟨B, Fz, m, h, q⟩ => q H Fz .refl h⟩
theorem do_some {f : Ms → Rz PyData} (h : DR X ct Wx e f) : DO X ct Wx (some e) (oSome f) := ⟨PO_imp (po_some h.pe) fun σ H Q ⟨B, Fz, m, h, q⟩ => by
  unfold oSome at q
  refine tR_then h ?_
  cases hf : f m with
  | st => rw [hf] at q; exact q
  | ex c => rw [hf] at q; exact q
  | ok x =>
    intro v H1 Fz1 x1 h1 l1 s1
    rw [hf, Rz.bind_ok] at q
    cases x with
    | int i => exact ⟨i, (s1.vw h1).int, q H1 Fz1 x1 h1⟩
    | _ => exact q.elim⟩
theorem tO_then {K : PySem.W.Frag} {f : Ms → Rz (Option Int)} {B : Hp} {Fz : Addr → Prop} {σ : L2.St} {m : Ms} {H : Hp} {Q : Option Int → Hp → Prop} (h : Rs K B Fz H σ m)
    (hk : match f m with
      | .st => False
      | .ok x => ∀ H' Fz', Ext B Fz Fz' → Rs K B Fz' H' σ m → Le Fz H Fz' H' → Q x H'
      | .ex c => ∀ H' Fz', Ext B Fz Fz' → Rs K B Fz' H' σ m → Wx (ct c) Option.none σ H') : tO K ct Wx f σ H Q := by
  obtain ⟨B2, h2, he, ht⟩ := h.step
  refine ⟨B2, Fz, m, h2, ?_⟩
  cases hf : f m with
  | st => rw [hf] at hk; exact hk
  | ex c => rw [hf] at hk; exact fun H' Fz' e r => hk H' Fz' (he _ e) (ht (ρ := []) (r := []) e r rfl).1
  | ok x =>
    rw [hf] at hk
    intro H' Fz' e r
    obtain ⟨r', l⟩ := ht (ρ := []) (r := []) e r rfl
    exact hk H' Fz' (he _ e) r' l
/-- xs[lo:hi] -/
def cutL {α : Type} (xs : List α) (lo hi : Option Int) : List α := (xs.drop (HT.sIx xs.length 0 lo)).take (HT.sIx xs.length xs.length hi - HT.sIx xs.length 0 lo)
def slD (x : PyData) (lo hi : Option Int) : Option W := match x with
  | .list xs => some (.l (cutL xs lo hi))
  | .tuple xs => some (.d (.tuple (cutL xs lo hi)))
  | _ => none
theorem rp_cut {K : PySem.W.Frag} {Fz : Addr → Prop} {H : Hp} {vs : List V} {xs : List PyData} (r : RpAll K Fz H vs xs) (lo hi : Option Int) : RpAll K Fz H (cutV vs lo hi) (cutL xs lo hi) := by
  unfold cutV cutL
  rw [r.length]
  exact (r.drop _).take _
def rSlD (K : PySem.W.Frag) : V → Option Int → Option Int → Hp → VK → Prop := fun x lo hi H Q => rSlL K x lo hi H Q ∨ rSlA K x lo hi H Q
def eSl (f : Ms → Rz PyData) (l u : Ms → Rz (Option Int)) : Ms → Rz W := fun m => (f m).bind fun x => (l m).bind fun lo => (u m).bind fun hi => ofO (slD x lo hi)
theorem de_sl {lo hi : Option Expr} {f : Ms → Rz PyData} {fl fu : Ms → Rz (Option Int)} {p2 : Pos} (h : DR X ct Wx e f) (hl : DO X ct Wx lo fl) (hu : DO X ct Wx hi fu) : DE X ct Wx (.Subscript e (.Slice lo hi none p2) pos) (eSl f fl fu) := ⟨PE_imp (pe_slice (r := rSlD X.K) (SlR.or sl_list sl_tupA) h.pe hl.po hu.po) fun σ H Q ⟨B, Fz, m, h, q⟩ => by
  unfold eSl at q
  refine tR_then h ?_
  cases hf : f m with
  | st => rw [hf] at q; exact q
  | ex c => rw [hf] at q; exact q
  | ok x =>
    intro v H1 Fz1 x1 h1 l1 s1
    rw [hf, Rz.bind_ok] at q
    refine tO_then h1 ?_
    cases hfl : fl m with
    | st => rw [hfl] at q; exact q
    | ex c => rw [hfl] at q; exact fun H2 Fz2 x2 r2 => q H2 Fz2 (x1.trans x2) r2
    | ok lo =>
      intro H2 Fz2 x2 h2 l2
      rw [hfl, Rz.bind_ok] at q
      refine tO_then h2 ?_
      cases hfu : fu m with
      | st => rw [hfu] at q; exact q
      | ex c => rw [hfu] at q; exact fun H3 Fz3 x3 r3 => q H3 Fz3 ((x1.trans x2).trans x3) r3
      | ok hi =>
        intro H3 Fz3 x3 h3 l3
        rw [hfu, Rz.bind_ok] at q
        have s3 := ((s1.le l2).le l3).vw h3
        have xx := (x1.trans x2).trans x3
        cases x with
        | list xs =>
          obtain ⟨p, vs, rfl, e1, r1⟩ := s3.list
          exact .inl ⟨p, vs, rfl, .inl (.inl e1), fun p hp => q _ _ Fz3 xx (h3.newLst hp (rp_cut r1 lo hi))⟩
        | tuple xs =>
          have s3' := s3.tupR
          obtain ⟨p, vs, rfl, e1, r1⟩ := s3.tup
          refine .inr ⟨p, vs, rfl, e1, fun z => ?_, fun _ p hp => q _ _ Fz3 xx (h3.newTup hp (rp_cut r1 lo hi))⟩
          have e2 : cutL xs lo hi = xs := by
            unfold cutL
            rw [r1.length] at z
            rw [z.1, z.2]
            simp
          have q' := q (.ref p) H3 Fz3 xx (show Rs X.K B Fz3 H3 (some (V.ref p) :: σ) (some (W.d (.tuple (cutL xs lo hi))) :: m) from by rw [e2]; exact h3.push s3')
          exact q'
        | _ => exact q.elim⟩
end
end Dl
set_option Elab.async false
set_option linter.all false
set_option maxRecDepth 100000
/-! D5: calls of built-in functions. -/
namespace Dl
open PySem PySem.Spec PyProof.Rows L2
/-- all arguments, read -/
def tAr (K : PySem.W.Frag) (ct : CT) (Wx : WX) (fs : List (Ms → Rz PyData)) : TA := fun σ H Q => ∃ B Fz m, Rs K B Fz H σ m ∧
  match evalAllD fs m with
  | .st => False
  | .ok xs => ∀ vs H' Fz', Ext B Fz Fz' → Rs K B Fz' H' σ m → Paired (SV K Fz' H' σ m) vs xs → Q vs H'
  | .ex c => ∀ H' Fz', Ext B Fz Fz' → Rs K B Fz' H' σ m → Wx (ct c) Option.none σ H'
structure DB (X : Cx) (ct : CT) (Wx : WX) (es : List Expr) (fs : List (Ms → Rz PyData)) : Prop where
  pa : PA X es (tAr X.K ct Wx fs)
theorem paired_map {α β : Type} {P R : α → β → Prop} (f : ∀ a b, P a b → R a b) : ∀ {xs : List α} {ys : List β}, Paired P xs ys → Paired R xs ys
  | _, _, .nil => .nil
  | _, _, .cons r t => .cons (f _ _ r) (paired_map f t)
section
variable {X : Cx} {ct : CT} {Wx : WX} {e a b c : Expr} {es : List Expr} {pos : Pos}
theorem db_nil : DB X ct Wx [] [] := ⟨PA_imp pa_nil fun σ H Q ⟨B, Fz, m, h, q⟩ => q [] H Fz .refl h .nil⟩
theorem tAr_then {K : PySem.W.Frag} {fs : List (Ms → Rz PyData)} {B : Hp} {Fz : Addr → Prop} {σ : L2.St} {m : Ms} {H : Hp} {Q : List V → Hp → Prop} (h : Rs K B Fz H σ m)
    (hk : match evalAllD fs m with
      | .st => False
      | .ok xs => ∀ vs H' Fz', Ext B Fz Fz' → Rs K B Fz' H' σ m → Le Fz H Fz' H' → Paired (SV K Fz' H' σ m) vs xs → Q vs H'
      | .ex c => ∀ H' Fz', Ext B Fz Fz' → Rs K B Fz' H' σ m → Wx (ct c) Option.none σ H') : tAr K ct Wx fs σ H Q := by
  obtain ⟨B2, h2, he, ht⟩ := h.step
  refine ⟨B2, Fz, m, h2, ?_⟩
  cases hf : evalAllD fs m with
  | st => rw [hf] at hk; exact hk
  | ex c => rw [hf] at hk; exact fun H' Fz' e r => hk H' Fz' (he _ e) (ht (ρ := []) (r := []) e r rfl).1
  | ok x =>
    rw [hf] at hk
    intro vs H' Fz' e r s
    obtain ⟨r', l⟩ := ht (ρ := []) (r := []) e r rfl
    exact hk vs H' Fz' (he _ e) r' l s
theorem db_cons {f : Ms → Rz PyData} {fs : List (Ms → Rz PyData)} (ha : DR X ct Wx e f) (hs : DB X ct Wx es fs) (hst : starEach (e :: es) X.env = (false, eval e X.env) :: starEach es X.env := by rfl) : DB X ct Wx (e :: es) (f :: fs) := ⟨PA_imp (pa_cons ha.pe hs.pa hst) fun σ H Q ⟨B, Fz, m, h, q⟩ => by
  refine tR_then h ?_
  cases hf : f m with
  | st => simp only [evalAllD, hf, Rz.bind_st] at q
  | ex c => simp only [evalAllD, hf, Rz.bind_ex] at q; exact q
  | ok x =>
    intro v H1 Fz1 x1 h1 l1 s1
    simp only [evalAllD, hf, Rz.bind_ok] at q
    refine tAr_then h1 ?_
    cases hg : evalAllD fs m with
    | st => rw [hg] at q; exact q
    | ex c => rw [hg] at q; exact fun H2 Fz2 x2 r2 => q H2 Fz2 (x1.trans x2) r2
    | ok xs =>
      rw [hg] at q
      exact fun vs H2 Fz2 x2 r2 l2 s2 => q (v :: vs) H2 Fz2 (x1.trans x2) r2 (.cons (s1.le l2) s2)⟩
/-- a built-in does what g says -/
structure CallOk (K : PySem.W.Frag) (r : List V → Hp → VK → Prop) (g : List PyData → Option W) : Prop where
  run : ∀ {B : Hp} {Fz : Addr → Prop} {H : Hp} {σ : L2.St} {m : Ms} {vs : List V} {xs : List PyData} {w : W} {Q : VK}, Rs K B Fz H σ m → Paired (Vw K Fz H) vs xs → g xs = some w →
    (∀ v' H', Rs K B Fz H' (some v' :: σ) (some w :: m) → Q v' H') → r vs H Q
def eCall (g : List PyData → Option W) (fs : List (Ms → Rz PyData)) : Ms → Rz W := fun m => (evalAllD fs m).bind fun xs => ofO (g xs)
theorem callB {r : List V → Hp → VK → Prop} {g : List PyData → Option W} {fs : List (Ms → Rz PyData)} (hg : CallOk X.K r g) {σ : L2.St} {H : Hp} {Q : VK} (q : tE X.K ct Wx (eCall g fs) σ H Q) : tCB r (tAr X.K ct Wx fs) σ H Q := by
  obtain ⟨B, Fz, m, h, q⟩ := q
  unfold eCall at q
  refine tAr_then h ?_
  cases hf : evalAllD fs m with
  | st => rw [hf] at q; exact q
  | ex c => rw [hf] at q; exact q
  | ok xs =>
    intro vs H1 Fz1 x1 h1 l1 s1
    rw [hf, Rz.bind_ok] at q
    cases hw : g xs with
    | none => rw [hw] at q; exact q.elim
    | some w =>
      rw [hw] at q
      exact hg.run h1 (paired_map (fun _ _ s => SV.vw h1 s) s1) hw fun v' H' r => q v' H' Fz1 x1 r
variable {x : Str} {bid T : String} {p : Pos}
theorem de_callB {r : List V → Hp → VK → Prop} {g : List PyData → Option W} {fs : List (Ms → Rz PyData)} (hc : CallR X (.builtin bid) r) (ok : CallOk X.K r g) (hv : bootBuiltins x = some (.builtin bid)) (hm : X.mg x = none) (ha : DB X ct Wx (e :: es) fs) (hg : Gl X x := by rfl)
    (hn : x ≠ "__name__" := by decide) (hdb : (x == ("__debug__" : Str)) = false := by decide) (he : starEach (e :: es) X.env = (false, eval e X.env) :: starEach es X.env := by rfl) (hpl : (backTo pos (starEach es X.env)).any (·.1) = false := by rfl) :
    DE X ct Wx (.Call (.Name x p) (e :: es) [] pos) (eCall g fs) := ⟨PE_imp (pe_callB hc hg hm hv ha.pa hn hdb he hpl) fun _ _ _ q => callB ok q⟩
theorem de_callTy {r : List V → Hp → VK → Prop} {g : List PyData → Option W} {fs : List (Ms → Rz PyData)} (hc : CallR X (.type T) r) (ok : CallOk X.K r g) (hv : bootBuiltins x = some (.type T)) (hm : X.mg x = none) (ha : DB X ct Wx (e :: es) fs) (hg : Gl X x := by rfl)
    (hn : x ≠ "__name__" := by decide) (hdb : (x == ("__debug__" : Str)) = false := by decide) (he : starEach (e :: es) X.env = (false, eval e X.env) :: starEach es X.env := by rfl) (hpl : (backTo pos (starEach es X.env)).any (·.1) = false := by rfl) :
    DE X ct Wx (.Call (.Name x p) (e :: es) [] pos) (eCall g fs) := ⟨PE_imp (pe_callTy hc hg hm hv ha.pa hn hdb he hpl) fun _ _ _ q => callB ok q⟩

/-! ### what they give -/
def g1 (f : PyData → Option W) : List PyData → Option W
  | [x] => f x
  | _ => none
def lenD : PyData → Option W
  | .list xs => some (.d (.int xs.length))
  | .tuple xs => some (.d (.int xs.length))
  | .str s => if s.length ≤ 16000000 then some (.d (.int s.length)) else none
  | _ => none
theorem pair1 {α β : Type} {P : α → β → Prop} {vs : List α} {y : β} (h : Paired P vs [y]) : ∃ v, vs = [v] ∧ P v y := by
  cases h with | cons r t => cases t; exact ⟨_, rfl, r⟩
theorem pair2 {α β : Type} {P : α → β → Prop} {vs : List α} {y z : β} (h : Paired P vs [y, z]) : ∃ v u, vs = [v, u] ∧ P v y ∧ P u z := by
  cases h with | cons r t => cases t with | cons r2 t => cases t; exact ⟨_, _, rfl, r, r2⟩
/-- one argument -/
theorem call1 {K : PySem.W.Frag} {r : List V → Hp → VK → Prop} {f : PyData → Option W} (h : ∀ {B : Hp} {Fz : Addr → Prop} {H : Hp} {σ : L2.St} {m : Ms} {v : V} {x : PyData} {w : W} {Q : VK}, Rs K B Fz H σ m → Vw K Fz H v x → f x = some w →
    (∀ v' H', Rs K B Fz H' (some v' :: σ) (some w :: m) → Q v' H') → r [v] H Q) : CallOk K r (g1 f) := by
  refine ⟨?_⟩
  intro B Fz H σ m vs xs w Q hr hp e q
  match xs, hp, e with
  | [x], hp, e =>
    obtain ⟨v, rfl, hv⟩ := pair1 hp
    exact h hr hv e q
  | [], _, e => cases e
  | _ :: _ :: _, _, e => cases e
theorem ok_lenD {K : PySem.W.Frag} : CallOk K (fun xs H Q => ∃ x n, xs = [x] ∧ LenV K x H n ∧ Q (.int n) H) (g1 lenD) := call1 fun {B Fz H σ m v x w Q} hr hv e q => by
  unfold lenD at e
  split at e
  · cases e
    obtain ⟨p, vs, rfl, s1, r1⟩ := hv.list
    exact ⟨_, _, rfl, .inl ⟨vs, .inl (.inl s1), rfl⟩, by rw [r1.length]; exact q _ _ (hr.push (.int _))⟩
  · cases e
    obtain ⟨p, vs, rfl, s1, r1⟩ := hv.tup
    exact ⟨_, _, rfl, .inr ⟨vs, s1, rfl⟩, by rw [r1.length]; exact q _ _ (hr.push (.int _))⟩
  · split at e
    · rename_i s hz
      cases e
      have := hv.str
      subst this
      exact ⟨_, _, rfl, ⟨Nat.le_trans hz sz_le, rfl⟩, q _ _ (hr.push (.int _))⟩
    · cases e
  · cases e
/-- all ints -/
def intsOf : List PyData → Option (List Int)
  | [] => some []
  | .int i :: r => (intsOf r).map (i :: ·)
  | _ :: _ => none
theorem intsOf_eq : ∀ {xs : List PyData} {ns : List Int}, intsOf xs = some ns → xs = ns.map .int
  | [], ns, h => by cases h; rfl
  | .int i :: r, ns, h => by
    cases hr : intsOf r with
    | none => simp [intsOf, hr] at h
    | some k =>
      simp only [intsOf, hr, Option.map_some, Option.some.injEq] at h
      subst h
      rw [intsOf_eq hr]; rfl
  | .none :: _, _, h => by cases h
  | .bool _ :: _, _, h => by cases h
  | .str _ :: _, _, h => by cases h
  | .list _ :: _, _, h => by cases h
  | .tuple _ :: _, _, h => by cases h
  | .dict _ :: _, _, h => by cases h
@[simp] theorem intsOf_map : ∀ ns : List Int, intsOf (ns.map .int) = some ns
  | [] => rfl
  | n :: ns => by simp [intsOf, intsOf_map ns]
def boolsOf : List PyData → Option (List Bool)
  | [] => some []
  | .bool i :: r => (boolsOf r).map (i :: ·)
  | _ :: _ => none
theorem boolsOf_eq : ∀ {xs : List PyData} {ns : List Bool}, boolsOf xs = some ns → xs = ns.map .bool
  | [], ns, h => by cases h; rfl
  | .bool i :: r, ns, h => by
    cases hr : boolsOf r with
    | none => simp [boolsOf, hr] at h
    | some k =>
      simp only [boolsOf, hr, Option.map_some, Option.some.injEq] at h
      subst h
      rw [boolsOf_eq hr]; rfl
  | .none :: _, _, h => by cases h
  | .int _ :: _, _, h => by cases h
  | .str _ :: _, _, h => by cases h
  | .list _ :: _, _, h => by cases h
  | .tuple _ :: _, _, h => by cases h
  | .dict _ :: _, _, h => by cases h
@[simp] theorem boolsOf_map : ∀ ns : List Bool, boolsOf (ns.map .bool) = some ns
  | [] => rfl
  | n :: ns => by simp [boolsOf, boolsOf_map ns]
def itemsD : PyData → Option (List PyData)
  | .list xs => some xs
  | .tuple xs => some xs
  | _ => none
def sumD (x : PyData) : Option W := (itemsD x).bind fun xs => (intsOf xs).map fun ns => .d (.int ns.sum)
theorem sum_rawT {prog : Program} {w : World} {A : Around} {E : Value → Shared → Prop} {s : Shared} {t : Addr} {its : List Value} {ns : List Int} {Q : Value → Shared → Prop} (hh : A.handled = none) (hl : s.heap.IsTuple t its.toArray) (hi : IntsAre its ns)
    (h : ∀ h' tk t', (∀ b o, s.heap.get? b = some o → h'.get? b = some o) → Q (.int ns.sum t') { s with heap := h', toks := tk }) : wpAny (model prog w) A (call (.builtin "sum") [.ref t]) Q E s := by
  obtain ⟨xs, e⟩ := hi.allInts.items
  have hn : numsOf (intItems xs).toList = ns := by rw [← e]; exact hi.numsOf
  rw [nums_intItems] at hn
  rw [e] at hl
  refine PySem.W.ktm_sumG hh hl fun h' tk t' hk => ?_
  have := h h' tk t' hk
  rw [preSum_eq, List.take_of_length_le (by simp), hn]; exact this
def rSumD (K : PySem.W.Frag) : List V → Hp → VK → Prop := fun vs H Q => ∃ (a : Addr) (ns : List Int), vs = [V.ref a] ∧ (SqL K H a (ns.map V.int) ∨ SqT K H a (ns.map V.int)) ∧ Q (.int ns.sum) H
theorem cr_sumD (hc : X.calm = true) : CallR X (.builtin "sum") (rSumD X.K) := by
  intro pins s σ H xs us Q I r h
  obtain ⟨a, ns, rfl, ha | ha, q⟩ := h
  · exact cr_sum hc pins s σ H _ us Q I r ⟨a, ns, rfl, ha, q⟩
  · have e := Vals.ref1 r
    subst e
    obtain ⟨its, rv, p, _⟩ := I.tuple ha
    exact sum_rawT (I.ok.hd hc) (show s.heap.IsTuple a its.toArray from p) (Vals.ints rv) fun h' tk t' hk => ⟨.int ns.sum, H, I.kept hk, ⟨_, rfl⟩, q⟩
theorem ok_sumD {K : PySem.W.Frag} : CallOk K (rSumD K) (g1 sumD) := call1 fun {B Fz H σ m v x w Q} hr hv e q => by
  unfold sumD at e
  cases hi : itemsD x with
  | none => rw [hi] at e; cases e
  | some xs =>
    rw [hi, Option.bind_some] at e
    cases hn : intsOf xs with
    | none => rw [hn] at e; cases e
    | some ns =>
      rw [hn] at e; cases e
      have e2 := intsOf_eq hn
      subst e2
      unfold itemsD at hi
      split at hi
      · cases hi
        obtain ⟨p, vs, rfl, s1, r1⟩ := hv.list
        have := r1.ints
        subst this
        exact ⟨p, ns, rfl, .inl (.inl (.inl s1)), q _ _ (hr.push (.int _))⟩
      · cases hi
        obtain ⟨p, vs, rfl, s1, r1⟩ := hv.tup
        have := r1.ints
        subst this
        exact ⟨p, ns, rfl, .inr s1, q _ _ (hr.push (.int _))⟩
      · cases hi
def allD : PyData → Option W
  | .list xs => (boolsOf xs).map fun bs => .d (.bool (bs.all id))
  | _ => none
def anyD : PyData → Option W
  | .list xs => (boolsOf xs).map fun bs => .d (.bool (bs.any id))
  | _ => none
theorem ok_allD {K : PySem.W.Frag} : CallOk K (rAll K) (g1 allD) := call1 fun {B Fz H σ m v x w Q} hr hv e q => by
  unfold allD at e
  split at e
  · rename_i xs
    cases hn : boolsOf xs with
    | none => rw [hn] at e; cases e
    | some bs =>
      rw [hn] at e; cases e
      have e2 := boolsOf_eq hn
      subst e2
      obtain ⟨p, vs, rfl, s1, r1⟩ := hv.list
      have := r1.bools
      subst this
      exact ⟨p, bs, rfl, .inl (.inl s1), q _ _ (hr.push (.bl _))⟩
  · cases e
theorem ok_anyD {K : PySem.W.Frag} : CallOk K (rAny K) (g1 anyD) := call1 fun {B Fz H σ m v x w Q} hr hv e q => by
  unfold anyD at e
  split at e
  · rename_i xs
    cases hn : boolsOf xs with
    | none => rw [hn] at e; cases e
    | some bs =>
      rw [hn] at e; cases e
      have e2 := boolsOf_eq hn
      subst e2
      obtain ⟨p, vs, rfl, s1, r1⟩ := hv.list
      have := r1.bools
      subst this
      exact ⟨p, bs, rfl, .inl (.inl s1), q _ _ (hr.push (.bl _))⟩
  · cases e
def absD : PyData → Option W
  | .int i => some (.d (.int (if i < 0 then -i else i)))
  | _ => none
theorem ok_absD {K : PySem.W.Frag} : CallOk K (fun xs H Q => ∃ i, xs = [.int i] ∧ Q (.int (if i < 0 then -i else i)) H) (g1 absD) := call1 fun {B Fz H σ m v x w Q} hr hv e q => by
  unfold absD at e
  split at e
  · cases e
    exact ⟨_, by rw [hv.int], q _ _ (hr.push (.int _))⟩
  · cases e
def toIntD : PyData → Option W
  | .int i => some (.d (.int i))
  | .bool b => some (.d (.int (if b then 1 else 0)))
  | _ => none
theorem ok_toIntD {K : PySem.W.Frag} : CallOk K (fun xs H Q => (∃ i, xs = [.int i] ∧ Q (.int i) H) ∨ ∃ k, xs = [.bl k] ∧ Q (.int (if k then 1 else 0)) H) (g1 toIntD) := call1 fun {B Fz H σ m v x w Q} hr hv e q => by
  unfold toIntD at e
  split at e
  · cases e
    exact .inl ⟨_, by rw [hv.int], q _ _ (hr.push (.int _))⟩
  · cases e
    exact .inr ⟨_, by rw [hv.bool], q _ _ (hr.push (.int _))⟩
  · cases e
def tupleD : PyData → Option W
  | .list xs => some (.d (.tuple xs))
  | .tuple xs => some (.d (.tuple xs))
  | _ => none
def listD : PyData → Option W
  | .list xs => some (.l xs)
  | .tuple xs => some (.l xs)
  | _ => none
theorem ok_tupleD {K : PySem.W.Frag} : CallOk K (fun xs H Q => ∃ p ys, xs = [.ref p] ∧ ((SqL K H p ys ∧ ∀ l, H l = none → Q (.ref l) (upd H l (.tup ys))) ∨ (SqT K H p ys ∧ Q (.ref p) H))) (g1 tupleD) := call1 fun {B Fz H σ m v x w Q} hr hv e q => by
  unfold tupleD at e
  split at e
  · cases e
    obtain ⟨p, vs, rfl, s1, r1⟩ := hv.list
    exact ⟨p, vs, rfl, .inl ⟨.inl (.inl s1), fun l hl => q _ _ (hr.newTup hl r1)⟩⟩
  · cases e
    have hv' := hv.tupR
    obtain ⟨p, vs, rfl, s1, r1⟩ := hv.tup
    exact ⟨p, vs, rfl, .inr ⟨s1, q _ _ (hr.push hv')⟩⟩
  · cases e
theorem ok_listD {K : PySem.W.Frag} : CallOk K (fun xs H Q => ∃ p ys, xs = [.ref p] ∧ (SqL K H p ys ∨ SqT K H p ys) ∧ ∀ l, H l = none → Q (.ref l) (upd H l (.lst ys))) (g1 listD) := call1 fun {B Fz H σ m v x w Q} hr hv e q => by
  unfold listD at e
  split at e
  · cases e
    obtain ⟨p, vs, rfl, s1, r1⟩ := hv.list
    exact ⟨p, vs, rfl, .inl (.inl (.inl s1)), fun l hl => q _ _ (hr.newLst hl r1)⟩
  · cases e
    obtain ⟨p, vs, rfl, s1, r1⟩ := hv.tup
    exact ⟨p, vs, rfl, .inr s1, fun l hl => q _ _ (hr.newLst hl r1)⟩
  · cases e

/-! ### least and greatest -/
def max2D : PyData → PyData → Option W
  | .int i, .int j => some (.d (.int (max i j)))
  | _, _ => none
def min2D : PyData → PyData → Option W
  | .int i, .int j => some (.d (.int (min i j)))
  | _, _ => none
/-- may be compared with one another -/
def alikeB (xs : List PyData) : Bool := match intsOf xs with
  | some _ => true
  | none => (xs.all fun x => xs.all fun y => PySem.W.alike x y) && (xs.all fun x => !isNoneD x) && decide (PyData.depthAll xs ≤ 100)
def minD1 (x : PyData) : Option W := (itemsD x).bind fun xs => match xs with
  | y :: ys => if alikeB (y :: ys) = true then some (.d (PySem.W.minD y ys)) else none
  | [] => none
def maxD1 (x : PyData) : Option W := (itemsD x).bind fun xs => match xs with
  | y :: ys => if alikeB (y :: ys) = true then some (.d (PySem.W.maxD y ys)) else none
  | [] => none
def g12 (f : PyData → Option W) (g : PyData → PyData → Option W) : List PyData → Option W
  | [x] => f x
  | [x, y] => g x y
  | _ => none
theorem alike_ints1 (i j : Int) : PySem.W.alike (.int i) (.int j) = true := by simp [PySem.W.alike]
theorem depth_ints1 : ∀ ns : List Int, PyData.depthAll (ns.map .int) = 0
  | [] => by simp [PyData.depthAll]
  | n :: ns => by
    rw [List.map_cons, PyData.depthAll, depth_ints1 ns]
    simp [PyData.depth]
theorem alikeB_ok {xs : List PyData} (h : alikeB xs = true) : PySem.W.AlikeAll xs ∧ PyData.depthAll xs ≤ 100 := by
  unfold alikeB at h
  cases hn : intsOf xs with
  | some ns =>
    have e := intsOf_eq hn
    subst e
    refine ⟨⟨fun x hx y hy => ?_, fun x hx => ?_⟩, ?_⟩
    · obtain ⟨i, _, rfl⟩ := List.mem_map.mp hx
      obtain ⟨j, _, rfl⟩ := List.mem_map.mp hy
      exact alike_ints1 i j
    · obtain ⟨i, _, rfl⟩ := List.mem_map.mp hx
      exact fun z => nomatch z
    · rw [depth_ints1]; exact Nat.zero_le _
  | none =>
    rw [hn] at h
    simp only [Bool.and_eq_true, List.all_eq_true, decide_eq_true_eq, Bool.not_eq_true'] at h
    exact ⟨⟨fun x hx y hy => h.1.1 x hx y hy, fun x hx => isNoneD_iff.mp (h.1.2 x hx)⟩, h.2⟩

/-- the item of a list of one's data that is read -/
theorem rp_of_reads {X : Cx} {pins : List (Addr × Obj)} {σ : L2.St} {H : Hp} {s : Shared} {Fz : Addr → Prop} {vs : List V} {xs : List PyData} {its : List Value} (I : Inv X pins σ H s) (r : RpAll X.K Fz H vs xs) (rv : Vals vs its) {i : Nat} {u : Value} (hu : its[i]? = some u) {d : PyData} {bs : List Addr} {h' : Heap} (hk : ∀ b o, s.heap.get? b = some o → h'.get? b = some o) (hr : Reads h' u d bs) :
    ∃ v, RelV v u ∧ Rp X.K Fz H v d := by
  have hl := rv.length
  obtain ⟨hi, _⟩ := List.getElem?_eq_some_iff.mp hu
  have hv : vs[i]? = some vs[i] := List.getElem?_eq_getElem (by omega)
  obtain ⟨x, hx, rx⟩ := r.get hv
  obtain ⟨u', hu', ru⟩ := rv.get hv
  rw [hu] at hu'; cases hu'
  obtain ⟨as, rd⟩ := Dp.reads I x vs[i] u rx.dp ru
  have e := PySem.SeqAt.plain_unique x d u as bs rx.plain (PyProof.Rows.Reads.keeps hk rd) hr
  subst e
  exact ⟨_, ru, rx⟩
/-- min, max of data: by the library's rule over what is read -/
def rBest (K : PySem.W.Frag) (g : PyData → List PyData → PyData) : List V → Hp → VK → Prop := fun vs H Q => ∃ (a : Addr) (us : List V) (Fz : Addr → Prop) (y : PyData) (ys : List PyData), vs = [V.ref a] ∧ (SqL K H a us ∨ SqT K H a us) ∧ RpAll K Fz H us (y :: ys) ∧ alikeB (y :: ys) = true ∧ ∀ v, Rp K Fz H v (g y ys) → Q v H
theorem cr_minD (hc : X.calm = true) (hu : X.A.units + 105 < cLine) : CallR X (.builtin "min") (rBest X.K PySem.W.minD) := by
  intro pins s σ H xs us Q I r h
  obtain ⟨a, ws, Fz, y, ys, rfl, ha | ha, hr, hk, q⟩ := h
  · have e := Vals.ref1 r
    subst e
    obtain ⟨its, rv, p, _⟩ := I.list ha
    obtain ⟨as, rd⟩ := Dp.readsAll I (y :: ys) ws its hr.dp rv
    obtain ⟨k1, k2⟩ := alikeB_ok hk
    refine PySem.W.min_list_data (I.ok.hd hc) p.isList (by simpa using rd) k1 (by omega) fun i v h' tk bs hi hrd hkp => ?_
    obtain ⟨v', r1, r2⟩ := rp_of_reads I hr rv (i := i) (by simpa using hi) hkp hrd
    exact ⟨v', H, I.kept hkp, r1, q v' r2⟩
  · have e := Vals.ref1 r
    subst e
    obtain ⟨its, rv, p, _⟩ := I.tuple ha
    obtain ⟨as, rd⟩ := Dp.readsAll I (y :: ys) ws its hr.dp rv
    obtain ⟨k1, k2⟩ := alikeB_ok hk
    refine PySem.W.min_tuple_data (I.ok.hd hc) p (by simpa using rd) k1 (by omega) fun i v h' tk bs hi hrd hkp => ?_
    obtain ⟨v', r1, r2⟩ := rp_of_reads I hr rv (i := i) (by simpa using hi) hkp hrd
    exact ⟨v', H, I.kept hkp, r1, q v' r2⟩
theorem cr_maxD (hc : X.calm = true) (hu : X.A.units + 105 < cLine) : CallR X (.builtin "max") (rBest X.K PySem.W.maxD) := by
  intro pins s σ H xs us Q I r h
  obtain ⟨a, ws, Fz, y, ys, rfl, ha | ha, hr, hk, q⟩ := h
  · have e := Vals.ref1 r
    subst e
    obtain ⟨its, rv, p, _⟩ := I.list ha
    obtain ⟨as, rd⟩ := Dp.readsAll I (y :: ys) ws its hr.dp rv
    obtain ⟨k1, k2⟩ := alikeB_ok hk
    refine PySem.W.max_list_data (I.ok.hd hc) p.isList (by simpa using rd) k1 (by omega) fun i v h' tk bs hi hrd hkp => ?_
    obtain ⟨v', r1, r2⟩ := rp_of_reads I hr rv (i := i) (by simpa using hi) hkp hrd
    exact ⟨v', H, I.kept hkp, r1, q v' r2⟩
  · have e := Vals.ref1 r
    subst e
    obtain ⟨its, rv, p, _⟩ := I.tuple ha
    obtain ⟨as, rd⟩ := Dp.readsAll I (y :: ys) ws its hr.dp rv
    obtain ⟨k1, k2⟩ := alikeB_ok hk
    refine PySem.W.max_tuple_data (I.ok.hd hc) p (by simpa using rd) k1 (by omega) fun i v h' tk bs hi hrd hkp => ?_
    obtain ⟨v', r1, r2⟩ := rp_of_reads I hr rv (i := i) (by simpa using hi) hkp hrd
    exact ⟨v', H, I.kept hkp, r1, q v' r2⟩
def rMax2 : List V → Hp → VK → Prop := fun xs H Q => ∃ i j, xs = [.int i, .int j] ∧ Q (.int (if j > i then j else i)) H
def rMin2 : List V → Hp → VK → Prop := fun xs H Q => ∃ i j, xs = [.int i, .int j] ∧ Q (.int (if j < i then j else i)) H
theorem cr_minA (hc : X.calm = true) (hu : X.A.units + 105 < cLine) : CallR X (.builtin "min") (fun xs H Q => rBest X.K PySem.W.minD xs H Q ∨ rMin2 xs H Q) := (cr_minD hc hu).or (call_min2 hc)
theorem cr_maxA (hc : X.calm = true) (hu : X.A.units + 105 < cLine) : CallR X (.builtin "max") (fun xs H Q => rBest X.K PySem.W.maxD xs H Q ∨ rMax2 xs H Q) := (cr_maxD hc hu).or (call_max2 hc)
theorem vw_items {K : PySem.W.Frag} {Fz : Addr → Prop} {H : Hp} {v : V} {x : PyData} {xs : List PyData} (h : Vw K Fz H v x) (e : itemsD x = some xs) : ∃ a us, v = .ref a ∧ (SqL K H a us ∨ SqT K H a us) ∧ RpAll K Fz H us xs := by
  unfold itemsD at e
  split at e
  · cases e
    obtain ⟨p, vs, rfl, s1, r1⟩ := h.list
    exact ⟨p, vs, rfl, .inl (.inl (.inl s1)), r1⟩
  · cases e
    obtain ⟨p, vs, rfl, s1, r1⟩ := h.tup
    exact ⟨p, vs, rfl, .inr s1, r1⟩
  · cases e
theorem ok_minA {K : PySem.W.Frag} : CallOk K (fun xs H Q => rBest K PySem.W.minD xs H Q ∨ rMin2 xs H Q) (g12 minD1 min2D) := by
  refine ⟨?_⟩
  intro B Fz H σ m vs xs w Q hr hp e q
  match xs, hp, e with
  | [x], hp, e =>
    obtain ⟨v, rfl, hv⟩ := pair1 hp
    have e : minD1 x = some w := e
    unfold minD1 at e
    cases hi : itemsD x with
    | none => rw [hi] at e; cases e
    | some ys =>
      rw [hi, Option.bind_some] at e
      cases ys with
      | nil => cases e
      | cons y ys =>
        dsimp only at e
        split at e
        · rename_i hk
          cases e
          obtain ⟨a, us, rfl, s1, r1⟩ := vw_items hv hi
          exact .inl ⟨a, us, Fz, y, ys, rfl, s1, r1, hk, fun v r => q v H (hr.push r)⟩
        · cases e
  | [x, y], hp, e =>
    obtain ⟨v, u, rfl, hv, hu⟩ := pair2 hp
    have e2 : min2D x y = some w := e
    clear e
    unfold min2D at e2
    split at e2
    · rename_i i j
      cases e2
      refine .inr ⟨i, j, by rw [hv.int, hu.int], ?_⟩
      have z : (if j < i then j else i) = min i j := by split <;> omega
      rw [z]
      exact q _ _ (hr.push (.int _))
    · cases e2
  | [], _, e => cases e
  | _ :: _ :: _ :: _, _, e => cases e
theorem ok_maxA {K : PySem.W.Frag} : CallOk K (fun xs H Q => rBest K PySem.W.maxD xs H Q ∨ rMax2 xs H Q) (g12 maxD1 max2D) := by
  refine ⟨?_⟩
  intro B Fz H σ m vs xs w Q hr hp e q
  match xs, hp, e with
  | [x], hp, e =>
    obtain ⟨v, rfl, hv⟩ := pair1 hp
    have e : maxD1 x = some w := e
    unfold maxD1 at e
    cases hi : itemsD x with
    | none => rw [hi] at e; cases e
    | some ys =>
      rw [hi, Option.bind_some] at e
      cases ys with
      | nil => cases e
      | cons y ys =>
        dsimp only at e
        split at e
        · rename_i hk
          cases e
          obtain ⟨a, us, rfl, s1, r1⟩ := vw_items hv hi
          exact .inl ⟨a, us, Fz, y, ys, rfl, s1, r1, hk, fun v r => q v H (hr.push r)⟩
        · cases e
  | [x, y], hp, e =>
    obtain ⟨v, u, rfl, hv, hu⟩ := pair2 hp
    have e2 : max2D x y = some w := e
    clear e
    unfold max2D at e2
    split at e2
    · rename_i i j
      cases e2
      refine .inr ⟨i, j, by rw [hv.int, hu.int], ?_⟩
      have z : (if j > i then j else i) = max i j := by split <;> omega
      rw [z]
      exact q _ _ (hr.push (.int _))
    · cases e2
  | [], _, e => cases e
  | _ :: _ :: _ :: _, _, e => cases e

/-! ### isinstance with a built-in class -/
def tyN : PyData → String
  | .none => "NoneType"
  | .bool _ => "bool"
  | .int _ => "int"
  | .str _ => "str"
  | .list _ => "list"
  | .tuple _ => "tuple"
  | .dict _ => "dict"
theorem Vw.ty {K : PySem.W.Frag} {Fz : Addr → Prop} {H : Hp} {v : V} {x : PyData} (h : Vw K Fz H v x) : TyX K H v (.type (tyN x)) := by
  cases h with
  | own e r => exact .base (.lst e)
  | rp r =>
    cases r with
    | non => exact .base .non
    | bl b => exact .base (.bl b)
    | int i => exact .base (.int i)
    | str s => exact .base (.str s)
    | lst f e r => exact .base (.lst e)
    | tup e r => exact .base (.tup e)
    | tupK e _ r =>
      rcases e H with (e | ⟨o, e⟩) | ⟨o, its, n, e, c, _⟩
      · exact .base (.tup e)
      · exact .fTuple e
      · exact .kTuple e c
def isInt : PyData → Bool
  | .int _ => true
  | .bool _ => true
  | _ => false
def isBool : PyData → Bool
  | .bool _ => true
  | _ => false
def isStr : PyData → Bool
  | .str _ => true
  | _ => false
def isTup : PyData → Bool
  | .tuple _ => true
  | _ => false
def isLst : PyData → Bool
  | .list _ => true
  | _ => false
theorem isi_int (x : PyData) : kitB (tyN x) "int" = some (isInt x) := by cases x <;> (simp only [tyN, isInt]; decide +kernel)
theorem isi_bool (x : PyData) : kitB (tyN x) "bool" = some (isBool x) := by cases x <;> (simp only [tyN, isBool]; decide +kernel)
theorem isi_str (x : PyData) : kitB (tyN x) "str" = some (isStr x) := by cases x <;> (simp only [tyN, isStr]; decide +kernel)
theorem isi_tup (x : PyData) : kitB (tyN x) "tuple" = some (isTup x) := by cases x <;> (simp only [tyN, isTup]; decide +kernel)
theorem isi_lst (x : PyData) : kitB (tyN x) "list" = some (isLst x) := by cases x <;> (simp only [tyN, isLst]; decide +kernel)
def vIsi (g : PyData → Bool) (f : Ms → Rz PyData) : Ms → Rz PyData := fun m => (f m).map fun x => .bool (g x)
theorem dv_isi {T : String} {tn : Str} {p p2 : Pos} {g : PyData → Bool} {f : Ms → Rz PyData} (hk : ∀ x, kitB (tyN x) T = some (g x)) (hv : bootBuiltins tn = some (.type T)) (hm2 : X.mg tn = none) (hm : X.mg "isinstance" = none) (ha : DR X ct Wx a f)
    (hg : Gl X "isinstance" := by rfl) (hg2 : Gl X tn := by rfl) (hn : tn ≠ "__name__" := by decide) (hdb : (tn == ("__debug__" : Str)) = false := by decide)
    (he : starEach (a :: [.Name tn p2]) X.env = (false, eval a X.env) :: starEach [.Name tn p2] X.env := by rfl) (he2 : starEach (.Name tn p2 :: []) X.env = (false, eval (.Name tn p2) X.env) :: starEach [] X.env := by rfl) (hpl : (backTo pos (starEach [.Name tn p2] X.env)).any (·.1) = false := by rfl) :
    DV X ct Wx (.Call (.Name "isinstance" p) [a, .Name tn p2] [] pos) (vIsi g f) :=
  ⟨PE_imp (pe_callB call_isi hg hm (by decide +kernel) (pa_cons ha.pe (pa_cons (pe_bltn (v := .ty T) hg2 hm2 hv rfl hn hdb) pa_nil he2) he) (by decide) (by decide) he hpl) fun σ H Q ⟨B, Fz, m, h, q⟩ => by
    unfold vIsi at q
    refine tR_then h ?_
    cases hf : f m with
    | st => rw [hf] at q; exact q
    | ex c => rw [hf] at q; exact q
    | ok x =>
      intro v H1 Fz1 x1 h1 l1 s1
      rw [hf] at q
      exact ⟨v, .ty T, .type (tyN x), .type T, g x, rfl, .ty T, (s1.vw h1).ty, kit_ty (hk x), q _ H1 Fz1 x1 ⟨h1, .bl _⟩⟩⟩

/-! ### list(range(..)), tuple(range(..)) -/
def rgD (lo hi : Int) : List PyData := (List.range (hi - lo).toNat).map fun i => .int (lo + (i : Nat))
def rgFit (lo hi : Int) : Bool := decide ((-1000000 ≤ lo ∧ lo ≤ 1000000) ∧ (-1000000 ≤ hi ∧ hi ≤ 1000000))
theorem rp_rg {K : PySem.W.Frag} {Fz : Addr → Prop} {H : Hp} (lo hi : Int) : RpAll K Fz H (rgV lo hi) (rgD lo hi) := by
  unfold rgV rgD
  generalize List.range (hi - lo).toNat = l
  induction l with
  | nil => exact .nil
  | cons i l ih => exact .cons (.int _) ih
end
end Dl
set_option Elab.async false
set_option linter.all false
set_option maxRecDepth 100000
/-! D6: statements. -/
namespace Dl
open PySem PySem.Spec PyProof.Rows L2
/-- how a statement ends -/
inductive Fl where
  | st | nx (m : Ms) | rt (x : PyData) | rq (x : PyData) | bk (m : Ms) | ct (m : Ms) | ex (c : Nat) (m : Ms)
def tS (K : PySem.W.Frag) (ct : CT) (Wx : WX) (g : Ms → Fl) : TS := fun D σ H => ∃ B Fz m, Rs K B Fz H σ m ∧
  match g m with
  | .st => False
  | .nx m' => ∀ σ' H' Fz', Ext B Fz Fz' → Rs K B Fz' H' σ' m' → D.nx σ' H'
  | .rt x => ∀ v H' Fz', Ext B Fz Fz' → (∃ σ' m', Rs K B Fz' H' σ' m') → Rp K Fz' H' v x → D.rt v H'
  | .rq x => ∀ v H' Fz', Ext B Fz Fz' → (∃ σ' m', Rs K B Fz' H' σ' m') → Rq K Fz' H' v x → D.rt v H'
  | .bk m' => ∀ σ' H' Fz', Ext B Fz Fz' → Rs K B Fz' H' σ' m' → D.bk σ' H'
  | .ct m' => ∀ σ' H' Fz', Ext B Fz Fz' → Rs K B Fz' H' σ' m' → D.ct σ' H'
  | .ex c m' => ∀ σ' H' Fz', Ext B Fz Fz' → Rs K B Fz' H' σ' m' → Wx (ct c) Option.none σ' H'
structure DS (X : Cx) (ct : CT) (Wx : WX) (st : Stmt) (g : Ms → Fl) : Prop where
  ps : PS X st (tS X.K ct Wx g)
structure DSs (X : Cx) (ct : CT) (Wx : WX) (st : List Stmt) (g : Ms → Fl) : Prop where
  ps : PSs X st (tS X.K ct Wx g)
theorem PS_imp {X : Cx} {st : Stmt} {t t' : TS} (h : PS X st t) (q : ∀ D σ H, t' D σ H → t D σ H) : PS X st t' := ⟨fun pins s σ H D I w => h.run pins s σ H D I (q _ _ _ w)⟩
theorem PSs_imp {X : Cx} {st : List Stmt} {t t' : TS} (h : PSs X st t) (q : ∀ D σ H, t' D σ H → t D σ H) : PSs X st t' := ⟨fun pins s σ H D I w => h.run pins s σ H D I (q _ _ _ w)⟩
/-- behind a state: what the rest asks -/
def EndS (K : PySem.W.Frag) (ct : CT) (Wx : WX) (B : Hp) (Fz : Addr → Prop) (D : Ends) : Fl → Prop
  | .st => False
  | .nx m' => ∀ σ' H' Fz', Ext B Fz Fz' → Rs K B Fz' H' σ' m' → D.nx σ' H'
  | .rt x => ∀ v H' Fz', Ext B Fz Fz' → (∃ σ' m', Rs K B Fz' H' σ' m') → Rp K Fz' H' v x → D.rt v H'
  | .rq x => ∀ v H' Fz', Ext B Fz Fz' → (∃ σ' m', Rs K B Fz' H' σ' m') → Rq K Fz' H' v x → D.rt v H'
  | .bk m' => ∀ σ' H' Fz', Ext B Fz Fz' → Rs K B Fz' H' σ' m' → D.bk σ' H'
  | .ct m' => ∀ σ' H' Fz', Ext B Fz Fz' → Rs K B Fz' H' σ' m' → D.ct σ' H'
  | .ex c m' => ∀ σ' H' Fz', Ext B Fz Fz' → Rs K B Fz' H' σ' m' → Wx (ct c) Option.none σ' H'
theorem tS_iff {K : PySem.W.Frag} {ct : CT} {Wx : WX} {g : Ms → Fl} {D : Ends} {σ : L2.St} {H : Hp} : tS K ct Wx g D σ H ↔ ∃ B Fz m, Rs K B Fz H σ m ∧ EndS K ct Wx B Fz D (g m) := by
  unfold tS
  constructor
  · rintro ⟨B, Fz, m, h, q⟩
    refine ⟨B, Fz, m, h, ?_⟩
    cases hg : g m <;> (rw [hg] at q; exact q)
  · rintro ⟨B, Fz, m, h, q⟩
    refine ⟨B, Fz, m, h, ?_⟩
    cases hg : g m <;> (rw [hg] at q; exact q)
theorem EndS.ext {K : PySem.W.Frag} {ct : CT} {Wx : WX} {B : Hp} {Fz Fz' : Addr → Prop} {D : Ends} {f : Fl} (e : Ext B Fz Fz') (h : EndS K ct Wx B Fz D f) : EndS K ct Wx B Fz' D f := by
  cases f with
  | st => exact h
  | nx m => exact fun σ' H' F' x => h σ' H' F' (e.trans x)
  | rt x => exact fun σ' H' F' x => h σ' H' F' (e.trans x)
  | rq x => exact fun σ' H' F' x => h σ' H' F' (e.trans x)
  | bk m => exact fun σ' H' F' x => h σ' H' F' (e.trans x)
  | ct m => exact fun σ' H' F' x => h σ' H' F' (e.trans x)
  | ex c m => exact fun σ' H' F' x => h σ' H' F' (e.trans x)
section
variable {X : Cx} {ct : CT} {Wx : WX} {e a b c : Expr} {st : Stmt} {rest : List Stmt} {pos : Pos}
theorem mkS {te : TE} {g : Ms → Fl} (h : PS X st (fun D σ H => te σ H fun _ _ => True)) : True := trivial
/-- a statement's rule from the layer's -/
theorem ds_of {t : TS} {g : Ms → Fl} (h : PS X st t) (q : ∀ D σ H B Fz m, Rs X.K B Fz H σ m → EndS X.K ct Wx B Fz D (g m) → t D σ H) : DS X ct Wx st g :=
  ⟨PS_imp h fun D σ H w => by
    obtain ⟨B, Fz, m, h1, h2⟩ := tS_iff.mp w
    exact q D σ H B Fz m h1 h2⟩
theorem dss_of {sts : List Stmt} {t : TS} {g : Ms → Fl} (h : PSs X sts t) (q : ∀ D σ H B Fz m, Rs X.K B Fz H σ m → EndS X.K ct Wx B Fz D (g m) → t D σ H) : DSs X ct Wx sts g :=
  ⟨PSs_imp h fun D σ H w => by
    obtain ⟨B, Fz, m, h1, h2⟩ := tS_iff.mp w
    exact q D σ H B Fz m h1 h2⟩

/-! ### blocks -/
def sNil : Ms → Fl := fun m => .nx m
def sSeq (f g : Ms → Fl) : Ms → Fl := fun m => match f m with
  | .nx m' => g m'
  | r => r
theorem ds_nil : DSs X ct Wx [] sNil := dss_of pss_nil fun D σ H B Fz m h q => q σ H Fz .refl h
theorem ds_cons {f g : Ms → Fl} (h1 : DS X ct Wx st f) (h2 : DSs X ct Wx rest g) : DSs X ct Wx (st :: rest) (sSeq f g) := dss_of (pss_cons h1.ps h2.ps) fun D σ H B Fz m h q => by
  refine tS_iff.mpr ⟨B, Fz, m, h, ?_⟩
  unfold sSeq at q
  cases hf : f m with
  | st => rw [hf] at q; exact q
  | nx m' =>
    rw [hf] at q
    exact fun σ' H' F' x h' => tS_iff.mpr ⟨B, F', m', h', q.ext x⟩
  | rt x => rw [hf] at q; exact q
  | rq x => rw [hf] at q; exact q
  | bk m' => rw [hf] at q; exact q
  | ct m' => rw [hf] at q; exact q
  | ex c m' => rw [hf] at q; exact q
theorem ds_one {f : Ms → Fl} (h1 : DS X ct Wx st f) : DSs X ct Wx [st] f := ⟨pss_one h1.ps⟩
/-- a slot's own list is given up -/
def frzAt (i : Nat) (m : Ms) : Ms := match m[i]? with
  | some (some (.l xs)) => m.set i (some (.d (.list xs)))
  | _ => m
def sFrz (i : Nat) (g : Ms → Fl) : Ms → Fl := fun m => g (frzAt i m)
theorem frz_end {i : Nat} {D : Ends} {σ : L2.St} {H B : Hp} {Fz : Addr → Prop} {m : Ms} {f : Fl} (h : Rs X.K B Fz H σ m) (q : EndS X.K ct Wx B Fz D f) : ∃ F', Rs X.K B F' H σ (frzAt i m) ∧ EndS X.K ct Wx B F' D f := by
  unfold frzAt
  split
  · rename_i xs e
    obtain ⟨F', x, h'⟩ := h.frzAt i e
    exact ⟨F', h', q.ext x⟩
  · exact ⟨Fz, h, q⟩
theorem ds_frz (i : Nat) {sts : List Stmt} {g : Ms → Fl} (h : DSs X ct Wx sts g) : DSs X ct Wx sts (sFrz i g) := dss_of h.ps fun D σ H B Fz m h q => by
  obtain ⟨F', h', q'⟩ := frz_end (i := i) h q
  exact tS_iff.mpr ⟨B, F', _, h', q'⟩
theorem ds_frz1 (i : Nat) {g : Ms → Fl} (h : DS X ct Wx st g) : DS X ct Wx st (sFrz i g) := ds_of h.ps fun D σ H B Fz m h q => by
  obtain ⟨F', h', q'⟩ := frz_end (i := i) h q
  exact tS_iff.mpr ⟨B, F', _, h', q'⟩

/-! ### small statements -/
theorem ds_pass : DS X ct Wx (.Pass pos) sNil := ds_of ps_pass fun D σ H B Fz m h q => q σ H Fz .refl h
def sBrk : Ms → Fl := fun m => .bk m
def sCnt : Ms → Fl := fun m => .ct m
theorem ds_break : DS X ct Wx (.Break pos) sBrk := ds_of ps_break fun D σ H B Fz m h q => q σ H Fz .refl h
theorem ds_cont : DS X ct Wx (.Continue pos) sCnt := ds_of ps_continue fun D σ H B Fz m h q => q σ H Fz .refl h
theorem ds_doc {x j pos pos'} : DS X ct Wx (.Expr (.Constant (.str x) j pos) pos') sNil := ds_of ps_doc fun D σ H B Fz m h q => q σ H Fz .refl h
def flE {α : Type} (f : Ms → Rz α) (k : α → Ms → Fl) : Ms → Fl := fun m => match f m with
  | .st => .st
  | .ok w => k w m
  | .ex c => .ex c m
/-- from an expression's end -/
theorem tE_end {f : Ms → Rz W} {B : Hp} {Fz : Addr → Prop} {σ : L2.St} {m : Ms} {H : Hp} {Q : VK} {D : Ends} {k : W → Ms → Fl} (h : Rs X.K B Fz H σ m)
    (q : EndS X.K ct Wx B Fz D (flE f k m))
    (hk : ∀ w v H' Fz', f m = .ok w → Ext B Fz Fz' → Rs X.K B Fz' H' (some v :: σ) (some w :: m) → EndS X.K ct Wx B Fz' D (k w m) → Q v H') : tE X.K ct Wx f σ H Q := by
  refine ⟨B, Fz, m, h, ?_⟩
  unfold flE at q
  cases hf : f m with
  | st => rw [hf] at q; exact q
  | ex c => rw [hf] at q; exact fun H' F' x r => q σ H' F' x r
  | ok w => rw [hf] at q; exact fun v H' F' x r => hk w v H' F' hf x r (q.ext x)
theorem tV_end {f : Ms → Rz PyData} {B : Hp} {Fz : Addr → Prop} {σ : L2.St} {m : Ms} {H : Hp} {Q : VK} {D : Ends} {k : PyData → Ms → Fl} (h : Rs X.K B Fz H σ m)
    (q : EndS X.K ct Wx B Fz D (flE f k m))
    (hk : ∀ x v H' Fz', f m = .ok x → Ext B Fz Fz' → Rs X.K B Fz' H' σ m → Rp X.K Fz' H' v x → EndS X.K ct Wx B Fz' D (k x m) → Q v H') : tV X.K ct Wx f σ H Q := by
  refine ⟨B, Fz, m, h, ?_⟩
  unfold flE at q
  cases hf : f m with
  | st => rw [hf] at q; exact q
  | ex c => rw [hf] at q; exact fun H' F' x r => q σ H' F' x r
  | ok w => rw [hf] at q; exact fun v H' F' x r => hk w v H' F' hf x r.1 r.2 (q.ext x)
/-- name = e -/
def sSet (i : Nat) (f : Ms → Rz W) : Ms → Fl := flE f fun w m => if i < m.length then .nx (m.set i (some w)) else .st
theorem ds_set {x : Str} {f : Ms → Rz W} {pos' : Pos} (i : Nat) (he : DE X ct Wx e f) (hN : X.N.Nodup) (hi : X.N[i]? = some x := by rfl) (hx : Loc X.env.scope x := by first | exact Or.inl rfl | exact Or.inr rfl)
    (hs : swapsWith e (some (.Name x pos')) pos.line X.env = pure false := by rfl) (hf : X.fn x = true ∨ X.env.scope.names.lookup x = some .local := by first | exact .inl rfl | exact .inr rfl) : DS X ct Wx (.Assign [.Name x pos'] e pos) (sSet i f) :=
  ds_of (ps_set hN hi hx he.pe hs hf) fun D σ H B Fz m h q => by
    refine tE_end (k := fun w m => if i < m.length then .nx (m.set i (some w)) else .st) h q fun w v H' F' _ x r q => ?_
    split at q
    · rename_i hl
      exact q _ _ F' .refl (r.put i hl)
    · exact q.elim
/-- name = [.. for ..] where the name is stored within the frame of the comprehension -/
theorem ds_setc {te : TE} {f : Ms → Rz W} (i : Nat) (hp : PS X st (tAsg te (gName i))) (ht : ∀ σ H Q, tE X.K ct Wx f σ H Q → te σ H Q) : DS X ct Wx st (sSet i f) :=
  ds_of hp fun D σ H B Fz m h q => by
    refine ht _ _ _ (tE_end (k := fun w m => if i < m.length then .nx (m.set i (some w)) else .st) h q fun w v H' F' _ x r q => ?_)
    split at q
    · rename_i hl
      exact q _ _ F' .refl (r.put i hl)
    · exact q.elim
/-- an expression as a statement -/
def sExpr (f : Ms → Rz PyData) : Ms → Fl := flE f fun _ m => .nx m
theorem ds_expr {f : Ms → Rz PyData} (he : DV X ct Wx e f) (hs : swapsWith e none pos.line X.env = pure false := by rfl) : DS X ct Wx (.Expr e pos) (sExpr f) :=
  ds_of (ps_expr he.pe hs) fun D σ H B Fz m h q => tV_end (k := fun _ m => .nx m) h q fun _ v H' F' _ x r _ q => q σ H' F' .refl r
def sRet (f : Ms → Rz PyData) : Ms → Fl := flE f fun x _ => .rt x
theorem ds_ret {f : Ms → Rz PyData} (he : DV X ct Wx e f) : DS X ct Wx (.Return (some e) pos) (sRet f) :=
  ds_of (ps_ret he.pe) fun D σ H B Fz m h q => tV_end (k := fun x _ => .rt x) h q fun _ v H' F' _ x r p q => q v H' F' .refl ⟨_, _, r⟩ p
def sRetN : Ms → Fl := fun _ => .rt .none
theorem ds_retN : DS X ct Wx (.Return none pos) sRetN := ds_of ps_retN fun D σ H B Fz m h q => q .non H Fz .refl ⟨_, _, h⟩ .non
def sIf (t : Ms → Rz Bool) (f g : Ms → Fl) : Ms → Fl := flE t fun b m => if b = true then f m else g m
theorem ds_if {t : Ms → Rz Bool} {f g : Ms → Fl} {A B : List Stmt} (ht : DT X ct Wx c t) (hf : DSs X ct Wx A f) (hg : DSs X ct Wx B g) : DS X ct Wx (.If c A B pos) (sIf t f g) :=
  ds_of (ps_if ht.pt hf.ps hg.ps) fun D σ H B Fz m h q => by
    refine ⟨B, Fz, m, h, ?_⟩
    unfold sIf flE at q
    cases hf : t m with
    | st => rw [hf] at q; exact q
    | ex c => rw [hf] at q; exact fun H' F' x r => q σ H' F' x r
    | ok b =>
      rw [hf] at q
      intro H' F' x r
      cases b with
      | true => rw [if_pos rfl]; exact tS_iff.mpr ⟨B, F', m, r, q.ext x⟩
      | false => rw [if_neg Bool.false_ne_true]; exact tS_iff.mpr ⟨B, F', m, r, q.ext x⟩
/-- code that is never reached -/
def sStuck : Ms → Fl := fun _ => .st
theorem ds_never : DS X ct Wx st sStuck := ds_of ps_never fun D σ H B Fz m h q => q.elim
theorem dss_never {sts : List Stmt} : DSs X ct Wx sts sStuck := dss_of pss_never fun D σ H B Fz m h q => q.elim

/-! ### targets -/
/-- what is stored where; vs: the slots that are touched -/
def gD (K : PySem.W.Frag) (vs : List Nat) (s : PyData → Ms → Option Ms) : TG := fun v σ H Q => ∃ B Fz m x, Rs K B Fz H σ m ∧ Rp K Fz H v x ∧
  match s x m with
  | some m' => ∀ σ', Rs K B Fz H σ' m' → σ'.length = σ.length → (∀ j, j ∉ vs → σ'[j]? = σ[j]?) → Q σ' H
  | none => False
def OffM {α : Type} (vs : List Nat) (s : α → Ms → Option Ms) : Prop := ∀ x m m', s x m = some m' → m'.length = m.length ∧ ∀ j, j ∉ vs → m'[j]? = m[j]?
structure DG (X : Cx) (tg : Expr) (vs : List Nat) (s : PyData → Ms → Option Ms) : Prop where
  pg : PG X tg (gD X.K vs s)
  off : OffM vs s
theorem PG_imp {tg : Expr} {t t' : TG} (h : PG X tg t) (q : ∀ v σ H Q, t' v σ H Q → t v σ H Q) : PG X tg t' := ⟨fun pins s σ H v u Q I r w => h.run pins s σ H v u Q I r (q _ _ _ _ w)⟩
def gSet (i : Nat) : PyData → Ms → Option Ms := fun x m => if i < m.length then some (m.set i (some (.d x))) else none
theorem dg_name {x : Str} (i : Nat) (hN : X.N.Nodup) (hi : X.N[i]? = some x := by rfl) (hx : Loc X.env.scope x := by first | exact Or.inl rfl | exact Or.inr rfl) (hf : X.fn x = true ∨ X.env.scope.names.lookup x = some .local := by first | exact .inl rfl | exact .inr rfl) :
    DG X (.Name x pos) [i] (gSet i) := ⟨PG_imp (pg_name hN hi hx hf) fun v σ H Q ⟨B, Fz, m, x, h, r, q⟩ => by
  unfold gSet at q
  split at q
  · rename_i hs
    split at hs
    · rename_i hl
      cases hs
      refine q _ ((h.push r).put i hl) (by simp) fun j hj => ?_
      rw [List.getElem?_set_ne]
      intro z; exact hj (by simp [z])
    · cases hs
  · exact q.elim, fun x m m' e => by
    unfold gSet at e
    split at e
    · cases e
      refine ⟨List.length_set, fun j hj => ?_⟩
      rw [List.getElem?_set_ne]
      intro z; exact hj (by simp [z])
    · cases e⟩
/-- several targets -/
def gDs (K : PySem.W.Frag) (vs : List Nat) (s : List PyData → Ms → Option Ms) : TGs := fun v σ H Q => ∃ B Fz m x, Rs K B Fz H σ m ∧ RpAll K Fz H v x ∧
  match s x m with
  | some m' => ∀ σ', Rs K B Fz H σ' m' → σ'.length = σ.length → (∀ j, j ∉ vs → σ'[j]? = σ[j]?) → Q σ' H
  | none => False
structure DGs (X : Cx) (ts : List Expr) (vs : List Nat) (s : List PyData → Ms → Option Ms) : Prop where
  pg : PGs X ts (gDs X.K vs s)
  off : OffM vs s
theorem PGs_imp {ts : List Expr} {t t' : TGs} (h : PGs X ts t) (q : ∀ v σ H Q, t' v σ H Q → t v σ H Q) : PGs X ts t' := ⟨fun pins s σ H v u Q I r w => h.run pins s σ H v u Q I r (q _ _ _ _ w)⟩
def gNil : List PyData → Ms → Option Ms := fun xs m => match xs with
  | [] => some m
  | _ => none
def gCons (s : PyData → Ms → Option Ms) (t : List PyData → Ms → Option Ms) : List PyData → Ms → Option Ms := fun xs m => match xs with
  | x :: r => (s x m).bind fun m' => t r m'
  | [] => none
theorem dgs_nil : DGs X [] [] gNil := ⟨PGs_imp pgs_nil fun v σ H Q ⟨B, Fz, m, x, h, r, q⟩ => by
  unfold gNil at q
  cases x with
  | nil =>
    cases r
    exact ⟨rfl, q σ h rfl fun _ _ => rfl⟩
  | cons _ _ => exact q.elim, fun x m m' e => by
    unfold gNil at e
    split at e
    · cases e; exact ⟨rfl, fun _ _ => rfl⟩
    · cases e⟩
theorem dgs_cons {tg : Expr} {ts : List Expr} {v1 v2 : List Nat} {s : PyData → Ms → Option Ms} {t : List PyData → Ms → Option Ms} (h1 : DG X tg v1 s) (h2 : DGs X ts v2 t)
    (hs : (assignEach (tg :: ts) X.env).map (·.2) = assign tg X.env :: (assignEach ts X.env).map (·.2) := by rfl) : DGs X (tg :: ts) (v1 ++ v2) (gCons s t) := ⟨PGs_imp (pgs_cons h1.pg h2.pg hs) fun v σ H Q ⟨B, Fz, m, x, h, r, q⟩ => by
  unfold gCons at q
  cases x with
  | nil => exact q.elim
  | cons y ys =>
    cases r with
    | @cons u us _ _ r rs =>
      refine ⟨u, us, rfl, B, Fz, m, y, h, r, ?_⟩
      dsimp only at q
      cases hs : s y m with
      | none => rw [hs] at q; exact q
      | some m' =>
        rw [hs] at q
        intro σ' h' l' o'
        refine ⟨B, Fz, m', ys, h', rs, ?_⟩
        cases ht : t ys m' with
        | none => rw [Option.bind_some, ht] at q; exact q
        | some m2 =>
          rw [Option.bind_some, ht] at q
          exact fun σ2 h2 l2 o2 => q σ2 h2 (l2.trans l') fun j hj => (o2 j fun z => hj (List.mem_append_right _ z)).trans (o' j fun z => hj (List.mem_append_left _ z)), fun x m m' e => by
    unfold gCons at e
    cases x with
    | nil => cases e
    | cons y r =>
      dsimp only at e
      cases hs : s y m with
      | none => rw [hs] at e; cases e
      | some m1 =>
        rw [hs, Option.bind_some] at e
        obtain ⟨l1, o1⟩ := h1.off _ _ _ hs
        obtain ⟨l2, o2⟩ := h2.off _ _ _ e
        exact ⟨l2.trans l1, fun j hj => (o2 j fun z => hj (List.mem_append_right _ z)).trans (o1 j fun z => hj (List.mem_append_left _ z))⟩⟩
def gTup' (n : Nat) (t : List PyData → Ms → Option Ms) : PyData → Ms → Option Ms := fun x m => match x with
  | .tuple xs => if xs.length = n then t xs m else none
  | _ => none
theorem dg_tup {ts : List Expr} {k : Nat} {vs : List Nat} {t : List PyData → Ms → Option Ms} {n : Nat} (h : DGs X ts vs t) (hc : X.calm = true := by rfl) (hn : (assignEach ts X.env).length = n := by rfl)
    (hst : (assignEach ts X.env).findIdx? (·.1) = none := by rfl) : DG X (.Tuple ts k pos) vs (gTup' n t) := ⟨PG_imp (pg_tup hc h.pg hn hst) fun v σ H Q ⟨B, Fz, m, x, h, r, q⟩ => by
  unfold gTup' at q
  cases x with
  | tuple xs =>
    dsimp only at q
    obtain ⟨a, us, rfl, s, r⟩ := r.tupE
    by_cases hl : xs.length = n
    · rw [if_pos hl] at q
      exact ⟨a, us, rfl, s, r.length.trans hl, B, Fz, m, xs, h, r, q⟩
    · rw [if_neg hl] at q
      exact q.elim
  | _ => exact q.elim, fun x m m' e => by
    unfold gTup' at e
    cases x with
    | tuple xs =>
      dsimp only at e
      split at e
      · exact h.off _ _ _ e
      · cases e
    | _ => cases e⟩
/-- target = value -/
def sAsg (f : Ms → Rz PyData) (s : PyData → Ms → Option Ms) : Ms → Fl := flE f fun x m => match s x m with
  | some m' => .nx m'
  | none => .st
theorem ds_asg {tg : Expr} {vs : List Nat} {s : PyData → Ms → Option Ms} {f : Ms → Rz PyData} (he : DV X ct Wx e f) (hg : DG X tg vs s) (hs : swapsWithSole [tg] e pos.line X.env = pure false := by rfl) (hw : swappedStores [tg] e X.env = pure none := by rfl)
    (h1 : (assignEach [tg] X.env).map (·.2) = [assign tg X.env] := by rfl) : DS X ct Wx (.Assign [tg] e pos) (sAsg f s) :=
  ds_of (ps_asg he.pe hg.pg hs hw h1) fun D σ H B Fz m h q => by
    refine tV_end (k := fun x m => match s x m with | some m' => .nx m' | none => .st) h q fun y v H' F' _ x r p q => ?_
    refine ⟨B, F', m, y, r, p, ?_⟩
    cases hs : s y m with
    | none => rw [hs] at q; exact q
    | some m' => rw [hs] at q; exact fun σ' h' _ _ => q σ' H' F' .refl h'
/-- a, b = x, y -/
def sPar (i j : Nat) (f g : Ms → Rz PyData) : Ms → Fl := flE (evalAllD [f, g]) fun xs m => match xs with
  | [x, y] => if i < m.length ∧ j < m.length then .nx ((m.set i (some (.d x))).set j (some (.d y))) else .st
  | _ => .st
theorem ds_par {i j : Nat} {x y : Str} {fa fb : Ms → Rz PyData} {px py pt : Pos} {kt k2 pt2} (hN : X.N.Nodup) (ha : DA X ct Wx [a, b] [fa, fb]) (hc : X.calm = true := by rfl) (hi : X.N[i]? = some x := by rfl) (hj : X.N[j]? = some y := by rfl) (hij : i ≠ j := by decide)
    (hx : X.env.scope.names.lookup x = some .local := by rfl) (hy : X.env.scope.names.lookup y = some .local := by rfl)
    (hw : swappedStores [.Tuple [.Name x px, .Name y py] kt pt] (.Tuple [a, b] k2 pt2) X.env = pure (some [x, y]) := by rfl)
    (hs : swapsWithSole [.Tuple [.Name x px, .Name y py] kt pt] (.Tuple [a, b] k2 pt2) pos.line X.env = pure false := by rfl) :
    DS X ct Wx (.Assign [.Tuple [.Name x px, .Name y py] kt pt] (.Tuple [a, b] k2 pt2) pos) (sPar i j fa fb) :=
  ds_of (ps_par hc hN hi hj hij hx hy ha.pa hw hs) fun D σ H B Fz m h q => by
    refine ⟨B, Fz, m, h, ?_⟩
    unfold sPar flE at q
    cases hf : evalAllD [fa, fb] m with
    | st => rw [hf] at q; exact q
    | ex c => rw [hf] at q; exact fun H' F' x r => q σ H' F' x r
    | ok xs =>
      rw [hf] at q
      intro vs H' F' x r p
      match xs, p, q with
      | [y, z], .cons p1 (.cons p2 .nil), q =>
        refine ⟨_, _, rfl, ?_⟩
        have q : EndS X.K ct Wx B Fz D (if i < m.length ∧ j < m.length then .nx ((m.set i (some (.d y))).set j (some (.d z))) else .st) := q
        split at q
        · rename_i hl
          exact q _ _ F' x ((((r.push p1).put i hl.1).push p2).put j (by simpa using hl.2))
        · exact q.elim
      | [], _, q => exact q.elim
      | [_], _, q => exact q.elim
      | _ :: _ :: _ :: _, _, q => exact q.elim
/-- name op= e -/
def ipD (g : Int → Int → Int) : PyData → PyData → Option PyData
  | .int i, .int j => some (.int (g i j))
  | _, _ => none
def sAug (i : Nat) (g : Int → Int → Int) (f : Ms → Rz PyData) : Ms → Fl := fun m => match vVar i m with
  | .ok x => flE f (fun y m => match ipD g x y with
    | some z => if i < m.length then .nx (m.set i (some (.d z))) else .st
    | none => .st) m
  | _ => .st
theorem ds_aug {i : Nat} {x : Str} {f : Ms → Rz PyData} {op : Operator} {g : Int → Int → Int} {pos' : Pos} (ho : PIp X op (ipI g)) (hN : X.N.Nodup) (he : DV X ct Wx e f) (hi : X.N[i]? = some x := by rfl) (hx : Loc X.env.scope x := by first | exact Or.inl rfl | exact Or.inr rfl)
    (hf : X.fn x = true ∨ X.env.scope.names.lookup x = some .local := by first | exact .inl rfl | exact .inr rfl) : DS X ct Wx (.AugAssign (.Name x pos') op e pos) (sAug i g f) :=
  ds_of (ps_aug hN hi hx he.pe ho hf) fun D σ H B Fz m h q => by
    unfold sAug at q
    cases hv : vVar i m with
    | st => rw [hv] at q; exact q.elim
    | ex c => exact absurd hv vVar_ex
    | ok y =>
      rw [hv] at q
      obtain ⟨v, h1, h2⟩ := h.get (vVar_ok hv)
      refine ⟨v, h1, ?_⟩
      obtain ⟨B2, hB, he', ht⟩ := h.step
      refine ⟨B2, Fz, m, hB, ?_⟩
      have q : EndS X.K ct Wx B Fz D (flE f (fun y' m => match ipD g y y' with | some z => if i < m.length then .nx (m.set i (some (.d z))) else .st | none => .st) m) := q
      unfold flE at q
      cases hf : f m with
      | st => rw [hf] at q; exact q
      | ex c => rw [hf] at q; exact fun H' F' x r => q σ H' F' (he' _ x) (ht (ρ := []) (r := []) x r rfl).1
      | ok z =>
        rw [hf] at q
        intro u H' F' x r
        obtain ⟨r', l⟩ := ht (ρ := []) (r := []) x r.1 rfl
        have q : EndS X.K ct Wx B Fz D (match ipD g y z with | some z => if i < m.length then .nx (m.set i (some (.d z))) else .st | none => .st) := q
        unfold ipD at q
        cases y with
        | int iy =>
          cases z with
          | int iz =>
            have q : EndS X.K ct Wx B Fz D (if i < m.length then .nx (m.set i (some (.d (.int (g iy iz))))) else .st) := q
            cases h2
            cases r.2
            refine ⟨iy, iz, rfl, rfl, ?_⟩
            split at q
            · rename_i hl
              exact q _ _ F' (he' _ x) ((Rs.push r' (Rp.int (g iy iz))).put i hl)
            · exact q.elim
          | _ => exact q.elim
        | _ => exact q.elim
end
end Dl
set_option Elab.async false
set_option linter.all false
set_option maxRecDepth 100000
/-! D7: loops. -/
namespace Dl
open PySem PySem.Spec PyProof.Rows L2
section
variable {K : PySem.W.Frag} {B : Hp} {Fz : Addr → Prop} {H : Hp} {σ τ : L2.St} {m n : Ms} {ct : CT} {Wx : WX}
theorem RL.split : ∀ {τ σ : L2.St} {n m : Ms} {fp : List Addr}, RL K Fz H (τ ++ σ) (n ++ m) fp → τ.length = n.length → ∃ f1 f2, fp = f1 ++ f2 ∧ RL K Fz H τ n f1 ∧ RL K Fz H σ m f2
  | [], σ, [], m, fp, h, _ => ⟨[], fp, rfl, .nil, h⟩
  | [], _, _ :: _, _, _, _, hl => by simp at hl
  | _ :: _, _, [], _, _, _, hl => by simp at hl
  | x :: τ, σ, y :: n, m, fp, h, hl => by
    rw [List.cons_append, List.cons_append] at h
    cases h with
    | no r =>
      obtain ⟨f1, f2, e, a, b⟩ := RL.split r (by simpa using hl)
      exact ⟨f1, f2, e, .no a, b⟩
    | @so _ _ f _ _ _ q r =>
      obtain ⟨f1, f2, e, a, b⟩ := RL.split r (by simpa using hl)
      exact ⟨f ++ f1, f2, by rw [e, List.append_assoc], .so q a, b⟩
theorem RL.glue {f2 : List Addr} : ∀ {τ : L2.St} {n : Ms} {f1 : List Addr}, RL K Fz H τ n f1 → RL K Fz H σ m f2 → RL K Fz H (τ ++ σ) (n ++ m) (f1 ++ f2)
  | _, _, _, .nil, b => b
  | _, _, _, .no r, b => .no (RL.glue r b)
  | _, _, _, .so q r, b => by rw [List.append_assoc]; exact .so q (RL.glue r b)
open Classical in
/-- values τ are held; what comes behind leaves them alone, whatever it does to the slots -/
theorem Rs.holdG (h : Rs K B Fz H (τ ++ σ) (n ++ m)) (hl : τ.length = n.length) : ∃ B2 : Hp, Rs K B2 Fz H σ m ∧ (∀ F1 F', Ext B2 F1 F' → Ext B F1 F') ∧
    ∀ {Fz' : Addr → Prop} {H' : Hp} {ρ : L2.St} {r : Ms}, Ext B2 Fz Fz' → Rs K B2 Fz' H' ρ r → Rs K B Fz' H' (τ ++ ρ) (n ++ r) ∧ Le Fz H Fz' H' := by
  obtain ⟨fp, rl, nd, own, base, fz⟩ := h
  obtain ⟨f1, f2, e, r1, r2⟩ := RL.split rl hl
  subst e
  rw [List.nodup_append] at nd
  obtain ⟨nd1, nd2, nd3⟩ := nd
  have b2s : ∀ a o, (if a ∈ f2 then none else H a) = some o → a ∉ f2 ∧ H a = some o := fun a o q => by
    by_cases z : a ∈ f2
    · rw [if_pos z] at q; cases q
    · rw [if_neg z] at q; exact ⟨z, q⟩
  have bb : ∀ a, (if a ∈ f2 then (none : Option HO) else H a) = none → B a = none := fun a q => by
    by_cases z : a ∈ f2
    · exact (own a (List.mem_append_right _ z)).1
    · rw [if_neg z] at q
      cases w : B a with
      | none => rfl
      | some o => rw [base a o w] at q; cases q
  refine ⟨fun a => if a ∈ f2 then none else H a, ⟨f2, r2, nd2, fun a ha => ⟨if_pos ha, (own a (List.mem_append_right _ ha)).2⟩, fun a o q => (b2s a o q).2, fz⟩, fun F1 F' x => ⟨x.le, fun a ha => (x.new a ha).imp id (bb a)⟩, ?_⟩
  intro Fz' H' ρ r x h'
  obtain ⟨fp', rl', nd', own', base', fz'⟩ := h'
  have st : ∀ a o, H a = some o → a ∉ f2 → H' a = some o := fun a o q z => base' a o (by rw [if_neg z]; exact q)
  have l : Le Fz H Fz' H' := ⟨x.le, fun a o q k => st a o q fun z => by
    rcases k with k | k
    · exact (own a (List.mem_append_right _ z)).2 k
    · obtain ⟨vs, q', n⟩ := r2.own a z
      rw [q] at q'; cases q'
      exact n k⟩
  have d1 : ∀ a ∈ f1, (if a ∈ f2 then none else H a) ≠ none := fun a ha => by
    have z : a ∉ f2 := fun z => nd3 a ha a z rfl
    rw [if_neg z]
    obtain ⟨vs, q, _⟩ := r1.own a ha
    rw [q]; simp
  have rt : RL K Fz' H' τ n f1 := r1.mono l fun a ha o q => st a o q fun z => nd3 a ha a z rfl
  refine ⟨⟨f1 ++ fp', RL.glue rt rl', ?_, fun a ha => ?_, fun a o q => ?_, fz'⟩, l⟩
  · rw [List.nodup_append]
    refine ⟨nd1, nd', fun a ha b hb e => ?_⟩
    subst e
    exact d1 a ha (own' a hb).1
  · rcases List.mem_append.mp ha with ha | ha
    · refine ⟨(own a (List.mem_append_left _ ha)).1, fun z => ?_⟩
      rcases x.new a z with z | z
      · exact (own a (List.mem_append_left _ ha)).2 z
      · exact d1 a ha z
    · exact ⟨bb a (own' a ha).1, (own' a ha).2⟩
  · have z : a ∉ f2 := fun z => by
      have := (own a (List.mem_append_right _ z)).1
      rw [q] at this; cases this
    exact st a o (base a o q) z
theorem Rs.stepG (h : Rs K B Fz H σ m) : ∃ B2 : Hp, Rs K B2 Fz H σ m ∧ (∀ F1 F', Ext B2 F1 F' → Ext B F1 F') ∧
    ∀ {Fz' : Addr → Prop} {H' : Hp} {ρ : L2.St} {r : Ms}, Ext B2 Fz Fz' → Rs K B2 Fz' H' ρ r → Rs K B Fz' H' ρ r ∧ Le Fz H Fz' H' := by
  obtain ⟨B2, h1, h2, h3⟩ := Rs.holdG (τ := []) (n := []) (by simpa using h) rfl
  exact ⟨B2, h1, h2, fun x h' => by simpa using h3 x h'⟩
/-- slots that hold nothing may be anything -/
theorem RL.anyway : ∀ {σ : L2.St} {m : Ms} {fp : List Addr}, RL K Fz H σ m fp → ∀ {ρ : L2.St}, ρ.length = σ.length → (∀ j : Nat, m[j]? ≠ some none → ρ[j]? = σ[j]?) → RL K Fz H ρ m fp
  | _, _, _, .nil, ρ, hl, _ => by
    cases ρ with
    | nil => exact .nil
    | cons _ _ => simp at hl
  | _, _, _, .no r, ρ, hl, hj => by
    cases ρ with
    | nil => simp at hl
    | cons y ρ => exact .no (RL.anyway r (by simpa using hl) fun j h => by simpa using hj (j + 1) (by simpa using h))
  | _, _, _, .so q r, ρ, hl, hj => by
    cases ρ with
    | nil => simp at hl
    | cons y ρ =>
      have e := hj 0 (by simp)
      simp at e
      subst e
      exact .so q (RL.anyway r (by simpa using hl) fun j h => by simpa using hj (j + 1) (by simpa using h))
theorem Rs.anyway {ρ : L2.St} (h : Rs K B Fz H σ m) (hl : ρ.length = σ.length) (hj : ∀ j : Nat, m[j]? ≠ some none → ρ[j]? = σ[j]?) : Rs K B Fz H ρ m := by
  obtain ⟨fp, r⟩ := h
  exact ⟨fp, r.rl.anyway hl hj, r.nd, r.own, r.base, r.fz⟩
/-- the end is the same from a base that stands on more -/
theorem EndS.up {B2 : Hp} {D : Ends} {f : Fl} (h2 : ∀ F1 F', Ext B2 F1 F' → Ext B F1 F') (h3 : ∀ {Fz' : Addr → Prop} {H' : Hp} {ρ : L2.St} {r : Ms}, Ext B2 Fz Fz' → Rs K B2 Fz' H' ρ r → Rs K B Fz' H' ρ r ∧ Le Fz H Fz' H') (h : EndS K ct Wx B Fz D f) : EndS K ct Wx B2 Fz D f := by
  cases f with
  | st => exact h
  | nx m => exact fun σ' H' F' x r => h σ' H' F' (h2 _ _ x) (h3 x r).1
  | rt y => exact fun v H' F' x ⟨σ', m', r⟩ => h v H' F' (h2 _ _ x) ⟨σ', m', (h3 x r).1⟩
  | rq y => exact fun v H' F' x ⟨σ', m', r⟩ => h v H' F' (h2 _ _ x) ⟨σ', m', (h3 x r).1⟩
  | bk m => exact fun σ' H' F' x r => h σ' H' F' (h2 _ _ x) (h3 x r).1
  | ct m => exact fun σ' H' F' x r => h σ' H' F' (h2 _ _ x) (h3 x r).1
  | ex c m => exact fun σ' H' F' x r => h σ' H' F' (h2 _ _ x) (h3 x r).1

/-! ### what is walked -/
/-- J yields the items xs, whatever comes to pass that leaves frozen data alone -/
def ItOk (K : PySem.W.Frag) (Fz : Addr → Prop) (H : Hp) (J : It) (xs : List PyData) : Prop := ∀ Fz' H', Le Fz H Fz' H' → (∀ i, i < xs.length → J.go i H') ∧ J.stop xs.length H' ∧
  ∀ (i : Nat) (x : PyData) (v : V) (H'' : Hp), xs[i]? = some x → J.yld i H' v H'' → (H'' = H' ∨ ∃ (p : Addr) (ts : List V), H' p = none ∧ H'' = upd H' p (.tup ts)) ∧ Rp K Fz' H'' v x
def tI (K : PySem.W.Frag) (ct : CT) (Wx : WX) (f : Ms → Rz (List PyData)) : TI := fun σ H R => ∃ B Fz m, Rs K B Fz H σ m ∧ match f m with
  | .st => False
  | .ok xs => ∀ J H' Fz', Ext B Fz Fz' → Rs K B Fz' H' σ m → ItOk K Fz' H' J xs → xs.length ≤ sizeLine → R J H'
  | .ex c => ∀ H' Fz', Ext B Fz Fz' → Rs K B Fz' H' σ m → Wx (ct c) Option.none σ H'
end
structure DI (X : Cx) (ct : CT) (Wx : WX) (tg e : Expr) (f : Ms → Rz (List PyData)) : Prop where
  pi : PI X tg e (tI X.K ct Wx f)
theorem PI_imp {X : Cx} {tg e : Expr} {t t' : TI} (h : PI X tg e t) (q : ∀ σ H R, t' σ H R → t σ H R) : PI X tg e t' := ⟨fun pins s σ H R I w => h.run pins s σ H R I (q _ _ _ w)⟩
/-- what is tracked has a bound -/
theorem pi_fin {X : Cx} {tg e : Expr} {t : TI} (h : PI X tg e t) : PI X tg e (fun σ H R => t σ H fun J H' => (∀ a xs, SqL X.K H' a xs → xs.length ≤ sizeLine) → (∀ a xs, SqT X.K H' a xs → xs.length ≤ sizeLine) → R J H') := ⟨fun pins s σ H R I w => by
  refine thn (h.run pins s σ H _ I w) fun v s1 q => thn q fun itv s2 ⟨it, fp, tn, J, H', e, I', T, t0, f, r⟩ => ⟨it, fp, tn, J, H', e, I', T, t0, f, r (fun a xs hq => ?_) fun a xs hq => ?_⟩
  · obtain ⟨_, _, _, hz⟩ := I'.list hq; exact hz
  · obtain ⟨_, _, _, hz⟩ := I'.tuple hq; exact hz⟩
section
variable {X : Cx} {ct : CT} {Wx : WX} {tg e a b c : Expr} {p pos : Pos} {K : PySem.W.Frag} {Fz : Addr → Prop} {H : Hp}
theorem itl_ok {a : Addr} {vs : List V} {ds : List PyData} (f : Fz a) (hq : H a = some (.lst vs)) (r : RpAll K Fz H vs ds) : ItOk K Fz H (Itl K a) ds := fun Fz' H' l => by
  have hq' : SqL K H' a vs := .inl (.inl (l.hp a _ hq (.inl f)))
  have r' := r.mono l
  refine ⟨fun i hi => ⟨vs, vs[i]'(by rw [r.length]; exact hi), hq', List.getElem?_eq_getElem _⟩, ⟨vs, hq', Nat.le_of_eq r.length⟩, fun i x v H'' hx hy => ?_⟩
  obtain ⟨e, hy⟩ := hy
  subst e
  obtain ⟨w, hw, rw'⟩ := r'.get' hx
  have := hy vs hq'
  rw [hw] at this; cases this
  exact ⟨.inl rfl, rw'⟩
theorem itt_ok {a : Addr} {vs : List V} {ds : List PyData} (hq : SqT K H a vs) (r : RpAll K Fz H vs ds) : ItOk K Fz H (Itt K a) ds := fun Fz' H' l => by
  have hq' : SqT K H' a vs := sqT_le l hq
  have r' := r.mono l
  refine ⟨fun i hi => ⟨vs, vs[i]'(by rw [r.length]; exact hi), hq', List.getElem?_eq_getElem _⟩, ⟨vs, hq', Nat.le_of_eq r.length⟩, fun i x v H'' hx hy => ?_⟩
  obtain ⟨e, hy⟩ := hy
  subst e
  obtain ⟨w, hw, rw'⟩ := r'.get' hx
  have := hy vs hq'
  rw [hw] at this; cases this
  exact ⟨.inl rfl, rw'⟩
/-- the items of a list or tuple -/
def itemsOf : PyData → Rz (List PyData)
  | .list xs => .ok xs
  | .tuple xs => .ok xs
  | _ => .st
def iSeq (f : Ms → Rz PyData) : Ms → Rz (List PyData) := fun m => (f m).bind itemsOf
theorem pi_seq {te : TE} (he : PE X e te) : PI X tg e (fun σ H R => te σ H fun x H1 => (∃ a xs, x = .ref a ∧ SqL X.K H1 a xs ∧ R (Itl X.K a) H1) ∨ ∃ a xs, x = .ref a ∧ SqT X.K H1 a xs ∧ R (Itt X.K a) H1) := by
  have vpe : ∀ (x : V) (v : Value), RelV x v → PE X e te → True := fun _ _ _ _ => trivial
  refine ⟨fun pins s σ H R I h => ?_⟩
  refine thn (he.run pins s σ H _ I h) fun v s1 ⟨x, H1, I1, r1, q1⟩ => ?_
  rcases q1 with ⟨a, xs, e, hq, q⟩ | ⟨a, xs, e, hq, q⟩ <;> subst e <;> cases r1
  · obtain ⟨its, rv, p, hz⟩ := I1.list hq
    refine wpAny_pyIter_list p.isList ⟨_, [s1.heap.objs.size], _, _, H1, rfl, I1.kept (t' := s1.toks) fun _ _ => Heap.get?_push_of_some _, turn_list a _, ⟨_, Heap.get?_push_size _ rfl, rfl, rfl⟩, fun b hb => ?_, q⟩
    rw [List.mem_singleton.mp hb]
    exact I1.fpOk (Nat.le_refl _) (I1.hok.fresh (Nat.le_refl _))
  · obtain ⟨its, rv, p, hz⟩ := I1.tuple hq
    refine wpAny_pyIter_tuple (show s1.heap.IsTuple a its.toArray from p) ⟨_, [s1.heap.objs.size], _, _, H1, rfl, I1.kept (t' := s1.toks) fun _ _ => Heap.get?_push_of_some _, turn_tuple a _, ⟨_, Heap.get?_push_size _ rfl, rfl, rfl⟩, fun b hb => ?_, q⟩
    rw [List.mem_singleton.mp hb]
    exact I1.fpOk (Nat.le_refl _) (I1.hok.fresh (Nat.le_refl _))
/-- tV's end, for anything that goes on from a value -/
theorem tV_to {f : Ms → Rz PyData} {g : PyData → Rz (List PyData)} {σ : L2.St} {H : Hp} {R : It → Hp → Prop} {Q : VK} (w : tI X.K ct Wx (fun m => (f m).bind g) σ H R)
    (hk : ∀ B Fz m x xs v H', Rs X.K B Fz H' σ m → g x = .ok xs → Rp X.K Fz H' v x → (∀ J, ItOk X.K Fz H' J xs → xs.length ≤ sizeLine → R J H') → Q v H') (hg : ∀ x c, g x ≠ .ex c) : tV X.K ct Wx f σ H Q := by
  obtain ⟨B, Fz, m, r, q⟩ := w
  refine ⟨B, Fz, m, r, ?_⟩
  dsimp only at q
  cases hf : f m with
  | st => rw [hf] at q; exact q
  | ex c => rw [hf] at q; exact q
  | ok x =>
    rw [hf] at q
    have q : match g x with
      | .st => False
      | .ok xs => ∀ J H' Fz', Ext B Fz Fz' → Rs X.K B Fz' H' σ m → ItOk X.K Fz' H' J xs → xs.length ≤ sizeLine → R J H'
      | .ex c => ∀ H' Fz', Ext B Fz Fz' → Rs X.K B Fz' H' σ m → Wx (ct c) Option.none σ H' := q
    intro v H' F' x' ⟨r', rv⟩
    cases hx : g x with
    | st => rw [hx] at q; exact q.elim
    | ex c => exact absurd hx (hg x c)
    | ok xs =>
      rw [hx] at q
      exact hk B F' m x xs v H' r' hx rv fun J o l => q J H' F' x' r' o l
theorem di_seq {f : Ms → Rz PyData} (he : DV X ct Wx e f) : DI X ct Wx tg e (iSeq f) := ⟨PI_imp (pi_fin (pi_seq he.pe)) fun σ H R w => tV_to (g := itemsOf) w (fun B Fz m x xs v H' r hx rv hk => by
    cases rv with
    | lst f hq ra =>
      cases hx
      exact .inl ⟨_, _, rfl, .inl (.inl hq), fun h1 _ => hk _ (itl_ok f hq ra) (by rw [← ra.length]; exact h1 _ _ (.inl (.inl hq)))⟩
    | tup hq ra =>
      cases hx
      exact .inr ⟨_, _, rfl, .inl (.inl hq), fun _ h2 => hk _ (itt_ok (.inl (.inl hq)) ra) (by rw [← ra.length]; exact h2 _ _ (.inl (.inl hq)))⟩
    | tupK hq _ ra =>
      cases hx
      exact .inr ⟨_, _, rfl, hq _, fun _ h2 => hk _ (itt_ok (hq _) ra) (by rw [← ra.length]; exact h2 _ _ (hq _))⟩
    | _ => cases hx) fun x c => by cases x <;> simp [itemsOf]⟩
/-- a range -/
def rngL (lo : Int) (n : Nat) : List PyData := (List.range n).map fun (i : Nat) => .int (lo + i)
theorem itr_ok {lo : Int} {n : Nat} : ItOk K Fz H (Itr lo n) (rngL lo n) := fun Fz' H' l => by
  have hn : (rngL lo n).length = n := by simp [rngL]
  refine ⟨fun i hi => by rw [hn] at hi; exact hi, by rw [hn]; exact Nat.le_refl _, fun i x v H'' hx hy => ?_⟩
  obtain ⟨e, hv⟩ := hy
  subst e hv
  unfold rngL at hx
  rw [List.getElem?_map] at hx
  cases z : (List.range n)[i]? with
  | none => rw [z] at hx; cases hx
  | some j =>
    rw [z] at hx
    have : j = i := by
      obtain ⟨h1, h2⟩ := List.getElem?_eq_some_iff.mp z
      rw [← h2]; simp
    subst this
    cases hx
    exact ⟨.inl rfl, .int _⟩
/-- small bounds; not for the kernel to reckon -/
theorem ex_rngOk : ∃ f : Int → Int → Bool, ∀ i j, f i j = true ↔ (-(2 ^ 62) ≤ i ∧ i < 2 ^ 62 ∧ -(2 ^ 62) ≤ j ∧ j < 2 ^ 62 ∧ j - i ≤ 16777216) := ⟨fun i j => decide (-(2 ^ 62) ≤ i ∧ i < 2 ^ 62 ∧ -(2 ^ 62) ≤ j ∧ j < 2 ^ 62 ∧ j - i ≤ 16777216), fun i j => by rw [decide_eq_true_eq]⟩
noncomputable def rngOk : Int → Int → Bool := Classical.choose ex_rngOk
theorem rngOk_iff {i j : Int} : rngOk i j = true ↔ (-(2 ^ 62) ≤ i ∧ i < 2 ^ 62 ∧ -(2 ^ 62) ≤ j ∧ j < 2 ^ 62 ∧ j - i ≤ 16777216) := Classical.choose_spec ex_rngOk i j
noncomputable def rng1 : List PyData → Rz (List PyData)
  | [.int j] => if rngOk 0 j then .ok (rngL 0 j.toNat) else .st
  | _ => .st
noncomputable def rng2 : List PyData → Rz (List PyData)
  | [.int i, .int j] => if rngOk i j then .ok (rngL i (j - i).toNat) else .st
  | _ => .st
/-- tAv's end -/
theorem tAv_to {es : List (Ms → Rz PyData)} {g : List PyData → Rz (List PyData)} {σ : L2.St} {H : Hp} {R : It → Hp → Prop} {Q : List V → Hp → Prop} (w : tI X.K ct Wx (fun m => (evalAllD es m).bind g) σ H R)
    (hk : ∀ B Fz m x xs v H', Rs X.K B Fz H' σ m → g x = .ok xs → RpAll X.K Fz H' v x → (∀ J, ItOk X.K Fz H' J xs → xs.length ≤ sizeLine → R J H') → Q v H') (hg : ∀ x c, g x ≠ .ex c) : tAv X.K ct Wx es σ H Q := by
  obtain ⟨B, Fz, m, r, q⟩ := w
  refine ⟨B, Fz, m, r, ?_⟩
  dsimp only at q
  cases hf : evalAllD es m with
  | st => rw [hf] at q; exact q
  | ex c => rw [hf] at q; exact q
  | ok x =>
    rw [hf] at q
    have q : match g x with
      | .st => False
      | .ok xs => ∀ J H' Fz', Ext B Fz Fz' → Rs X.K B Fz' H' σ m → ItOk X.K Fz' H' J xs → xs.length ≤ sizeLine → R J H'
      | .ex c => ∀ H' Fz', Ext B Fz Fz' → Rs X.K B Fz' H' σ m → Wx (ct c) Option.none σ H' := q
    intro v H' F' x' r' rv
    cases hx : g x with
    | st => rw [hx] at q; exact q.elim
    | ex c => exact absurd hx (hg x c)
    | ok xs =>
      rw [hx] at q
      exact hk B F' m x xs v H' r' hx rv fun J o l => q J H' F' x' r' o l
def iArg (g : List PyData → Rz (List PyData)) (es : List (Ms → Rz PyData)) : Ms → Rz (List PyData) := fun m => (evalAllD es m).bind g
theorem RpAll.one {v : List V} {x : PyData} (r : RpAll K Fz H v [x]) : ∃ u, v = [u] ∧ Rp K Fz H u x := by
  cases r with | cons r z => cases z; exact ⟨_, rfl, r⟩
theorem RpAll.two {v : List V} {x y : PyData} (r : RpAll K Fz H v [x, y]) : ∃ u w, v = [u, w] ∧ Rp K Fz H u x ∧ Rp K Fz H w y := by
  cases r with | cons r z => cases z with | cons r' z => cases z; exact ⟨_, _, rfl, r, r'⟩
theorem rng1_ok {x : List PyData} {xs : List PyData} (h : rng1 x = .ok xs) : ∃ j, x = [.int j] ∧ rngOk 0 j = true ∧ xs = rngL 0 j.toNat := by
  unfold rng1 at h
  split at h
  · split at h
    · cases h; exact ⟨_, rfl, by assumption, rfl⟩
    · cases h
  · cases h
theorem rng2_ok {x : List PyData} {xs : List PyData} (h : rng2 x = .ok xs) : ∃ i j, x = [.int i, .int j] ∧ rngOk i j = true ∧ xs = rngL i (j - i).toNat := by
  unfold rng2 at h
  split at h
  · split at h
    · cases h; exact ⟨_, _, rfl, by assumption, rfl⟩
    · cases h
  · cases h
theorem rng1_ex {x : List PyData} {c : Nat} : rng1 x ≠ .ex c := by
  unfold rng1
  split
  · split <;> simp
  · simp
theorem rng2_ex {x : List PyData} {c : Nat} : rng2 x ≠ .ex c := by
  unfold rng2
  split
  · split <;> simp
  · simp
theorem rngL_len {lo : Int} {n : Nat} : (rngL lo n).length = n := by simp [rngL]
theorem di_range1 {f : Ms → Rz PyData} (ha : DA X ct Wx [a] [f]) (hm : X.mg "range" = none) (hg : Gl X "range" := by rfl) (hs : starEach [a] X.env = [(false, eval a X.env)] := by rfl) : DI X ct Wx tg (.Call (.Name "range" p) [a] [] pos) (iArg rng1 [f]) :=
  ⟨PI_imp (pi_range1 hg hm ha.pa hs) fun σ H R w => tAv_to (g := rng1) w (fun B Fz m x xs v H' r hx rv hk => by
    obtain ⟨j, rfl, ok, rfl⟩ := rng1_ok hx
    obtain ⟨u, rfl, ru⟩ := rv.one
    cases ru
    rw [rngOk_iff] at ok
    exact ⟨j, rfl, ok.2.2.1, ok.2.2.2.1, hk _ itr_ok (by rw [rngL_len, sizeLine_eq]; have := ok.2.2.2.2; omega)⟩) fun _ _ => rng1_ex⟩
theorem di_range2 {f g : Ms → Rz PyData} (ha : DA X ct Wx [a, b] [f, g]) (hm : X.mg "range" = none) (hg : Gl X "range" := by rfl) (hs : starEach [a, b] X.env = [(false, eval a X.env), (false, eval b X.env)] := by rfl) (hs2 : starEach [b] X.env = [(false, eval b X.env)] := by rfl) :
    DI X ct Wx tg (.Call (.Name "range" p) [a, b] [] pos) (iArg rng2 [f, g]) :=
  ⟨PI_imp (pi_range2 hg hm ha.pa hs hs2) fun σ H R w => tAv_to (g := rng2) w (fun B Fz m x xs v H' r hx rv hk => by
    obtain ⟨i, j, rfl, ok, rfl⟩ := rng2_ok hx
    obtain ⟨u, u2, rfl, ru, ru2⟩ := rv.two
    cases ru
    cases ru2
    rw [rngOk_iff] at ok
    exact ⟨i, j, rfl, ⟨ok.1, ok.2.1, ok.2.2.1, ok.2.2.2.1⟩, hk _ itr_ok (by rw [rngL_len, sizeLine_eq]; have := ok.2.2.2.2; omega)⟩) fun _ _ => rng2_ex⟩
end
end Dl
set_option Elab.async false
set_option linter.all false
set_option maxRecDepth 100000
/-! D8: writing in place; for, while, comprehensions. -/
namespace Dl
open PySem PySem.Spec PyProof.Rows L2
section
variable {K : PySem.W.Frag} {B : Hp} {Fz : Addr → Prop} {H : Hp} {σ τ : L2.St} {m n : Ms} {ct : CT} {Wx : WX}
theorem le_own {a : Addr} {vs us : List V} (ha : H a = some (.lst vs)) (nf : ¬ Fz a) : Le Fz H Fz (upd H a (.lst us)) := ⟨fun _ h => h, fun b o q k => by
  have : b ≠ a := fun e => by
    subst e
    rw [ha] at q; cases q
    exact k.elim nf id
  rw [upd_ne this]; exact q⟩
theorem RL.write : ∀ {σ : L2.St} {m : Ms} {fp : List Addr} (i : Nat) {xs : List PyData}, RL K Fz H σ m fp → fp.Nodup → (∀ a ∈ fp, ¬ Fz a) → m[i]? = some (some (.l xs)) → ∃ a vs, σ[i]? = some (some (.ref a)) ∧ H a = some (.lst vs) ∧ RpAll K Fz H vs xs ∧ a ∈ fp ∧
    ∀ (us : List V) (ys : List PyData), RpAll K Fz H us ys → RL K Fz (upd H a (.lst us)) σ (m.set i (some (.l ys))) fp
  | _, _, _, _, _, .nil, _, _, e => by simp at e
  | _, _, _, 0, _, .no _, _, _, e => by simp at e
  | _, _, _, i + 1, _, .no r, nd, nf, e => by
    obtain ⟨a, vs, h1, h2, h3, h4, h5⟩ := RL.write i r nd nf (by simpa using e)
    exact ⟨a, vs, by simpa using h1, h2, h3, h4, fun us ys r => .no (h5 us ys r)⟩
  | _, _, _, 0, _, .so (fp := fp) q r, nd, nf, e => by
    have e' := Option.some.inj (Option.some.inj e)
    subst e'
    cases q with
    | @l p vs _ e r' =>
      rw [List.singleton_append, List.nodup_cons] at nd
      refine ⟨p, vs, rfl, e, r', by simp, fun us ys ry => ?_⟩
      have l := le_own (us := us) e (nf p (by simp))
      exact .so (.l upd_same (ry.mono l)) (r.mono l fun b hb o q => by rw [upd_ne (fun z => nd.1 (by rw [← z]; exact hb))]; exact q)
  | _, _, _, i + 1, _, .so (f := f) q r, nd, nf, e => by
    rw [List.nodup_append] at nd
    obtain ⟨a, vs, h1, h2, h3, h4, h5⟩ := RL.write i r nd.2.1 (fun a ha => nf a (List.mem_append_right _ ha)) (by simpa using e)
    have l := fun us => le_own (us := us) h2 (nf a (List.mem_append_right _ h4))
    exact ⟨a, vs, by simpa using h1, h2, h3, List.mem_append_right _ h4, fun us ys ry => .so (q.mono (l us) fun b hb o q => by rw [upd_ne (fun z => nd.2.2 b hb a h4 z)]; exact q) (h5 us ys ry)⟩
/-- an own list is written -/
theorem Rs.write (i : Nat) {xs : List PyData} (h : Rs K B Fz H σ m) (e : m[i]? = some (some (.l xs))) : ∃ a vs, σ[i]? = some (some (.ref a)) ∧ H a = some (.lst vs) ∧ RpAll K Fz H vs xs ∧
    ∀ (us : List V) (ys : List PyData), RpAll K Fz H us ys → Rs K B Fz (upd H a (.lst us)) σ (m.set i (some (.l ys))) := by
  obtain ⟨fp, r⟩ := h
  obtain ⟨a, vs, h1, h2, h3, h4, h5⟩ := r.rl.write i r.nd (fun a ha => (r.own a ha).2) e
  refine ⟨a, vs, h1, h2, h3, fun us ys ry => ⟨fp, h5 us ys ry, r.nd, r.own, fun b o q => ?_, fun b hb => ?_⟩⟩
  · have : b ≠ a := fun z => by
      subst z
      rw [(r.own b h4).1] at q; cases q
    rw [upd_ne this]; exact r.base b o q
  · by_cases z : b = a
    · subst z; rw [upd_same]; simp
    · rw [upd_ne z]; exact r.fz b hb
/-! ### for -/
def goFor (s : PyData → Ms → Option Ms) (b : Ms → Fl) : List PyData → Ms → Fl
  | [], m => .nx m
  | x :: r, m => match s x m with
    | none => .st
    | some m1 => match b m1 with
      | .nx m2 => goFor s b r m2
      | .ct m2 => goFor s b r m2
      | .bk m2 => .nx m2
      | o => o
def flI {α : Type} (f : Ms → Rz α) (k : α → Ms → Fl) : Ms → Fl := flE f k
def sFor (f : Ms → Rz (List PyData)) (s : PyData → Ms → Option Ms) (b : Ms → Fl) : Ms → Fl := flE f fun xs m => goFor s b xs m
theorem yld_st {H' : Hp} (h : Rs K B Fz H σ m) (hh : H' = H ∨ ∃ (p : Addr) (ts : List V), H p = none ∧ H' = upd H p (.tup ts)) : Rs K B Fz H' σ m := by
  rcases hh with e | ⟨p, ts, hp, e⟩
  · rw [e]; exact h
  · rw [e]; exact h.new hp
end
section
variable {X : Cx} {ct : CT} {Wx : WX} {tg iter : Expr} {pos : Pos} {body : List Stmt}
theorem ds_for {f : Ms → Rz (List PyData)} {vs : List Nat} {s : PyData → Ms → Option Ms} {b : Ms → Fl} (hp : PassesOwn (model X.prog X.w) X.A X.env X.xe) (hi : DI X ct Wx tg iter f) (hg : DG X tg vs s) (hb : DSs X ct Wx body b) (hc : X.calm = true := by rfl)
    (hs : ∀ x, foldedSetIterable iter X.env x = pure x := by intro _; rfl) : DS X ct Wx (.For tg iter body [] pos) (sFor f s b) :=
  ds_of (ps_for hp hc hi.pi hg.pg hb.ps hs) fun D σ H B Fz m h q => by
    refine ⟨B, Fz, m, h, ?_⟩
    unfold sFor flE at q
    cases hf : f m with
    | st => rw [hf] at q; exact q
    | ex c => rw [hf] at q; exact fun H' F' x r => q σ H' F' x r
    | ok xs =>
      rw [hf] at q
      have q : EndS X.K ct Wx B Fz D (goFor s b xs m) := q
      intro J H1 F1 x1 r1 io ln
      obtain ⟨B3, h3, e3, up3⟩ := r1.stepG
      have q1 := (q.ext x1).up e3 up3
      refine ⟨fun i k σ H => k = xs.length - i ∧ i ≤ xs.length ∧ ∃ Fz m, Rs X.K B3 Fz H σ m ∧ Ext B3 F1 Fz ∧ EndS X.K ct Wx B3 Fz D (goFor s b (xs.drop i) m), ⟨_, rfl, Nat.zero_le _, F1, m, h3, .refl, q1⟩, ?_⟩
      rintro i k σ H ⟨rfl, hi, Fz, m, r, x, q⟩
      have l := (up3 x r).2
      obtain ⟨go, stop, yl⟩ := io Fz H l
      by_cases hlt : i < xs.length
      · refine .inr ⟨go i hlt, fun σ' H' => ∃ Fz m, Rs X.K B3 Fz H' σ' m ∧ Ext B3 F1 Fz ∧ EndS X.K ct Wx B3 Fz D (goFor s b (xs.drop (i + 1)) m), fun σ' H' z => ⟨xs.length - (i + 1), by omega, rfl, hlt, z⟩, fun v H' y => ?_⟩
        obtain ⟨hh, rv⟩ := yl i _ v H' (List.getElem?_eq_getElem hlt) y
        have r' := yld_st r hh
        rw [List.drop_eq_getElem_cons hlt] at q
        unfold goFor at q
        refine ⟨B3, Fz, m, _, r', rv, ?_⟩
        cases hs : s xs[i] m with
        | none => rw [hs] at q; exact q
        | some m1 =>
          rw [hs] at q
          intro σ2 r2 _ _
          refine tS_iff.mpr ⟨B3, Fz, m1, r2, ?_⟩
          dsimp only at q
          cases hb : b m1 with
          | st => rw [hb] at q; exact q
          | nx m2 => rw [hb] at q; exact fun σ3 H3 F3 x3 r3 => ⟨F3, m2, r3, x.trans x3, q.ext x3⟩
          | ct m2 => rw [hb] at q; exact fun σ3 H3 F3 x3 r3 => ⟨F3, m2, r3, x.trans x3, q.ext x3⟩
          | bk m2 => rw [hb] at q; exact q
          | rt x => rw [hb] at q; exact q
          | rq x => rw [hb] at q; exact q
          | ex c m2 => rw [hb] at q; exact q
      · have e : i = xs.length := by omega
        subst e
        rw [List.drop_length] at q
        exact .inl ⟨stop, q σ H Fz .refl r⟩
/-! ### while -/
def goWhile (t : Ms → Rz Bool) (b : Ms → Fl) : Nat → Ms → Fl
  | 0, _ => .st
  | n + 1, m => match t m with
    | .st => .st
    | .ex c => .ex c m
    | .ok false => .nx m
    | .ok true => match b m with
      | .nx m2 => goWhile t b n m2
      | .ct m2 => goWhile t b n m2
      | .bk m2 => .nx m2
      | o => o
theorem ds_while {t : Ms → Rz Bool} {c : Expr} {b : Ms → Fl} (k : Nat) (hp : PassesOwn (model X.prog X.w) X.A X.env X.xe) (ht : DT X ct Wx c t) (hb : DSs X ct Wx body b) : DS X ct Wx (.While c body [] pos) (goWhile t b k) :=
  ds_of (ps_while hp ht.pt hb.ps) fun D σ H B Fz m h q => by
    refine ⟨fun k σ H => ∃ Fz m, Rs X.K B Fz H σ m ∧ EndS X.K ct Wx B Fz D (goWhile t b k m), ⟨k, Fz, m, h, q⟩, ?_⟩
    rintro k σ H ⟨Fz, m, r, q⟩
    refine ⟨B, Fz, m, r, ?_⟩
    cases k with
    | zero => exact q.elim
    | succ n =>
      unfold goWhile at q
      cases ht : t m with
      | st => rw [ht] at q; exact q
      | ex c => rw [ht] at q; exact fun H' F' x r => q σ H' F' x r
      | ok w =>
        rw [ht] at q
        intro H1 F1 x1 r1
        cases w with
        | false => rw [if_neg Bool.false_ne_true]; exact q σ H1 F1 x1 r1
        | true =>
          rw [if_pos rfl]
          refine ⟨fun σ H => ∃ Fz m, Rs X.K B Fz H σ m ∧ EndS X.K ct Wx B Fz D (goWhile t b n m), fun σ' H' z => ⟨n, Nat.lt_succ_self _, z⟩, tS_iff.mpr ⟨B, F1, m, r1, ?_⟩⟩
          dsimp only at q
          cases hb : b m with
          | st => rw [hb] at q; exact q
          | nx m2 => rw [hb] at q; exact fun σ3 H3 F3 x3 r3 => ⟨F3, m2, r3, (q.ext x1).ext x3⟩
          | ct m2 => rw [hb] at q; exact fun σ3 H3 F3 x3 r3 => ⟨F3, m2, r3, (q.ext x1).ext x3⟩
          | bk m2 => rw [hb] at q; exact q.ext x1
          | rt x => rw [hb] at q; exact q.ext x1
          | rq x => rw [hb] at q; exact q.ext x1
          | ex c m2 => rw [hb] at q; exact q.ext x1
/-! ### comprehensions -/
theorem wipe_get {σ : L2.St} {j : Nat} : ∀ {vs : List Nat}, (wipe σ vs)[j]? = if j ∈ vs then (if j < σ.length then some none else none) else σ[j]?
  | [] => by simp [wipe]
  | v :: vs => by
    unfold wipe
    rw [List.getElem?_set, wipe_get (vs := vs), wipe_length]
    by_cases e : v = j
    · subst e; simp
    · rw [if_neg e]
      have : (j ∈ v :: vs) ↔ j ∈ vs := by simp [Ne.symm e]
      simp only [this]
theorem wipe_eq {σ ρ : L2.St} {vs : List Nat} (hl : ρ.length = (wipe σ vs).length) (h : ∀ j, j ∉ vs → ρ[j]? = (wipe σ vs)[j]?) : wipe ρ vs = wipe σ vs := by
  rw [wipe_length] at hl
  apply List.ext_getElem?
  intro j
  rw [wipe_get, wipe_get]
  by_cases e : j ∈ vs
  · rw [if_pos e, if_pos e, hl]
  · rw [if_neg e, if_neg e, h j e, wipe_get, if_neg e]
def wipeM (m : Ms) : List Nat → Ms
  | [] => m
  | v :: vs => (wipeM m vs).set v none
theorem wipeM_length {m : Ms} : ∀ {vs : List Nat}, (wipeM m vs).length = m.length
  | [] => rfl
  | v :: vs => by unfold wipeM; rw [List.length_set, wipeM_length]
theorem wipeM_get {m : Ms} {j : Nat} : ∀ {vs : List Nat}, (wipeM m vs)[j]? = if j ∈ vs then (if j < m.length then some none else none) else m[j]?
  | [] => by simp [wipeM]
  | v :: vs => by
    unfold wipeM
    rw [List.getElem?_set, wipeM_get (vs := vs), wipeM_length]
    by_cases e : v = j
    · subst e; simp
    · rw [if_neg e]
      have : (j ∈ v :: vs) ↔ j ∈ vs := by simp [Ne.symm e]
      simp only [this]
theorem Rs.clears {K : PySem.W.Frag} {B : Hp} {Fz : Addr → Prop} {H : Hp} {σ : L2.St} {m : Ms} {x : Option V} {y : Option W} (h : Rs K B Fz H (x :: σ) (y :: m)) : ∀ vs : List Nat, Rs K B Fz H (x :: wipe σ vs) (y :: wipeM m vs)
  | [] => h
  | v :: vs => (Rs.clears h vs).clear (v + 1)
/-- nothing, or data -/
def isNo : Option (Option W) → Bool
  | some none => true
  | some (some (.d _)) => true
  | _ => false
def wipeOk (vs : List Nat) (m : Ms) : Bool := vs.all fun i => isNo m[i]?
theorem wipeOk_get {vs : List Nat} {m : Ms} (h : wipeOk vs m = true) {j : Nat} (hj : j ∈ vs) : m[j]? = some none ∨ ∃ x, m[j]? = some (some (.d x)) := by
  have q := List.all_eq_true.mp h j hj
  unfold isNo at q
  split at q
  · rename_i e; exact .inl e
  · rename_i x e; exact .inr ⟨x, e⟩
  · cases q
/-- data that were put aside are there again -/
theorem RL.merge {K : PySem.W.Frag} {F1 Fz : Addr → Prop} {H1 H : Hp} (l : Le F1 H1 Fz H) : ∀ {σ : L2.St} {m : Ms} {fp : List Addr} {ρ : L2.St} {r : Ms} {fr : List Addr}, RL K F1 H1 σ m fp → RL K Fz H ρ r fr → r.length = m.length →
    (∀ j : Nat, (r[j]? = m[j]? ∧ ρ[j]? = σ[j]?) ∨ (r[j]? = some none ∧ (m[j]? = some none ∨ ∃ x, m[j]? = some (some (.d x))))) → RL K Fz H σ m fr
  | _, _, _, _, _, _, .nil, b, hl, _ => by
    cases b with
    | nil => exact .nil
    | no _ => simp at hl
    | so _ _ => simp at hl
  | _, _, _, _, _, _, .no a, b, hl, hj => by
    cases b with
    | nil => simp at hl
    | no b => exact .no (RL.merge l a b (by simpa using hl) fun j => by simpa using hj (j + 1))
    | so q b =>
      rcases hj 0 with ⟨e, _⟩ | ⟨e, _⟩ <;> simp at e
  | _, _, _, _, _, _, .so q a, b, hl, hj => by
    cases b with
    | nil => simp at hl
    | no b =>
      rcases hj 0 with ⟨e, _⟩ | ⟨_, e | ⟨x, e⟩⟩
      · simp at e
      · simp at e
      · simp at e
        subst e
        cases q with
        | d q => exact .so (f := []) (.d (q.mono l)) (RL.merge l a b (by simpa using hl) fun j => by simpa using hj (j + 1))
    | so q' b =>
      rcases hj 0 with ⟨e, e2⟩ | ⟨e, _⟩
      · simp at e e2
        subst e e2
        exact .so q' (RL.merge l a b (by simpa using hl) fun j => by simpa using hj (j + 1))
      · simp at e
def goLc (s : PyData → Ms → Option Ms) (t : Ms → Rz Bool) (e : Ms → Rz PyData) (m : Ms) : List PyData → Rz (List PyData)
  | [] => .ok []
  | x :: r => match s x m with
    | none => .st
    | some m1 => match t m1 with
      | .ok true => match e m1 with
        | .ok y => (goLc s t e m r).map (y :: ·)
        | _ => .st
      | .ok false => goLc s t e m r
      | _ => .st
def eLc (vs : List Nat) (f : Ms → Rz (List PyData)) (s : PyData → Ms → Option Ms) (t : Ms → Rz Bool) (e : Ms → Rz PyData) : Ms → Rz W := fun m => if wipeOk vs m = true then (f m).bind fun xs => (goLc s t e (wipeM m vs) xs).map .l else .st
theorem lc_sound {K : PySem.W.Frag} {Wy : WX} {vs : List Nat} {f : Ms → Rz (List PyData)} {s : PyData → Ms → Option Ms} {t : Ms → Rz Bool} {e : Ms → Rz PyData} (off : OffM vs s) {σ : L2.St} {H : Hp} {Q : VK} (w : tE K ct Wx (eLc vs f s t e) σ H Q) :
    tLc (tI K ct Wx f) (gD K vs s) (tT K ct Wy t) (tV K ct Wy e) vs σ H Q := by
  obtain ⟨B, Fz, m, r, q⟩ := w
  refine ⟨B, Fz, m, r, ?_⟩
  unfold eLc at q
  by_cases hw : wipeOk vs m = true
  · rw [if_pos hw] at q
    have no : ∀ {j}, j ∈ vs → (wipeM m vs)[j]? = some none := fun {j} hj => by
      have : j < m.length := by
        rcases wipeOk_get hw hj with e | ⟨x, e⟩ <;> exact (List.getElem?_eq_some_iff.mp e).1
      rw [wipeM_get, if_pos hj, if_pos this]
    cases hf : f m with
    | st => rw [hf] at q; exact q
    | ex c => rw [hf] at q; exact q
    | ok xs =>
      rw [hf, Rz.bind_ok] at q
      intro J H1 F1 x1 r1 io ln D hD
      cases hz : goLc s t e (wipeM m vs) xs with
      | st => rw [hz] at q; exact q.elim
      | ex c =>
        have noex : ∀ xs, goLc s t e (wipeM m vs) xs ≠ .ex c := fun xs => by
          induction xs with
          | nil => simp [goLc]
          | cons x r ih =>
            unfold goLc
            split
            · simp
            · split
              · split
                · intro z
                  cases hr : goLc s t e (wipeM m vs) r with
                  | st => rw [hr] at z; cases z
                  | ex c' => rw [hr] at z; cases z; exact ih hr
                  | ok _ => rw [hr] at z; cases z
                · simp
              · exact ih
              · simp
        exact absurd hz (noex xs)
      | ok zs =>
        rw [hz] at q
        obtain ⟨B2, h2, e2, up2⟩ := r1.stepG
        have hσ : Rs K B2 F1 H1 (wipe σ vs) (wipeM m vs) := by
          have := Rs.clears (x := some .non) (y := some (.d .none)) (h2.push .non) vs
          exact this.pop
        have rD := hσ.newLst hD .nil
        refine ⟨fun i k H => k = xs.length - i ∧ i ≤ xs.length ∧ ∃ Fz acc ys, Rs K B2 Fz H (some (.ref D) :: wipe σ vs) (some (.l acc) :: wipeM m vs) ∧ Ext B2 F1 Fz ∧ acc.length ≤ i ∧ goLc s t e (wipeM m vs) (xs.drop i) = .ok ys ∧ acc ++ ys = zs, ⟨_, rfl, Nat.zero_le _, F1, [], zs, rD, .refl, Nat.le_refl _, hz, rfl⟩, ?_⟩
        rintro i k H ⟨rfl, hi, Fz, acc, ys, rr, x, ha, hy, hyz⟩
        have l := (up2 x rr).2
        obtain ⟨go, stop, yl⟩ := io Fz H l
        by_cases hlt : i < xs.length
        · refine .inr ⟨go i hlt, fun H' => ∃ Fz acc ys, Rs K B2 Fz H' (some (.ref D) :: wipe σ vs) (some (.l acc) :: wipeM m vs) ∧ Ext B2 F1 Fz ∧ acc.length ≤ i + 1 ∧ goLc s t e (wipeM m vs) (xs.drop (i + 1)) = .ok ys ∧ acc ++ ys = zs, fun H' z => ⟨xs.length - (i + 1), by omega, rfl, hlt, z⟩, fun v H' y => ?_⟩
          obtain ⟨hh, rv⟩ := yl i _ v H' (List.getElem?_eq_getElem hlt) y
          have r' := yld_st rr hh
          obtain ⟨B3, h3, e3, up3⟩ := Rs.holdG (τ := [some (.ref D)]) (n := [some (.l acc)]) r' rfl
          rw [List.drop_eq_getElem_cons hlt] at hy
          unfold goLc at hy
          refine ⟨B3, Fz, wipeM m vs, _, h3, rv, ?_⟩
          cases hs : s xs[i] (wipeM m vs) with
          | none => rw [hs] at hy; cases hy
          | some m1 =>
            rw [hs] at hy
            intro σ2 r2 l2 o2
            dsimp only at hy
            have we := wipe_eq l2 o2
            refine ⟨we, B3, Fz, m1, r2, ?_⟩
            have wm : wipeM m1 vs = wipeM m vs := by
              obtain ⟨o1, o2⟩ := off _ _ _ hs
              apply List.ext_getElem?
              intro j
              rw [wipeM_get (m := m1)]
              by_cases z : j ∈ vs
              · rw [if_pos z, no z]
                have : j < m1.length := by rw [o1]; exact (List.getElem?_eq_some_iff.mp (no z)).1
                rw [if_pos this]
              · rw [if_neg z, o2 j z]
            cases ht : t m1 with
            | st => rw [ht] at hy; cases hy
            | ex c => rw [ht] at hy; cases hy
            | ok b =>
              rw [ht] at hy
              intro H3 F3 x3 r3
              cases b with
              | false =>
                rw [if_neg Bool.false_ne_true]
                dsimp only at hy
                have g := Rs.clears (x := some (.ref D)) (y := some (.l acc)) (σ := σ2) (m := m1) (up3 x3 r3).1 vs
                rw [we, wm] at g
                exact ⟨F3, acc, ys, g, x.trans (e3 _ _ x3), Nat.le_succ_of_le ha, hy, hyz⟩
              | true =>
                rw [if_pos rfl]
                dsimp only at hy
                refine ⟨B3, F3, m1, r3, ?_⟩
                cases he : e m1 with
                | st => rw [he] at hy; cases hy
                | ex c => rw [he] at hy; cases hy
                | ok z =>
                  rw [he] at hy
                  dsimp only at hy
                  intro u H4 F4 x4 ⟨r4, p4⟩
                  have g := Rs.clears (x := some (.ref D)) (y := some (.l acc)) (σ := σ2) (m := m1) (up3 (x3.trans x4) r4).1 vs
                  rw [we, wm] at g
                  obtain ⟨a, avs, g1, g2, g3, g4⟩ := g.write 0 rfl
                  have ea : a = D := by simpa using g1.symm
                  subst ea
                  cases hr : goLc s t e (wipeM m vs) (xs.drop (i + 1)) with
                  | st => rw [hr] at hy; cases hy
                  | ex c => rw [hr] at hy; cases hy
                  | ok y2 =>
                    rw [hr] at hy
                    cases hy
                    refine ⟨avs, g2, by rw [g3.length]; omega, F4, acc ++ [z], y2, g4 _ _ (g3.append (.cons p4 .nil)), x.trans (e3 _ _ (x3.trans x4)), by simp; omega, rfl, by rw [List.append_assoc]; exact hyz⟩
        · have e' : i = xs.length := by omega
          subst e'
          rw [List.drop_length] at hy
          cases hy
          rw [List.append_nil] at hyz
          subst hyz
          refine .inl ⟨stop, q _ H Fz (x1.trans (e2 _ _ x)) ?_⟩
          obtain ⟨fpr, rlr, nd, own, base, fz⟩ := (up2 x rr).1
          obtain ⟨fp1, s1⟩ := r1
          cases rlr with
          | @so _ _ f _ _ fp q rl =>
            refine ⟨_, .so q (RL.merge l s1.rl rl wipeM_length fun j => ?_), nd, own, base, fz⟩
            by_cases z : j ∈ vs
            · exact .inr ⟨no z, wipeOk_get hw z⟩
            · exact .inl ⟨by rw [wipeM_get, if_neg z], by rw [wipe_get, if_neg z]⟩
  · rw [if_neg hw] at q
    exact q.elim
/-- a comprehension's tests -/
structure DTs (X : Cx) (ct : CT) (Wx : WX) (ifs : List Expr) (t : Ms → Rz Bool) : Prop where
  pt : PTs X ifs (tT X.K ct Wx t)
theorem dts_nil : DTs X ct Wx [] (fun _ => .ok true) := ⟨⟨fun pins s σ H Q I ⟨B, Fz, m, r, q⟩ => pts_nil.run pins s σ H Q I (q H Fz .refl r)⟩⟩
theorem dts_one {c : Expr} {t : Ms → Rz Bool} (h : DT X ct Wx c t) : DTs X ct Wx [c] t := ⟨pts_one h.pt⟩
abbrev W0 : WX := fun _ _ _ _ => False
theorem de_lc {elt : Expr} {ifs : List Expr} {scope : Scope} {own : List (Str × Nat)} {f : Ms → Rz (List PyData)} {s : PyData → Ms → Option Ms} {t : Ms → Rz Bool} {e : Ms → Rz PyData} (hN : X.N.Nodup) (hi : DI X ct Wx tg iter f) (ok : BlkOk X.N X.env.scope scope own)
    (hg : ∀ (s' : Shared) (H : Hp) (C : Addr) (cl : List (Str × Addr)) (fp : List Addr), DG (X.blk s' H scope (compEnvC scope cl C X.env) fp) tg (own.map (·.2)) s)
    (ht : ∀ (s' : Shared) (H : Hp) (C : Addr) (cl : List (Str × Addr)) (fp : List Addr), DTs (X.blk s' H scope (compEnvC scope cl C X.env) fp) ct W0 ifs t)
    (he : ∀ (s' : Shared) (H : Hp) (C : Addr) (cl : List (Str × Addr)) (fp : List Addr), DV (X.blk s' H scope (compEnvC scope cl C X.env) fp) ct W0 elt e) (hc : X.calm = true := by rfl) (hs : ∀ x, foldedSetIterable iter X.env x = pure x := by intro _; rfl) :
    DE X ct Wx (.ListComp elt [⟨tg, iter, ifs, 0⟩] scope pos) (eLc (own.map (·.2)) f s t e) :=
  ⟨⟨fun pins s0 σ H Q I w => (pe_lc hc hN hi.pi ok (fun s' H C cl fp => (hg s' H C cl fp).pg) (fun s' H C cl fp => (ht s' H C cl fp).pt) (fun s' H C cl fp => (he s' H C cl fp).pe) hs).run pins s0 σ H Q I (lc_sound ((hg s0 H 0 [] []).off) w)⟩⟩
/-- name = [..] on one line -/
theorem ds_lc {elt : Expr} {ifs : List Expr} {scope : Scope} {own : List (Str × Nat)} {f : Ms → Rz (List PyData)} {s : PyData → Ms → Option Ms} {t : Ms → Rz Bool} {e : Ms → Rz PyData} {y : Str} {py spos : Pos} (i : Nat) (hN : X.N.Nodup) (hi : DI X ct Wx tg iter f) (ok : BlkOk X.N X.env.scope scope own)
    (hg : ∀ (s' : Shared) (H : Hp) (C : Addr) (cl : List (Str × Addr)) (fp : List Addr), DG (X.blk s' H scope (compEnvC scope cl C X.env) fp) tg (own.map (·.2)) s)
    (ht : ∀ (s' : Shared) (H : Hp) (C : Addr) (cl : List (Str × Addr)) (fp : List Addr), DTs (X.blk s' H scope (compEnvC scope cl C X.env) fp) ct W0 ifs t)
    (he : ∀ (s' : Shared) (H : Hp) (C : Addr) (cl : List (Str × Addr)) (fp : List Addr), DV (X.blk s' H scope (compEnvC scope cl C X.env) fp) ct W0 elt e)
    (hk : X.env.scope.kind = .function := by rfl) (hl : (py.line == pos.line) = true := by rfl) (ha : (scope.names.any fun (n, k) => n == y && (k == .local || k == .cell)) = false := by rfl)
    (hy : X.N[i]? = some y := by rfl) (hyl : X.env.scope.names.lookup y = some .local := by rfl) (hc : X.calm = true := by rfl) (hs : ∀ x, foldedSetIterable iter X.env x = pure x := by intro _; rfl)
    (hsp : spos.line = pos.line := by rfl) :
    DS X ct Wx (.Assign [.Name y py] (.ListComp elt [⟨tg, iter, ifs, 0⟩] scope pos) spos) (sSet i (eLc (own.map (·.2)) f s t e)) :=
  ⟨⟨fun pins s0 σ0 H0 D0 I0 w0 => (ds_setc i (ps_setLc hc hN hy hyl (by rw [hsp]; exact sw_true hk hyl hl ha) hi.pi ok (fun s' H C cl fp => (hg s' H C cl fp).pg) (fun s' H C cl fp => (ht s' H C cl fp).pt) (fun s' H C cl fp => (he s' H C cl fp).pe) hs) fun σ H Q w => lc_sound ((hg s0 H 0 [] []).off) w).ps.run pins s0 σ0 H0 D0 I0 w0⟩⟩
end
end Dl
set_option Elab.async false
set_option linter.all false
set_option maxRecDepth 100000
/-! D9: enumerate, zip, ranges with a step. -/
namespace Dl
open PySem PySem.Spec PyProof.Rows L2
set_option maxHeartbeats 1000000 in
theorem meets_enum1 {v : Value} {o : Obj} {H : Heap → Prop} (B : Begins v o H) :
    Meets (Builtin.«enumerate.__new__» ⟨[.type "enumerate", v], []⟩) (fun _ R s => H s.heap ∧
      R (.ok (.ret (.ref (s.heap.push o).objs.size))) { s with heap := (s.heap.push o).push { cls := .type "enumerate", data := .fields #[.none, .bool false, .ref s.heap.objs.size, rawInt 0, .none, .none] } }) :=
  .of_wp fun prog w A R s h => by
    obtain ⟨hp, g, d, tk, os⟩ := s; obtain ⟨h1, h⟩ := h
    have hsub := sub_enumerate
    have q1 : ∀ {A' : Around} {E : Value → Shared → Prop} {Q : Value → Shared → Prop}, Q (.ref hp.objs.size) ⟨hp.push o, g, d, tk, os⟩ → wpAny (model prog w) A' (pyIter v) Q E ⟨hp, g, d, tk, os⟩ :=
      fun q => B.iter prog w _ _ ⟨hp, g, d, tk, os⟩ _ h1 q
    wp_walk using q1
    refine wpAny_stack_any fun st => wpAny_pure ?_
    split
    · rename_i c _ _ _ _ _
      cases (c == Value.type "enumerate")
      · wp_walk using q1
        exact ⟨_, rfl, h⟩
      · wp_walk using q1
        exact ⟨_, rfl, h⟩
    · wp_walk using q1
      exact ⟨_, rfl, h⟩
section
variable {prog : Program} {w : World} {A : Around} {E : Value → Shared → Prop} {s : Shared}
theorem enum_begins1 {v : Value} {o : Obj} {H : Heap → Prop} {Q : Value → Shared → Prop} (B : Begins v o H) (h1 : H s.heap)
    (h : ∀ h', IsEnum h' (s.heap.objs.size + 1) s.heap.objs.size 0 .none → h'.get? s.heap.objs.size = some o → h'.objs.size = s.heap.objs.size + 2 →
      (∀ b o, s.heap.get? b = some o → h'.get? b = some o) → Q (.ref (s.heap.objs.size + 1)) { s with heap := h' }) :
    wpAny (model prog w) A (call (.type "enumerate") [v]) Q E s := by
  refine callType_new F.called_enumerate (by decide) (F.typeCall_enumerate_1 _) (F.newCall_enumerate_1 _) (fun obj => F.args_object_init_2 obj _) F.entry_enumerate_new (meets_enum1 B) ⟨h1, ?_⟩
  have hz : (s.heap.push o).objs.size = s.heap.objs.size + 1 := Heap.size_push ..
  show _ ∧ _
  rw [hz]
  have he : IsEnum ((s.heap.push o).push { cls := .type "enumerate", data := .fields #[.none, .bool false, .ref s.heap.objs.size, rawInt 0, .none, .none] }) (s.heap.objs.size + 1) s.heap.objs.size 0 .none := by
    have := Heap.get?_push_size (s.heap.push o) (o := { cls := .type "enumerate", data := .fields #[.none, .bool false, .ref s.heap.objs.size, rawInt 0, .none, .none] }) rfl
    rw [hz] at this; exact this
  exact ⟨⟨_, he, rfl⟩, h _ he (Heap.get?_push_of_some _ (Heap.get?_push_size _ B.free)) (by rw [Heap.size_push, hz]) fun b o x => Heap.get?_push_of_some _ (Heap.get?_push_of_some _ x)⟩
end
/-- the tuple at a as it stands, each item in a new pair -/
def ItT (K : PySem.W.Frag) (a : Addr) : It :=
  ⟨fun i H => ∃ (xs : List V) (x : V), SqT K H a xs ∧ xs[i]? = some x, fun i H v H' => ∃ T x, v = .ref T ∧ H T = none ∧ H' = upd H T (.tup [.int (i : Nat), x]) ∧ ∀ xs, SqT K H a xs → xs[i]? = some x, fun i H => ∃ xs : List V, SqT K H a xs ∧ xs.length = i⟩
theorem turn_enumT {P : Program} {w : World} {K : PySem.W.Frag} {elts : List Expr} {kk : Nat} {tpos : Pos} (a e it : Addr) :
    Turn P w K (.Tuple elts kk tpos) (ItT K a) [e, it] e (fun i h => (∃ old, IsEnum h e it ((i : Nat) : Int) old) ∧ h.IsTupleIter it a i ∧ e ≠ it) where
  mem := by simp
  obj := fun i h st b hb => by
    obtain ⟨⟨old, he⟩, ⟨o, ho, hc, hd⟩, _⟩ := st
    have e' : b = e ∨ b = it := by simpa using hb
    rcases e' with z | z
    · rw [z]; exact ⟨_, he, fun v q => nomatch q⟩
    · rw [z]; exact ⟨o, ho, fun v q => by rw [hd] at q; cases q⟩
  keep := fun i h h' st k => let ⟨⟨old, he⟩, hi, hne⟩ := st; ⟨⟨old, k e (by simp) _ he⟩, hi.at fun o q => k it (by simp) o q, hne⟩
  item := by
    intro X hP hw hK hc i pins s σ H E I hf st hg
    subst hP hw hK
    obtain ⟨⟨old, he⟩, hit, hne⟩ := st
    obtain ⟨xs, x, hq, hx⟩ := hg
    obtain ⟨its, rv, p, hz⟩ := I.tuple hq
    obtain ⟨u, hu, ru⟩ := rv.get hx
    have p' : s.heap.IsTuple a its.toArray := p
    have hai : a ≠ it := fun z => by
      obtain ⟨o, h1, h2, _⟩ := p'
      obtain ⟨o', h3, h4, _⟩ := hit
      rw [z, h3] at h1; cases h1
      rw [h4] at h2; exact absurd h2 (by decide)
    have hae : e ≠ a := fun z => by
      obtain ⟨o, h1, h2, _⟩ := p'
      have he' : s.heap.get? e = some _ := he
      rw [← z, he'] at h1; cases h1
      exact absurd (show Value.type "enumerate" = Value.type "tuple" from h2) (by decide)
    have D := Draws.tuple (prog := X.prog) (w := X.w) (A := X.A.in1) (I.ok.hd hc) it a hai its.toArray
    have hel : e < s.heap.objs.size := Heap.lt_size he
    have hil : it < s.heap.objs.size := by obtain ⟨_, q, _⟩ := hit; exact Heap.lt_size q
    have hlt : i < its.toArray.size := by
      have := (List.getElem?_eq_some_iff.mp hu).1
      simpa using this
    refine wpAny_pyNext_enum_itemD D he ⟨hit, p'⟩ hlt hne (by simp [hne, hae]) fun x' h' tk hP ho hst' hT hsz hk => ?_
    have ex : x' = u := by
      have hP : its.toArray[i]? = some x' := hP
      have : its[i]? = some x' := by simpa using hP
      rw [hu] at this; cases this; rfl
    subst ex
    obtain ⟨hit', _⟩ := hst'
    refine ⟨_, rfl, wpAny_letOwnedTupleGo_enum (s := { s with heap := h', toks := tk + 1 }) ho fun h'' he' sb => ?_⟩
    have hT2 : h''.get? s.heap.objs.size = some { cls := .type "tuple", data := .seq #[.int i tk, x'] } := (sb.2 _ (Nat.ne_of_gt hel)).trans hT
    have new : ObjOk X.prog X.w (upd H s.heap.objs.size (.tup [.int (i : Nat), x])) h'' s.heap.objs.size (.tup [.int (i : Nat), x]) :=
      ⟨by show 2 ≤ sizeLine; decide, [.int i tk, x'], .cons ⟨_, rfl⟩ (.cons ru .nil), ⟨_, hT2, rfl, _, rfl⟩⟩
    have I1 : Inv X pins σ (upd H s.heap.objs.size (.tup [.int (i : Nat), x])) { s with heap := h'', toks := tk + 1 } :=
      I.turnedNew (ch := [e, it]) (fun b ob hb q => (sb.2 b (fun z => hb (by simp [z]))).trans (hk b ob (fun z => hb (by simp [z])) (fun z => hb (by simp [z])) q)) hf (Nat.le_refl _) new
    refine ⟨.ref s.heap.objs.size, _, I1, rfl, ⟨_, x, rfl, I.hok.fresh (Nat.le_refl _), rfl, fun ys hy => by rw [I.tuple_inj hy hq]; exact hx⟩, ⟨⟨x', ?_⟩, hit'.at fun o q => (sb.2 it (Ne.symm hne)).trans q, hne⟩, fun b hb => ?_⟩
    · have e1 : ((i + 1 : Nat) : Int) = (i : Int) + 1 := by omega
      rw [e1]; exact he'
    · have hb' : b < s.heap.objs.size := by
        have e' : b = e ∨ b = it := by simpa using hb
        rcases e' with z | z
        · rw [z]; exact hel
        · rw [z]; exact hil
      rw [upd_ne (Nat.ne_of_lt hb')]
      exact (hf b hb).1
  done := by
    intro X hP hw hK hc i pins s σ H E I hf st hg
    subst hP hw hK
    obtain ⟨⟨old, he⟩, hit, hne⟩ := st
    obtain ⟨xs, hq, hx⟩ := hg
    obtain ⟨its, rv, p, hz⟩ := I.tuple hq
    have p' : s.heap.IsTuple a its.toArray := p
    have hai : a ≠ it := fun z => by
      obtain ⟨o, h1, h2, _⟩ := p'
      obtain ⟨o', h3, h4, _⟩ := hit
      rw [z, h3] at h1; cases h1
      rw [h4] at h2; exact absurd h2 (by decide)
    obtain ⟨f0, f1, f2, f3, f4, f5⟩ := hf it (by simp)
    have hl := rv.length
    have D := Draws.tuple (prog := X.prog) (w := X.w) (A := X.A.in1) (I.ok.hd hc) it a hai its.toArray
    have hn : its.toArray.size = i := by rw [List.size_toArray]; omega
    exact wpAny_pyNext_enum_endD D he (show _ ∧ _ from by rw [hn]; exact ⟨hit, p'⟩) fun h' eb => ⟨rfl, I.turned (t' := s.toks) (fun b o hb q => eb b o hb q) f0 f1 f3 f4 f5⟩
  self := fun A i s Q E st h => let ⟨⟨_, he⟩, _⟩ := st; wpAny_pyIter_enum he h
def iEnumT (K : PySem.W.Frag) (ta : TA) : TI := fun σ H R => ta σ H fun vs H1 => ∃ a xs, vs = [.ref a] ∧ ((SqL K H1 a xs ∧ R (Ite K a) H1) ∨ (SqT K H1 a xs ∧ R (ItT K a) H1))
section
variable {X : Cx} {ct : CT} {Wx : WX} {e e2 a b c : Expr} {p pos tpos : Pos} {elts : List Expr} {kk : Nat} {K : PySem.W.Frag} {Fz : Addr → Prop} {H : Hp} {tg : Expr}
theorem pi_enumA {ta : TA} (hg : Gl X "enumerate") (hm : X.mg "enumerate" = none) (ha : PA X [e] ta) (hs : starEach [e] X.env = [(false, eval e X.env)] := by rfl) :
    PI X (.Tuple elts kk tpos) (.Call (.Name "enumerate" p) [e] [] pos) (iEnumT X.K ta) := by
  refine ⟨fun pins s σ H R I h => ?_⟩
  refine Call_ (ld_blt I hg hm boot_enumerate (PyProof.Rows.callWith_type1 (thn (ha.run pos pins s σ H _ I h) fun us s1 ⟨vs, H1, I1, r1, q1⟩ => ?_) hs rfl))
  obtain ⟨a, xs, ex, q⟩ := q1
  subst ex
  cases r1 with
  | cons r rr =>
    cases rr
    cases r
    have fresh : ∀ b, b ∈ [s1.heap.objs.size + 1, s1.heap.objs.size] → FpOk X pins H1 b := fun b hb => by
      have e' : b = s1.heap.objs.size + 1 ∨ b = s1.heap.objs.size := by simpa using hb
      have hle : s1.heap.objs.size ≤ b := by
        rcases e' with z | z
        · rw [z]; exact Nat.le_add_right _ _
        · rw [z]; exact Nat.le_refl _
      exact I1.fpOk hle (I1.hok.fresh hle)
    rcases q with ⟨hq, q⟩ | ⟨hq, q⟩
    · obtain ⟨its, rv, p', hz⟩ := I1.list hq
      refine call_enumerate_list p'.isList fun h' he hit hsz hk => wpAny_pyIter_enum he ?_
      have I2 : Inv X pins σ H1 { s1 with heap := h' } := I1.kept (t' := s1.toks) hk
      exact ⟨s1.heap.objs.size + 1, [s1.heap.objs.size + 1, s1.heap.objs.size], _, _, H1, rfl, I2, turn_enum a (s1.heap.objs.size + 1) s1.heap.objs.size, ⟨⟨.none, he⟩, hit, Nat.succ_ne_self _⟩, fresh, q⟩
    · obtain ⟨its, rv, p', hz⟩ := I1.tuple hq
      refine enum_begins1 (begins_tuple a its.toArray) p' fun h' he hit hsz hk => wpAny_pyIter_enum he ?_
      have I2 : Inv X pins σ H1 { s1 with heap := h' } := I1.kept (t' := s1.toks) hk
      exact ⟨s1.heap.objs.size + 1, [s1.heap.objs.size + 1, s1.heap.objs.size], _, _, H1, rfl, I2, turn_enumT a (s1.heap.objs.size + 1) s1.heap.objs.size, ⟨⟨.none, he⟩, ⟨_, hit, rfl, rfl⟩, Nat.succ_ne_self _⟩, fresh, q⟩
/-! the rules -/
def enumFrom (i : Nat) : List PyData → List PyData
  | [] => []
  | x :: r => .tuple [.int (i : Nat), x] :: enumFrom (i + 1) r
theorem enumFrom_len : ∀ (xs : List PyData) (i : Nat), (enumFrom i xs).length = xs.length
  | [], _ => rfl
  | x :: r, i => by rw [enumFrom, List.length_cons, List.length_cons, enumFrom_len]
theorem enumFrom_get : ∀ (xs : List PyData) (i j : Nat), (enumFrom i xs)[j]? = (xs[j]?).map fun x => .tuple [.int ((i + j : Nat) : Int), x]
  | [], _, _ => by simp [enumFrom]
  | x :: r, i, 0 => by simp [enumFrom]
  | x :: r, i, j + 1 => by
    rw [enumFrom, List.getElem?_cons_succ, List.getElem?_cons_succ, enumFrom_get]
    have : i + 1 + j = i + (j + 1) := by omega
    rw [this]
def enumD : List PyData → Rz (List PyData)
  | [.list xs] => .ok (enumFrom 0 xs)
  | [.tuple xs] => .ok (enumFrom 0 xs)
  | _ => .st
theorem enum_ok {g : Addr → List V → Prop} {J : It} {vs : List V} {ds : List PyData} {sq : Hp → Prop} (hs : ∀ Fz' H', Le Fz H Fz' H' → (sq H' ∧ RpAll K Fz' H' vs ds))
    (h1 : ∀ H' i, sq H' → i < vs.length → J.go i H') (h2 : ∀ H', sq H' → J.stop vs.length H')
    (h3 : ∀ H' i v H'', sq H' → J.yld i H' v H'' → ∃ T x, v = .ref T ∧ H' T = none ∧ H'' = upd H' T (.tup [.int (i : Nat), x]) ∧ vs[i]? = some x) : ItOk K Fz H J (enumFrom 0 ds) := fun Fz' H' l => by
  obtain ⟨sq, r⟩ := hs Fz' H' l
  rw [enumFrom_len, ← r.length]
  refine ⟨fun i hi => h1 H' i sq hi, h2 H' sq, fun i x v H'' hx hy => ?_⟩
  obtain ⟨T, y, rfl, hT, rfl, hg⟩ := h3 H' i v H'' sq hy
  rw [enumFrom_get] at hx
  obtain ⟨d, hd, rd⟩ := r.get hg
  rw [hd] at hx
  cases hx
  refine ⟨.inr ⟨T, _, hT, rfl⟩, .tup upd_same (.cons (by rw [Nat.zero_add]; exact .int _) (.cons (rd.mono ⟨fun _ z => z, fun a o q _ => same_new hT a o q⟩) .nil))⟩
theorem di_enum {f : Ms → Rz PyData} (ha : DA X ct Wx [e] [f]) (hm : X.mg "enumerate" = none) (hg : Gl X "enumerate" := by rfl) (hs : starEach [e] X.env = [(false, eval e X.env)] := by rfl) : DI X ct Wx (.Tuple elts kk tpos) (.Call (.Name "enumerate" p) [e] [] pos) (iArg enumD [f]) :=
  ⟨PI_imp (pi_fin (pi_enumA hg hm ha.pa hs)) fun σ H R w => tAv_to (g := enumD) w (fun B Fz m x xs v H' r hx rv hk => by
    unfold enumD at hx
    split at hx
    · cases hx
      obtain ⟨u, rfl, ru⟩ := rv.one
      cases ru with
      | @lst a vs ds f hq ra =>
        refine ⟨a, vs, rfl, .inl ⟨.inl (.inl hq), fun hl _ => hk _ (enum_ok (g := fun _ _ => True) (vs := vs) (sq := fun H' => SqL X.K H' a vs) (fun F2 H2 l => ⟨.inl (.inl (l.hp a _ hq (.inl f))), ra.mono l⟩) (fun H' i sq hi => ⟨vs, vs[i], sq, List.getElem?_eq_getElem hi⟩) (fun H' sq => ⟨vs, sq, Nat.le_refl _⟩) fun H' i v H'' sq ⟨T, x, h1, h2, h3, h4⟩ => ⟨T, x, h1, h2, h3, h4 vs sq⟩) (by rw [enumFrom_len, ← ra.length]; exact hl _ _ (.inl (.inl hq)))⟩⟩
    · cases hx
      obtain ⟨u, rfl, ru⟩ := rv.one
      obtain ⟨a, vs, rfl, hq, ra⟩ := ru.tupE
      · refine ⟨a, vs, rfl, .inr ⟨hq, fun _ ht => hk _ (enum_ok (g := fun _ _ => True) (vs := vs) (sq := fun H' => SqT X.K H' a vs) (fun F2 H2 l => ⟨sqT_le l hq, ra.mono l⟩) (fun H' i sq hi => ⟨vs, vs[i], sq, List.getElem?_eq_getElem hi⟩) (fun H' sq => ⟨vs, sq, rfl⟩) fun H' i v H'' sq ⟨T, x, h1, h2, h3, h4⟩ => ⟨T, x, h1, h2, h3, h4 vs sq⟩) (by rw [enumFrom_len, ← ra.length]; exact ht _ _ hq)⟩⟩
    · cases hx) fun x c => by unfold enumD; split <;> simp⟩
def zipL : List PyData → List PyData → List PyData
  | x :: xs, y :: ys => .tuple [x, y] :: zipL xs ys
  | _, _ => []
theorem zipL_len : ∀ (xs ys : List PyData), (zipL xs ys).length = min xs.length ys.length
  | [], ys => by simp [zipL]
  | _ :: _, [] => by simp [zipL]
  | x :: xs, y :: ys => by rw [zipL, List.length_cons, zipL_len, List.length_cons, List.length_cons]; omega
theorem zipL_get : ∀ (xs ys : List PyData) (i : Nat), (zipL xs ys)[i]? = (xs[i]?).bind fun x => (ys[i]?).map fun y => .tuple [x, y]
  | [], ys, i => by simp [zipL]
  | x :: xs, [], i => by
    cases h : (x :: xs)[i]? <;> simp [zipL, h]
  | x :: xs, y :: ys, 0 => by simp [zipL]
  | x :: xs, y :: ys, i + 1 => by
    rw [zipL, List.getElem?_cons_succ, List.getElem?_cons_succ, List.getElem?_cons_succ, zipL_get]
def zipD : List PyData → Rz (List PyData)
  | [.list xs, .list ys] => .ok (zipL xs ys)
  | [.tuple xs, .tuple ys] => .ok (zipL xs ys)
  | _ => .st
theorem zip_ok {J : It} {vs us : List V} {ds es : List PyData} {sq : Hp → Prop} (hs : ∀ Fz' H', Le Fz H Fz' H' → (sq H' ∧ RpAll K Fz' H' vs ds ∧ RpAll K Fz' H' us es))
    (h1 : ∀ H' i, sq H' → i < vs.length → i < us.length → J.go i H') (h2 : ∀ H' i, sq H' → (vs.length ≤ i ∨ us.length ≤ i) → J.stop i H')
    (h3 : ∀ H' i v H'', sq H' → J.yld i H' v H'' → ∃ T x y, v = .ref T ∧ H' T = none ∧ H'' = upd H' T (.tup [x, y]) ∧ vs[i]? = some x ∧ us[i]? = some y) : ItOk K Fz H J (zipL ds es) := fun Fz' H' l => by
  obtain ⟨sq, r, r'⟩ := hs Fz' H' l
  rw [zipL_len, ← r.length, ← r'.length]
  refine ⟨fun i hi => h1 H' i sq (by omega) (by omega), h2 H' _ sq (by omega), fun i x v H'' hx hy => ?_⟩
  obtain ⟨T, y, z, rfl, hT, rfl, hg, hz⟩ := h3 H' i v H'' sq hy
  rw [zipL_get] at hx
  obtain ⟨d, hd, rd⟩ := r.get hg
  obtain ⟨d2, hd2, rd2⟩ := r'.get hz
  rw [hd, hd2] at hx
  cases hx
  have lt : Le Fz' H' Fz' (upd H' T (.tup [y, z])) := ⟨fun _ z => z, fun a o q _ => same_new hT a o q⟩
  exact ⟨.inr ⟨T, _, hT, rfl⟩, .tup upd_same (.cons (rd.mono lt) (.cons (rd2.mono lt) .nil))⟩
theorem di_zip {f g : Ms → Rz PyData} (ha : DA X ct Wx [e, e2] [f, g]) (hm : X.mg "zip" = none) (hg : Gl X "zip" := by rfl)
    (hs : starEach [e, e2] X.env = (false, eval e X.env) :: starEach [e2] X.env := by rfl) (hpl : (backTo pos (starEach [e2] X.env)).any (·.1) = false := by rfl) : DI X ct Wx (.Tuple elts kk tpos) (.Call (.Name "zip" p) [e, e2] [] pos) (iArg zipD [f, g]) :=
  ⟨PI_imp (pi_fin (RZ.pi_zipA hg hm ha.pa hs hpl)) fun σ H R w => tAv_to (g := zipD) w (fun B Fz m x xs v H' r hx rv hk => by
    unfold zipD at hx
    split at hx
    · cases hx
      obtain ⟨u, u2, rfl, ru, ru2⟩ := rv.two
      cases ru with
      | @lst a vs ds f hq ra =>
        cases ru2 with
        | @lst b ws es f2 hq2 ra2 =>
          refine ⟨a, b, vs, ws, rfl, .inl ⟨.inl (.inl hq), .inl (.inl hq2), fun hl _ => hk _ (zip_ok (vs := vs) (us := ws) (sq := fun H' => SqL X.K H' a vs ∧ SqL X.K H' b ws) (fun F2 H2 l => ⟨⟨.inl (.inl (l.hp a _ hq (.inl f))), .inl (.inl (l.hp b _ hq2 (.inl f2)))⟩, ra.mono l, ra2.mono l⟩) (fun H' i sq hi hj => ⟨vs, ws, vs[i], ws[i], sq.1, sq.2, List.getElem?_eq_getElem hi, List.getElem?_eq_getElem hj⟩) (fun H' i sq h => ⟨vs, ws, sq.1, sq.2, h⟩)
            fun H' i v H'' sq ⟨T, x, y, h1, h2, h3, h4, h5⟩ => ⟨T, x, y, h1, h2, h3, h4 vs sq.1, h5 ws sq.2⟩) (by rw [zipL_len]; have := hl _ _ (.inl (.inl hq)); have := ra.length; omega)⟩⟩
    · cases hx
      obtain ⟨u, u2, rfl, ru, ru2⟩ := rv.two
      obtain ⟨a, vs, rfl, hq, ra⟩ := ru.tupE
      obtain ⟨b, ws, rfl, hq2, ra2⟩ := ru2.tupE
      · · refine ⟨a, b, vs, ws, rfl, .inr ⟨hq, hq2, fun _ hl => hk _ (zip_ok (vs := vs) (us := ws) (sq := fun H' => SqT X.K H' a vs ∧ SqT X.K H' b ws) (fun F2 H2 l => ⟨⟨sqT_le l hq, sqT_le l hq2⟩, ra.mono l, ra2.mono l⟩) (fun H' i sq hi hj => ⟨vs, ws, vs[i], ws[i], sq.1, sq.2, List.getElem?_eq_getElem hi, List.getElem?_eq_getElem hj⟩) (fun H' i sq h => ⟨vs, ws, sq.1, sq.2, h⟩)
            fun H' i v H'' sq ⟨T, x, y, h1, h2, h3, h4, h5⟩ => ⟨T, x, y, h1, h2, h3, h4 vs sq.1, h5 ws sq.2⟩) (by rw [zipL_len]; have := hl _ _ hq; have := ra.length; omega)⟩⟩
    · cases hx) fun x c => by unfold zipD; split <;> simp⟩
/-- range(i, j, -1) -/
def rngDn (lo : Int) (n : Nat) : List PyData := (List.range n).map fun (i : Nat) => .int (lo - i)
noncomputable def rng3 : List PyData → Rz (List PyData)
  | [.int i, .int j, .int c] => if c = -1 ∧ rngOk j i = true then .ok (rngDn i (i - j).toNat) else .st
  | _ => .st
theorem itc_ok {lo : Int} {n : Nat} : ItOk K Fz H (Itc lo (-1) n) (rngDn lo n) := fun Fz' H' l => by
  have hn : (rngDn lo n).length = n := by simp [rngDn]
  refine ⟨fun i hi => by rw [hn] at hi; exact hi, by rw [hn]; exact Nat.le_refl _, fun i x v H'' hx hy => ?_⟩
  obtain ⟨e, hv⟩ := hy
  subst e hv
  unfold rngDn at hx
  rw [List.getElem?_map] at hx
  cases z : (List.range n)[i]? with
  | none => rw [z] at hx; cases hx
  | some j =>
    rw [z] at hx
    have : j = i := by
      obtain ⟨h1, h2⟩ := List.getElem?_eq_some_iff.mp z
      rw [← h2]; simp
    subst this
    cases hx
    have : lo + (j : Nat) * -1 = lo - (j : Nat) := by omega
    rw [this]
    exact ⟨.inl rfl, .int _⟩
theorem RpAll.three {v : List V} {x y z : PyData} (r : RpAll K Fz H v [x, y, z]) : ∃ u w t, v = [u, w, t] ∧ Rp K Fz H u x ∧ Rp K Fz H w y ∧ Rp K Fz H t z := by
  cases r with | cons r z => cases z with | cons r' z => cases z with | cons r'' z => cases z; exact ⟨_, _, _, rfl, r, r', r''⟩
theorem di_range3 {f g h : Ms → Rz PyData} (ha : DA X ct Wx [a, b, c] [f, g, h]) (hm : X.mg "range" = none) (hg : Gl X "range" := by rfl) (hs : starEach [a, b, c] X.env = (false, eval a X.env) :: starEach [b, c] X.env := by rfl) (hpl : (backTo pos (starEach [b, c] X.env)).any (·.1) = false := by rfl) :
    DI X ct Wx tg (.Call (.Name "range" p) [a, b, c] [] pos) (iArg rng3 [f, g, h]) :=
  ⟨PI_imp (pi_range3 hg hm ha.pa hs hpl) fun σ H R w => tAv_to (g := rng3) w (fun B Fz m x xs v H' r hx rv hk => by
    unfold rng3 at hx
    split at hx
    · split at hx
      · rename_i i j c hh
        obtain ⟨hc, ok⟩ := hh
        subst hc
        cases hx
        obtain ⟨u1, u2, u3, rfl, r1, r2, r3⟩ := rv.three
        cases r1
        cases r2
        cases r3
        rw [rngOk_iff] at ok
        exact ⟨i, j, -1, (i - j).toNat, rfl, RgC.neg ok.2.2.1 ok.2.2.2.1 ok.1 ok.2.1, hk _ itc_ok (by simp only [rngDn, List.length_map, List.length_range]; rw [sizeLine_eq]; have := ok.2.2.2.2; omega)⟩
      · cases hx
    · cases hx) fun x c => by
      unfold rng3
      split
      · split <;> simp
      · simp⟩
end
end Dl
set_option Elab.async false
set_option linter.all false
set_option maxRecDepth 100000
/-! D10: defs, calls, exceptions, the script, appending. -/
namespace Dl
open PySem PySem.Spec PyProof.Rows L2

/-! ### what a def computes -/
/-- the promise of a def: F by what its parameters are -/
def spW (ct : CT) (K : PySem.W.Frag) (n : Nat) (F : Ms → Rz PyData) : Sp := fun vs H Q E => ∃ Fz m, vs.length = n ∧ (∀ a, Fz a → H a ≠ none) ∧ RL K Fz H (vs.map some) m [] ∧ match F m with
  | .st => False
  | .ok x => ∀ v H' Fz', Same H H' → Ext H Fz Fz' → (∀ a, Fz' a → H' a ≠ none) → Rp K Fz' H' v x → Q v H'
  | .ex c => ∀ H' Fz', Same H H' → Ext H Fz Fz' → (∀ a, Fz' a → H' a ≠ none) → E (ct c) Option.none H'
/-- the body's answer: N slots in all -/
def fnW (N : Nat) (g : Ms → Fl) : Ms → Rz PyData := fun m => match g (m ++ List.replicate (N - m.length) none) with
  | .nx _ => .ok .none
  | .rt x => .ok x
  | .ex c _ => .ex c
  | _ => .st
def fnD (N : Nat) (g : Ms → Fl) : List PyData → Rz PyData := fun ds => fnW N g (ds.map fun x => some (.d x))
section
variable {P : Program} {w : World} {K : PySem.W.Frag} {mg : Str → Option Value} {base : Heap} {ct : CT}
theorem RL.pad {Fz : Addr → Prop} {H : Hp} {σ : L2.St} {m : Ms} {fp : List Addr} (k : Nat) (h : RL K Fz H σ m fp) : RL K Fz H (σ ++ List.replicate k none) (m ++ List.replicate k none) fp := by
  have z : RL K Fz H (List.replicate k none) (List.replicate k none) [] := by
    induction k with
    | zero => exact .nil
    | succ k ih => rw [List.replicate_succ, List.replicate_succ]; exact .no ih
  have := RL.glue h z
  rwa [List.append_nil] at this
/-- a def by its body -/
theorem fn_body {x qual : Str} {st : Stmt} {f : Addr} {fd : FuncData} {N ps : List Str} {k : Nat} {g : Ms → Fl} (F : Fun K x qual st f fd) (S : FnScope N ps (defScope st))
    (hb : ∀ (cdv : Value) (A : Around) (outer : List Env) (s : Shared) (H : Hp) (E : XK), Room k (A.deeper (envOfC qual (defScope st) s.heap.objs.size f cdv)) →
      DSs (cxOf (L2.CX P w) P w K mg base N qual (defScope st) f cdv A outer s H E) ct (fun cls d _ H => E cls d H) (defBody st) g) : FnOk P w K mg base (L2.CX P w) (k + 1) f fd ps (spW ct K ps.length (fnW N.length g)) := by
  refine F.okX S (fun vs H Q E ⟨Fz, m, h, _⟩ => h) fun cdv A outer s H vs Q E hr ⟨Fz, m, hl, hz, h, q⟩ => ⟨_, (hb cdv A outer s H E hr).ps, ?_⟩
  have hm : vs.length = m.length := by rw [← h.length, List.length_map]
  refine tS_iff.mpr ⟨H, Fz, m ++ List.replicate (N.length - m.length) none, ⟨[], ?_, List.nodup_nil, fun a ha => absurd ha (List.not_mem_nil), fun _ _ z => z, hz⟩, ?_⟩
  · unfold L2.start
    rw [hm]
    exact h.pad _
  · unfold fnW at q
    cases hg : g (m ++ List.replicate (N.length - m.length) none) with
    | st => rw [hg] at q; exact q
    | bk _ => rw [hg] at q; exact q.elim
    | ct _ => rw [hg] at q; exact q.elim
    | nx m' => rw [hg] at q; exact fun σ' H' Fz' x r => q .non H' Fz' (fun a o e => r.base a o e) x r.fzn .non
    | rt y => rw [hg] at q; exact fun v H' Fz' x ⟨σ', m', r⟩ p => q v H' Fz' (fun a o e => r.base a o e) x r.fzn p
    | rq _ => rw [hg] at q; exact q.elim
    | ex c m' => rw [hg] at q; exact fun σ' H' Fz' x r => q H' Fz' (fun a o e => r.base a o e) x r.fzn
/-- a def that may be called by its name -/
structure CallW (P : Program) (w : World) (K : PySem.W.Frag) (mg : Str → Option Value) (base : Heap) (ct : CT) (k : Nat) (x : Str) (n : Nat) (F : Ms → Rz PyData) : Prop where
  ex : ∃ f fd ps, FnOk P w K mg base (L2.CX P w) k f fd ps (spW ct K n F) ∧ mg x = some (.ref f) ∧ PySem.W.keepIn K (.ref f) = true ∧ Binds K fd ps []
/-- what the program's text gives of a def -/
structure DefD (K : PySem.W.Frag) (mg : Str → Option Value) (x : Str) (st : Stmt) (ps : List Str) : Prop where
  ex : ∃ f fd, Fun K x x st f fd ∧ mg x = some (.ref f) ∧ Binds K fd ps []
theorem callW_of {x : Str} {st : Stmt} {N ps : List Str} {k n np : Nat} {g : Ms → Fl} (D : DefD K mg x st ps) (S : FnScope N ps (defScope st)) (hn : N.length = n) (hp : ps.length = np)
    (hb : ∀ (f : Addr) (cdv : Value) (A : Around) (outer : List Env) (s : Shared) (H : Hp) (E : XK), Room k (A.deeper (envOfC x (defScope st) s.heap.objs.size f cdv)) →
      DSs (cxOf (L2.CX P w) P w K mg base N x (defScope st) f cdv A outer s H E) ct (fun cls d _ H => E cls d H) (defBody st) g) : CallW P w K mg base ct (k + 1) x np (fnW n g) := by
  obtain ⟨f, fd, F, hm, hb'⟩ := D.ex
  subst hn hp
  exact ⟨f, fd, ps, fn_body F S (hb f), hm, F.kp, hb'⟩
end
section
variable {X : Cx} {ct : CT} {Wx : WX} {e e2 a b c : Expr} {es : List Expr} {p pos : Pos} {x : Str}
/-- a call of a def, data given -/
def vFn (F : Ms → Rz PyData) (fs : List (Ms → Rz PyData)) : Ms → Rz PyData := fun m => (evalAllD fs m).bind fun xs => F (xs.map fun x => some (.d x))
theorem RL.ofAll {K : PySem.W.Frag} {Fz : Addr → Prop} {H : Hp} : ∀ {vs : List V} {xs : List PyData}, RpAll K Fz H vs xs → RL K Fz H (vs.map some) (xs.map fun x => some (.d x)) []
  | _, _, .nil => .nil
  | _, _, .cons r rs => .so (f := []) (.d r) (RL.ofAll rs)
theorem ext_base {B H : Hp} {Fz Fz' : Addr → Prop} (h : ∀ a o, B a = some o → H a = some o) (x : Ext H Fz Fz') : Ext B Fz Fz' := ⟨x.le, fun a ha => (x.new a ha).imp id fun z => by
  cases q : B a with
  | none => rfl
  | some o => rw [h a o q] at z; cases z⟩
theorem fn_end {K : PySem.W.Frag} {F : Ms → Rz PyData} {n : Nat} {B H : Hp} {Fz : Addr → Prop} {σ : L2.St} {m ma : Ms} {vs : List V} {Q : VK} (hl : vs.length = n) (r : Rs K B Fz H σ m) (ra : RL K Fz H (vs.map some) ma [])
    (q : match F ma with
      | .st => False
      | .ok a => ∀ v H' Fz', Ext B Fz Fz' → Rs K B Fz' H' σ m → Rp K Fz' H' v a → Q v H'
      | .ex c => ∀ H' Fz', Ext B Fz Fz' → Rs K B Fz' H' σ m → Wx (ct c) Option.none σ H') : spW ct K n F vs H Q (WE Wx σ) := by
  refine ⟨Fz, ma, hl, r.fzn, ra, ?_⟩
  cases hf : F ma with
  | st => rw [hf] at q; exact q
  | ok y => rw [hf] at q; exact fun v H' Fz' sm x nz rp => q v H' Fz' (ext_base r.base x) (r.grow sm x nz) rp
  | ex c => rw [hf] at q; exact fun H' Fz' sm x nz => q H' Fz' (ext_base r.base x) (r.grow sm x nz)
theorem dv_call {k j n : Nat} {F : Ms → Rz PyData} {fs : List (Ms → Rz PyData)} (c : CallW X.prog X.w X.K X.mg X.base ct k x n F) (hr : Room j X.A) (hk : k ≤ j) (tk : Takes X Wx) (ha : DA X ct Wx (e :: es) fs) (hn : (e :: es).length = n := by rfl) (hg : Gl X x := by rfl)
    (hdb : (x == ("__debug__" : Str)) = false := by decide) (he : starEach (e :: es) X.env = (false, eval e X.env) :: starEach es X.env := by rfl) (hpl : (backTo pos (starEach es X.env)).any (·.1) = false := by rfl) (hfl : fs.length = (e :: es).length := by rfl) :
    DV X ct Wx (.Call (.Name x p) (e :: es) [] pos) (vFn F fs) := by
  obtain ⟨f, fd, ps, hf, hm, hkp, hb⟩ := c.ex
  refine ⟨PE_imp (pe_callS hf (hr.mono hk) hg hm hkp hb (fun σ => passAt tk σ) ha.pa hdb he hpl) fun σ H Q ⟨B, Fz, m, r, q⟩ => ⟨B, Fz, m, r, ?_⟩⟩
  unfold vFn at q
  cases hf : evalAllD fs m with
  | st => rw [hf] at q; exact q
  | ex c => rw [hf] at q; exact q
  | ok xs =>
    rw [hf, Rz.bind_ok] at q
    intro vs H1 F1 x1 r1 p1
    have lens : ∀ (fs : List (Ms → Rz PyData)) (xs : List PyData), evalAllD fs m = .ok xs → xs.length = fs.length := by
      intro fs
      induction fs with
      | nil => intro xs h; cases h; rfl
      | cons f fs ih =>
        intro xs h
        unfold evalAllD at h
        cases hf : f m with
        | st => rw [hf] at h; cases h
        | ex c => rw [hf] at h; cases h
        | ok x =>
          rw [hf, Rz.bind_ok] at h
          cases hs : evalAllD fs m with
          | st => rw [hs] at h; cases h
          | ex c => rw [hs] at h; cases h
          | ok ys => rw [hs] at h; cases h; simp [ih _ hs]
    refine fn_end (by rw [p1.length, lens _ _ hf, hfl]; exact hn) r1 (RL.ofAll p1) ?_
    cases hF : F (xs.map fun x => some (.d x)) with
    | st => rw [hF] at q; exact q
    | ok y => rw [hF] at q; exact fun v H' F' x r p => q v H' F' (x1.trans x) ⟨r, p⟩
    | ex c => rw [hF] at q; exact fun H' F' x r => q H' F' (x1.trans x) r

/-! ### the script -/
/-- f(script, e) -/
def rAt (i : Nat) (m : Ms) : Option (List Int) := match m[i]? with
  | some (some (.r ns)) => some ns
  | _ => none
theorem rAt_some {i : Nat} {m : Ms} {ns : List Int} (h : rAt i m = some ns) : m[i]? = some (some (.r ns)) := by
  unfold rAt at h
  split at h
  · rename_i e; cases h; exact e
  · cases h
def vFnR (F : Ms → Rz PyData) (i : Nat) (f : Ms → Rz PyData) : Ms → Rz PyData := fun m => match rAt i m with
  | some ns => (f m).bind fun x => F [some (.r ns), some (.d x)]
  | none => .st
theorem dv_callR {k j : Nat} {F : Ms → Rz PyData} {f : Ms → Rz PyData} {y : Str} {p2 : Pos} (i : Nat) (c : CallW X.prog X.w X.K X.mg X.base ct k x 2 F) (hr : Room j X.A) (hk : k ≤ j) (tk : Takes X Wx) (hb : DV X ct Wx e f) (hN : X.N[i]? = some y := by rfl)
    (hv : Vis X.env.scope y := by first | exact Or.inl rfl | exact Or.inr (Or.inl rfl) | exact Or.inr (Or.inr rfl)) (hd : (y == ("__debug__" : Str)) = false := by decide) (hcd : (y == ("__classdict__" : Str)) = false := by decide) (hg : Gl X x := by rfl)
    (hdb : (x == ("__debug__" : Str)) = false := by decide) (he : starEach [.Name y p2, e] X.env = (false, eval (.Name y p2) X.env) :: starEach [e] X.env := by rfl) (hpl : (backTo pos (starEach [e] X.env)).any (·.1) = false := by rfl) (hes : starEach [e] X.env = (false, eval e X.env) :: starEach [] X.env := by rfl) :
    DV X ct Wx (.Call (.Name x p) [.Name y p2, e] [] pos) (vFnR F i f) := by
  obtain ⟨f0, fd, ps, hf, hm, hkp, hbd⟩ := c.ex
  refine ⟨PE_imp (pe_callS hf (hr.mono hk) hg hm hkp hbd (fun σ => passAt tk σ) (pa_cons (pe_var hN hv hd hcd) (pa_cons hb.pe pa_nil hes) he) hdb he hpl) fun σ H Q ⟨B, Fz, m, r, q⟩ => ?_⟩
  unfold vFnR at q
  cases hi : rAt i m with
  | none => rw [hi] at q; exact q.elim
  | some ns =>
    rw [hi] at q
    dsimp only at q
    obtain ⟨a, h1, h2, h3⟩ := r.getR (rAt_some hi)
    refine ⟨.ref a, h1, ?_⟩
    show tV X.K ct Wx f σ H _
    refine tV_then r ?_
    cases hf : f m with
    | st => rw [hf] at q; exact q
    | ex c => rw [hf] at q; exact q
    | ok z =>
      rw [hf, Rz.bind_ok] at q
      intro v H1 F1 x1 r1 l1 p1
      have ra : RL X.K F1 H1 ([V.ref a, v].map some) [some (.r ns), some (.d z)] [] := .so (f := []) (h3.mono l1 fun a ha => absurd ha List.not_mem_nil) (.so (f := []) (.d p1) .nil)
      refine fn_end rfl r1 ra ?_
      cases hF : F [some (.r ns), some (.d z)] with
      | st => rw [hF] at q; exact q
      | ok y => rw [hF] at q; exact fun v H' F' x r p => q v H' F' (x1.trans x) ⟨r, p⟩
      | ex c => rw [hF] at q; exact fun H' F' x r => q H' F' (x1.trans x) r

/-- script[:k] -/
def eScr (i : Nat) (k : Int) : Ms → Rz W := fun m => match rAt i m with
  | some ns => .ok (.l ((cutL ns none (some k)).map .int))
  | none => .st
theorem cut_ints {ns : List Int} {k : Int} : cutV (ns.map V.int) none (some k) = (cutL ns none (some k)).map V.int := by
  unfold cutV cutL
  rw [List.length_map, List.map_take, List.map_drop]
theorem de_scr {y : Str} {p2 p3 p4 : Pos} {k : Int} {kk : Nat} (i : Nat) (hN : X.N[i]? = some y := by rfl)
    (hv : Vis X.env.scope y := by first | exact Or.inl rfl | exact Or.inr (Or.inl rfl) | exact Or.inr (Or.inr rfl)) (hd : (y == ("__debug__" : Str)) = false := by decide) (hcd : (y == ("__classdict__" : Str)) = false := by decide) :
    DE X ct Wx (.Subscript (.Name y p2) (.Slice none (some (.Constant (.int k) kk p3)) none p4) pos) (eScr i k) := ⟨PE_imp (pe_slice sl_list (pe_var hN hv hd hcd) po_none (po_some pe_int)) fun σ H Q ⟨B, Fz, m, r, q⟩ => by
  unfold eScr at q
  cases hi : rAt i m with
  | none => rw [hi] at q; exact q.elim
  | some ns =>
    rw [hi] at q
    obtain ⟨a, h1, h2, h3⟩ := r.getR (rAt_some hi)
    refine ⟨.ref a, h1, k, rfl, a, _, rfl, h2, fun p hp => q _ _ Fz .refl ?_⟩
    rw [cut_ints]
    exact r.newLst hp (RpAll.of_ints _)⟩
/-- what a slot's own list holds -/
def lAt (i : Nat) (m : Ms) : Option (List PyData) := match m[i]? with
  | some (some (.l xs)) => some xs
  | _ => none
theorem lAt_some {i : Nat} {m : Ms} {xs : List PyData} (h : lAt i m = some xs) : m[i]? = some (some (.l xs)) := by
  unfold lAt at h
  split at h
  · rename_i e; cases h; exact e
  · cases h
/-- name.append(e) -/
def sApp (i : Nat) (f : Ms → Rz PyData) : Ms → Fl := fun m => match lAt i m with
  | some xs => flE f (fun x m => if xs.length < 16777216 then .nx (m.set i (some (.l (xs ++ [x])))) else .st) m
  | none => .st
theorem ds_app {y : Str} {p2 apos cpos : Pos} {f : Ms → Rz PyData} (i : Nat) (ha : DA X ct Wx [e] [f]) (hN : X.N[i]? = some y := by rfl)
    (hv : Vis X.env.scope y := by first | exact Or.inl rfl | exact Or.inr (Or.inl rfl) | exact Or.inr (Or.inr rfl)) (hd : (y == ("__debug__" : Str)) = false := by decide) (hcd : (y == ("__classdict__" : Str)) = false := by decide)
    (hbase : attributeBase (.Name y p2) "append" X.env (eval (.Name y p2) X.env) = eval (.Name y p2) X.env := by rfl)
    (hfew : ((backTo cpos (starEach [e] X.env)).all (fun x => !x.1) && (backToKw cpos (keywordEach [] X.env)).all (fun x => x.1.isSome)
      && decide (([e] : List Expr).length + ([] : List Keyword).length + (if ([] : List Keyword).isEmpty then 0 else 1) < 30)) = true := by rfl)
    (hline : (apos.endLine == cpos.line) = true := by rfl) (hs : starEach [e] X.env = (false, eval e X.env) :: starEach [] X.env := by rfl) (hplain : (backTo cpos (starEach [] X.env)).any (·.1) = false := by rfl)
    (hsw : swapsWith (.Call (.Attribute (.Name y p2) "append" apos) [e] [] cpos) none pos.line X.env = pure false := by rfl) :
    DS X ct Wx (.Expr (.Call (.Attribute (.Name y p2) "append" apos) [e] [] cpos) pos) (sApp i f) :=
  ds_of (ps_expr (pe_bm PySem.F.plainAttrs_list PySem.F.slot_list_append PySem.F.type_list_append mt_append (pe_var hN hv hd hcd) ha.pa hbase hfew hline hs hplain) hsw) fun D σ H B Fz m h q => by
    unfold sApp at q
    cases hi : lAt i m with
    | none => rw [hi] at q; exact q.elim
    | some xs =>
      rw [hi] at q
      have q : EndS X.K ct Wx B Fz D (flE f (fun x m => if xs.length < 16777216 then .nx (m.set i (some (.l (xs ++ [x])))) else .st) m) := q
      obtain ⟨a, vs, h1, h2, h3, _⟩ := h.getL (lAt_some hi)
      refine ⟨.ref a, h1, .inl ⟨rfl, _, .inl (.inl h2)⟩, B, Fz, m, h, ?_⟩
      unfold flE at q
      unfold evalAllD
      cases hf : f m with
      | st => rw [hf] at q; exact q
      | ex c => rw [hf] at q; exact fun H' F' x r => q σ H' F' x r
      | ok z =>
        rw [hf] at q
        have q : EndS X.K ct Wx B Fz D (if xs.length < 16777216 then .nx (m.set i (some (.l (xs ++ [z])))) else .st) := q
        intro us H1 F1 x1 r1 p1
        obtain ⟨u, rfl, pu⟩ := RpAll.one p1
        obtain ⟨a', vs', g1, g2, g3, g4⟩ := r1.write i (lAt_some hi)
        rw [h1] at g1; cases g1
        split at q
        · rename_i hlt
          refine ⟨a, vs', u, rfl, rfl, g2, by rw [g3.length, sizeLine_eq]; omega, q σ _ F1 x1 (g4 _ _ (g3.append (.cons pu .nil)))⟩
        · exact q.elim

end
end Dl
set_option Elab.async false
set_option linter.all false
set_option maxRecDepth 100000
/-! D11: exceptions. -/
namespace Dl
open PySem PySem.Spec PyProof.Rows L2
def sRaise (c : Nat) : Ms → Fl := fun m => .ex c m
/-- what the text gives of an own exception class -/
structure ExcD (K : PySem.W.Frag) (mg : Str → Option Value) (ct : CT) (c : Nat) (x : Str) : Prop where
  ex : ∃ C, ct c = .ref C ∧ PySem.W.excIn K C [.type "ValueError", .type "Exception", .type "BaseException", .type "object"] "ValueError.__new__" = true ∧ mg x = some (.ref C) ∧ PySem.W.keepIn K (.ref C) = true ∧
    PySem.W.subIn K (.ref C) (.type "BaseException") = some true ∧ PySem.W.typeIn K (.ref C) = some (.type "type")
section
variable {X : Cx} {ct : CT} {Wx : WX} {p p2 pos pos' : Pos} {x : Str}
theorem ds_raise {c j : Nat} {m : Str} (E : ExcD X.K X.mg ct c x) (tk : Takes X Wx) (hc : X.calm = true := by rfl) (hg : Gl X x := by rfl) (hdb : (x == ("__debug__" : Str)) = false := by decide) :
    DS X ct Wx (.Raise (some (.Call (.Name x p) [.Constant (.str m) j p2] [] pos)) none pos') (sRaise c) := by
  obtain ⟨C, e, h1, h2, h3, h4, h5⟩ := E.ex
  refine ds_of (ps_raise hc tk (pmk_own PySem.F.excBase_ValueError h1 h2 h3 (raises_own h4 h5) hg hdb)) fun D σ H B Fz m h q => ?_
  have q : ∀ σ' H' Fz', Ext B Fz Fz' → Rs X.K B Fz' H' σ' m → Wx (ct c) Option.none σ' H' := q
  rw [e] at q
  exact q σ H Fz .refl h

/-! ### try -/
def noEx : Fl → Fl
  | .ex _ _ => .st
  | o => o
def goTry : List ((Nat → Option Bool) × (Ms → Fl)) → Nat → Ms → Fl
  | [], c, m => .ex c m
  | (p, s) :: r, c, m => match p c with
    | some true => noEx (s m)
    | some false => goTry r c m
    | none => .st
def sTry (g : Ms → Fl) (hs : List ((Nat → Option Bool) × (Ms → Fl))) : Ms → Fl := fun m => match g m with
  | .ex c m' => goTry hs c m'
  | o => o
inductive DHs (X : Cx) (ct : CT) : List ExceptHandler → List (Value × (Nat → Option Bool) × (Ms → Fl)) → Prop
  | nil : DHs X ct [] []
  | cons {x : Str} {c : Value} {pt : Nat → Option Bool} {s : Ms → Fl} {b₀ : Stmt} {suite : List Stmt} {np pos' : Pos} {hds : List ExceptHandler} {l : List (Value × (Nat → Option Bool) × (Ms → Fl))} (hc : Names X x c)
      (hp : ∀ n b, pt n = some b → PySem.W.exmOne X.K (ct n) c = some b)
      (hs : ∀ (a : Addr) (oe : Obj) (pn : List (Addr × Obj)), DSs (X.suite a ((a, oe) :: pn)) ct W0 (b₀ :: suite) s) (r : DHs X ct hds l) :
      DHs X ct (.ExceptHandler (some (.Name x np)) none (b₀ :: suite) pos' :: hds) ((c, pt, s) :: l)
def hdT (K : PySem.W.Frag) (ct : CT) (l : List (Value × (Nat → Option Bool) × (Ms → Fl))) : List (Value × (Addr → Value → Option Addr → TS)) := l.map fun z => (z.1, fun _ _ _ => tS K ct W0 z.2.2)
theorem DHs.ok {hds : List ExceptHandler} {l : List (Value × (Nat → Option Bool) × (Ms → Fl))} (h : DHs X ct hds l) : HdsOk X hds (hdT X.K ct l) := by
  induction h with
  | nil => exact .nil
  | cons hc hp hs r ih => exact .cons hc (fun a oe cls d pn _ _ => (hs a oe pn).ps) ih
theorem noEx_end {K : PySem.W.Frag} {B : Hp} {Fz : Addr → Prop} {D : Ends} {f : Fl} {Wy : WX} (h : EndS K ct Wx B Fz D (noEx f)) : EndS K ct Wy B Fz D f := by
  cases f with
  | ex c m => exact h.elim
  | _ => exact h
theorem DHs.many {hds : List ExceptHandler} {l : List (Value × (Nat → Option Bool) × (Ms → Fl))} (h : DHs X ct hds l) {c : Nat} {m : Ms} {D : Ends} {σ : L2.St} {H B : Hp} {Fz : Addr → Prop} (r : Rs X.K B Fz H σ m)
    (q : EndS X.K ct Wx B Fz D (goTry (l.map (·.2)) c m)) : wMany X.K Wx D (hdT X.K ct l) (ct c) none σ H := by
  induction h with
  | nil => exact q σ H Fz .refl r
  | @cons x cv pt s b₀ suite np pos' hds l hc hp hs r' ih =>
    rw [List.map_cons] at q
    unfold goTry at q
    cases hb : pt c with
    | none => rw [hb] at q; exact q.elim
    | some b =>
      rw [hb] at q
      refine ⟨b, hp c b hb, fun e a na => ?_, fun e => ?_⟩
      · subst e
        exact tS_iff.mpr ⟨B, Fz, m, r, noEx_end q⟩
      · subst e
        exact ih q
theorem ds_try {body : List Stmt} {h₀ : ExceptHandler} {hds : List ExceptHandler} {l : List (Value × (Nat → Option Bool) × (Ms → Fl))} {g : Ms → Fl} (tk : Takes X Wx)
    (hb : ∀ (W : WX) (pn : List (Addr × Obj)) (xe : Value → Shared → Prop), Takes (X.tr pn xe) W → PassesOwn (model X.prog X.w) X.A X.env xe → DSs (X.tr pn xe) ct W body g)
    (hh : DHs X ct (h₀ :: hds) l) (hs : X.stack = X.env :: X.outer := by rfl) (hf : X.env.frame = some X.env.locals := by rfl) : DS X ct Wx (.Try body (h₀ :: hds) [] [] pos) (sTry g (l.map (·.2))) :=
  ds_of (ps_try_many (tb := fun W => tS X.K ct W g) hs hf tk (fun W pn xe tk hp => (hb W pn xe tk hp).ps) hh.ok) fun D σ H B Fz m h q => by
    refine tS_iff.mpr ⟨B, Fz, m, h, ?_⟩
    unfold sTry at q
    cases hg : g m with
    | ex c m' =>
      rw [hg] at q
      exact fun σ' H' F' x r => hh.many r (EndS.ext x q)
    | _ => rw [hg] at q; exact q
/-! ### try: .. except X as e: return .. isinstance(e, Y) .. -/
def constV : PyData → Option V
  | .none => some .non
  | .bool b => some (.bl b)
  | .int i => some (.int i)
  | .str s => some (.str s)
  | _ => none
theorem constV_rp {K : PySem.W.Frag} {y : PyData} {u : V} (h : constV y = some u) {Fz : Addr → Prop} {H : Hp} : Rp K Fz H u y := by
  cases y with
  | none => cases h; exact .non
  | bool b => cases h; exact .bl b
  | int i => cases h; exact .int i
  | str s => cases h; exact .str s
  | _ => cases h
structure DIs (X : Cx) (ct : CT) (i : Nat) (ex : Expr) (v : Nat → Option PyData) : Prop where
  pe : ∀ (a : Addr) (oe : Obj) (cls : Value) (d : Option Addr) (pn : List (Addr × Obj)), Zc cls d oe → (∃ vs, oe.data = .fields vs) →
    PE (X.suite a ((a, oe) :: pn)) ex (fun σ H Q => d = none ∧ ∃ c y u, cls = ct c ∧ σ[i]? = some (some (V.ref a)) ∧ v c = some y ∧ constV y = some u ∧ Q u H)
def sTryIs (g : Ms → Fl) (i : Nat) (p : Nat → Option Bool) (v : Nat → Option PyData) : Ms → Fl := fun m => match g m with
  | .ex c m' => match p c with
    | some true => match v c with
      | some y => if i < m'.length ∧ (constV y).isSome = true then .rt y else .st
      | none => .st
    | some false => .ex c m'
    | none => .st
  | o => o
theorem ds_tryIs {body : List Stmt} {g : Ms → Fl} {cv : Value} {pt : Nat → Option Bool} {v : Nat → Option PyData} {n : Str} {ex : Expr} {np rpos hpos : Pos} (i : Nat) (tk : Takes X Wx) (hN : X.N.Nodup) (hc : Names X x cv) (hp : ∀ n b, pt n = some b → PySem.W.exmOne X.K (ct n) cv = some b)
    (hb : ∀ (W : WX) (pn : List (Addr × Obj)) (xe : Value → Shared → Prop), Takes (X.tr pn xe) W → PassesOwn (model X.prog X.w) X.A X.env xe → DSs (X.tr pn xe) ct W body g)
    (hx : DIs X ct i ex v) (hi : X.N[i]? = some n := by rfl) (hln : X.env.kindOf n = some .local := by rfl) (hs : X.stack = X.env :: X.outer := by rfl) (hf : X.env.frame = some X.env.locals := by rfl) :
    DS X ct Wx (.Try body [.ExceptHandler (some (.Name x np)) (some n) [.Return (some ex) rpos] hpos] [] [] pos) (sTryIs g i pt v) :=
  ds_of (ps_try_as (i := i) (tb := fun W => tS X.K ct W g) (ts := fun a cls d D σ H => d = none ∧ ∃ c y u, cls = ct c ∧ σ[i]? = some (some (V.ref a)) ∧ v c = some y ∧ constV y = some u ∧ D.rt u H) hs hf hN hi hln hc tk
      (fun W pn xe tk hp => (hb W pn xe tk hp).ps) (fun a oe cls d pn hz hd => pss_one (ps_ret (hx.pe a oe cls d pn hz hd)))) fun D σ H B Fz m h q => by
    refine tS_iff.mpr ⟨B, Fz, m, h, ?_⟩
    unfold sTryIs at q
    cases hg : g m with
    | ex c m' =>
      rw [hg] at q
      dsimp only at q
      intro σ' H' F' x r
      cases hb : pt c with
      | none => rw [hb] at q; exact q.elim
      | some b =>
        rw [hb] at q
        refine ⟨b, hp c b hb, fun e a na => ?_, fun e => ?_⟩
        · subst e
          dsimp only at q
          cases hv : v c with
          | none => rw [hv] at q; exact q.elim
          | some y =>
            rw [hv] at q
            dsimp only at q
            split at q
            · rename_i hl
              have q : ∀ v H' Fz', Ext B Fz Fz' → (∃ σ' m', Rs X.K B Fz' H' σ' m') → Rp X.K Fz' H' v y → D.rt v H' := q
              obtain ⟨hl, hy⟩ := hl
              cases hcu : constV y with
              | none => rw [hcu] at hy; cases hy
              | some u =>
                refine ⟨rfl, c, y, u, rfl, ?_, hv, hcu, q u H' F' x ⟨σ', m', r⟩ (constV_rp hcu)⟩
                rw [List.getElem?_set_self (by rw [r.lsz]; exact hl)]
            · exact q.elim
        · subst e
          exact q σ' H' F' x r
    | _ => rw [hg] at q; exact q
/-- isinstance(e, Y) -/
theorem dis_is {n y : Str} {i : Nat} {cv : Addr} {isT : Nat → Option Bool} {pn1 py : Pos} (hN : X.N[i]? = some n := by rfl) (hc : ∀ c b, isT c = some b → ∃ D, ct c = .ref D ∧ ExcC X.K D ∧ PySem.W.kitOne X.K (.ref D) (.ref cv) = some b) (hy : X.mg y = some (.ref cv)) (hmi : X.mg "isinstance" = none)
    (hv : Vis X.env.scope n := by first | exact Or.inl rfl | exact Or.inr (Or.inl rfl) | exact Or.inr (Or.inr rfl)) (hgy : Gl X y := by rfl) (hgi : Gl X "isinstance" := by rfl) (hd : (n == ("__debug__" : Str)) = false := by decide) (hcd : (n == ("__classdict__" : Str)) = false := by decide) (hdy : (y == ("__debug__" : Str)) = false := by decide)
    (he : starEach [.Name n pn1, .Name y py] X.env = (false, eval (.Name n pn1) X.env) :: starEach [.Name y py] X.env := by rfl) (he2 : starEach [.Name y py] X.env = (false, eval (.Name y py) X.env) :: starEach [] X.env := by rfl) (hpl : (backTo pos (starEach [.Name y py] X.env)).any (·.1) = false := by rfl) :
    DIs X ct i (.Call (.Name "isinstance" p) [.Name n pn1, .Name y py] [] pos) (fun c => (isT c).map .bool) := ⟨fun a oe cls d pn hz hf => ⟨fun pins s σ H Q I ⟨hd0, c, z, u, hcls, hσ, hv', hu, q⟩ => by
  subst hd0
  cases hb : isT c with
  | none => rw [hb] at hv'; cases hv'
  | some b =>
    rw [hb] at hv'
    cases hv'
    cases hu
    obtain ⟨D, e1, e2, e3⟩ := hc c b hb
    rw [e1] at hcls
    subst hcls
    refine (pe_callB (X := X.suite a ((a, oe) :: pn)) (call_isE (pn := pn) e2 hz hf) hgi hmi (by rfl) (pa_cons (pe_var hN hv hd hcd) (pa_cons (pe_glob (v := V.ref cv) hgy hy rfl hdy) pa_nil he2) he) (by decide) (by decide) he hpl).run pins s σ H Q I ?_
    exact ⟨.ref a, hσ, .ref cv, .ref cv, b, rfl, fun u r => by cases r; rfl, e3, q⟩⟩⟩
end
end Dl
set_option Elab.async false
set_option linter.all false
set_option maxRecDepth 100000
/-! D12: sorted(set(..)) of tuples of ints; is None. -/
namespace Dl
open PySem PySem.Spec PyProof.Rows L2
section
variable {P : Program} {w : World} {A : Around} {E : Value → Shared → Prop} {s : Shared}
/-- the set's first object -/
abbrev freshSet (w : World) : Obj := { cls := .type "set", dict := none, data := .set #[] 0 (.fresh 0 0 (!w.params.followText "set-order")) }
set_option maxHeartbeats 3200000 in
/-- set of a tuple of tuples of ints -/
theorem set_tupT {l : Addr} {items : Array Value} (ks : List (Addr × List Int)) {Q : Value → Shared → Prop} (hh : A.handled = none) (hl : s.heap.IsTuple l items) (hit : items.toList = ks.map fun p => Value.ref p.1) (hk : ∀ p ∈ ks, IsT P w s.heap p.2 p.1) (hfew : ks.length < 64) (hu : A.units + 3 < cLine)
    (h : ∀ (h' : Heap) (tk : Nat) L es ep t, SetTR P w h' s.heap.objs.size L es ep t → Got ks ks.length L → (∀ b o, s.heap.get? b = some o → h'.get? b = some o) → Q (.ref s.heap.objs.size) { s with heap := h', toks := tk }) : wpAny (model P w) A (call (.type "set") [.ref l]) Q E s := by
  have isz : items.size = ks.length := by rw [← Array.length_toList, hit, List.length_map]
  obtain ⟨c, tl, hmro⟩ := F.called_set.mro
  have made := F.called_set.made
  have sub := F.called_set.sub
  refine wpAny_call (codeAny_of_tree ?_)
  show wpAny _ _ (callAny (.type "set") _) _ _ _
  refine wpAny_pure ⟨Code.quiet_builtin _ (by decide +kernel), codeAny_builtin F.entry_type_call ?_⟩
  rw [Around.under_plain (weight_type_call_type "set" [.ref l] []) rfl]
  have nt := F.called_set.notType
  have cc := F.called_set.canCreate
  have tc := F.typeCall_set_1 (.ref l)
  repeat (any_goals (first | assumption | wp_step))
  refine codeAny_mono (code_set_led1 (.ref l) (E := E) (Q₁ := fun ob s1 => ob = .ref s.heap.objs.size ∧ s1 = { s with heap := s.heap.push (freshSet w) }) ⟨rfl, rfl⟩) fun r s1 hr => ?_
  match r, hr with
  | .error e, hr => exact hr
  | .ok (.ret ob), hr =>
    obtain ⟨rfl, rfl⟩ := hr
    have gS : (s.heap.push (freshSet w)).get? s.heap.objs.size = some (freshSet w) := Heap.get?_push_size _ rfl
    have ty : Shared.TypeIs { s with heap := s.heap.push (freshSet w) } (.ref s.heap.objs.size) "set" := ⟨_, gS, rfl⟩
    have il := F.called_set.init.lookup
    have ib := F.called_set.init.bind (.ref s.heap.objs.size)
    repeat (any_goals (first | assumption | wp_step))
    refine codeAny_mono (codeAny_call_builtin (R := wants (fun r s2 => r = .none ∧ ∃ h' tk L es ep t, s2 = { s with heap := h', toks := tk } ∧ SetTR P w h' s.heap.objs.size L es ep t ∧ Got ks ks.length L ∧ (∀ b o, s.heap.get? b = some o → h'.get? b = some o)) E) F.called_set.init.plain F.entry_set_init (check_set_init_1 ty ?_)) fun r2 s2 hr2 => ?_
    · have ltS : l < s.heap.objs.size := by obtain ⟨_, z, _⟩ := id hl; exact Heap.lt_size z
      obtain ⟨⟨oc, od, odt, osl⟩, ho, hc, nl, hd⟩ := id hl
      simp only at hc hd
      subst hc; subst hd
      have ho' : (s.heap.push (freshSet w)).get? l = some { cls := .type "tuple", dict := od, data := .seq items nl, slots := osl } := Heap.get?_push_of_some _ ho
      have s1 := F.sub_tuple_set
      have s2 := F.sub_tuple_frozenset
      have nd : (Value.type "tuple" == Value.type "dict") = false := by decide
      have il1 : (s.heap.push (freshSet w)).IsTuple l items := ⟨_, ho', rfl, nl, rfl⟩
      unfold Builtin.«set.__init__» noKeywords Builtin.Frozenset.updateFrom
      generalize hPI : pyIter = PI
      wp_walk
      subst hPI
      refine wpAny_pyIter_tuple il1 (wpAny_bind (wpAny_runValue ?_))
      have ha : A.in1.in1.in1.handled = none := by simp [hh]
      have szS : (s.heap.push (freshSet w)).objs.size = s.heap.objs.size + 1 := Heap.size_push ..
      have ne1 : l ≠ (s.heap.push (freshSet w)).objs.size := by rw [szS]; exact Nat.ne_of_lt (Nat.lt_succ_of_lt ltS)
      have nin : s.heap.objs.size ∉ [(s.heap.push (freshSet w)).objs.size, l] := by
        rw [szS]
        intro z
        rcases List.mem_cons.mp z with z | z
        · exact absurd z (Nat.ne_of_lt (Nat.lt_succ_self _))
        · exact absurd (List.mem_singleton.mp z).symm (Nat.ne_of_lt ltS)
      have gone : ∀ b, s.heap.objs.size ≤ b → s.heap.get? b = none := fun b hb => by
        cases q : s.heap.get? b with
        | none => rfl
        | some o => exact absurd (Heap.lt_size q) (Nat.not_lt_of_le hb)
      refine set_update_tups ((Walks.tuple ha (s.heap.push (freshSet w)).objs.size l ne1 items).toS) s.heap.objs.size nin ks isz hfew (fun i v hv => ?_) s.heap hk (gone _ (Nat.le_refl _)) (fun b hb => gone b (by rw [List.mem_singleton.mp hb, szS]; exact Nat.le_succ _)) hu items.size 0 _ (by omega) (Nat.zero_le _)
        ⟨⟨_, Heap.get?_push_size _ rfl, rfl, rfl⟩, il1.at fun o q => Heap.get?_push_of_some _ q⟩ (fun b o e => Heap.get?_push_of_some _ (Heap.get?_push_of_some _ e)) ⟨[], #[], 0, _, setTR_fresh (Heap.get?_push_of_some _ gS), Got.zero ks⟩ fun s' L es ep t hm hS' g' hkp => ?_
      · have q : items.toList[i]? = some v := by rw [Array.getElem?_toList]; exact hv
        rw [hit, List.getElem?_map] at q
        cases hq : ks[i]? with
        | none => rw [hq] at q; cases q
        | some p => rw [hq] at q; exact ⟨p, rfl, (Option.some.inj q).symm⟩
      · obtain ⟨h', g2, d', tk', os'⟩ := s'
        obtain rfl : g2 = s.gens := hm.gens
        obtain rfl : d' = s.drawn := hm.drawn
        obtain rfl : os' = s.os := hm.os
        show wpAny _ _ _ _ _ _
        refine wpAny_pure ?_
        show wpAny _ _ (ret Value.none) _ _ _
        rw [isz] at g'
        exact wpAny_pure ⟨rfl, h', tk', L, es, ep, t, rfl, hS', g', hkp⟩
    · match r2, hr2 with
      | .error e, hr2 => exact hr2
      | .ok (.ret r), hr2 =>
        obtain ⟨rfl, h', tk, L, es, ep, t, rfl, hS', g', hk'⟩ := hr2
        repeat (any_goals (first | assumption | wp_step))
        exact h _ _ _ _ _ _ hS' g' hk'
end
section
variable {X : Cx} {ct : CT} {Wx : WX} {e : Expr} {p p2 pos pos2 : Pos}
/-- set(xs), xs a list or a tuple of tuples of ints -/
def rSetA (K : PySem.W.Frag) (P : Program) (w : World) : List V → Hp → VK → Prop := fun xs H Q => ∃ (l : Addr) (ks : List (Addr × List Int)), xs = [V.ref l] ∧ (SqL K H l (ks.map fun p => V.ref p.1) ∨ SqT K H l (ks.map fun p => V.ref p.1)) ∧ (∀ p ∈ ks, SqT K H p.1 (p.2.map V.int)) ∧ ks.length < 64 ∧
  ∀ a L, H a = none → (∀ p ∈ L, p ∈ ks) → (∀ p ∈ ks, p.2 ∈ L.map (·.2)) → Q (.ref a) (upd H a (SetTO P w a L))
theorem cr_setA (hc : X.calm = true) (hu : X.A.units + 64 < cLine) : CallR X (.type "set") (rSetA X.K X.prog X.w) := by
  intro pins s σ H xs us Q I r ⟨l, ks, ex, hl, hk, hf, q⟩
  rcases hl with hl | hl
  · exact cr_setOfT hc hu pins s σ H xs us Q I r ⟨l, ks, ex, hl, hk, hf, q⟩
  · subst ex
    rw [Vals.ref1 r]
    obtain ⟨its, rv, pl, hz⟩ := I.tuple hl
    refine set_tupT (P := X.prog) (w := X.w) ks (I.ok.hd hc) (show s.heap.IsTuple l its.toArray from pl) (by simpa using refs_of_vals rv) (fun p hp => I.isT (hk p hp)) hf (by omega) fun h' tk L es ep t R g k => ?_
    exact ⟨.ref s.heap.objs.size, upd H s.heap.objs.size (SetTO X.prog X.w s.heap.objs.size L), I.laid (t' := tk) k (Nat.le_refl _) (setTO_new R.t0), rfl, q _ L (I.hok.fresh (Nat.le_refl _)) (fun p hp => List.mem_of_mem_take (g.sub p hp)) fun p hp => g.all p (by rw [List.take_length]; exact hp)⟩
end
end Dl
set_option Elab.async false
set_option linter.all false
set_option maxRecDepth 100000
/-! D13: sorted(set(..)), is None. -/
namespace Dl
open PySem PySem.Spec PyProof.Rows L2
/-- rows of ints -/
def rowsD : List PyData → Option (List (List Int))
  | [] => some []
  | .tuple xs :: r => (intsOf xs).bind fun n => (rowsD r).map (n :: ·)
  | _ :: _ => none
def rowT (ns : List Int) : PyData := .tuple (ns.map .int)
theorem rowsD_eq : ∀ {xs : List PyData} {R : List (List Int)}, rowsD xs = some R → xs = R.map rowT
  | [], R, h => by cases h; rfl
  | x :: r, R, h => by
    cases x with
    | tuple ys =>
      unfold rowsD at h
      cases hy : intsOf ys with
      | none => rw [hy] at h; cases h
      | some n =>
        rw [hy, Option.bind_some] at h
        cases hr : rowsD r with
        | none => rw [hr] at h; cases h
        | some k =>
          rw [hr] at h
          cases h
          rw [rowsD_eq hr, intsOf_eq hy]; rfl
    | _ => cases h
@[simp] theorem rowsD_map : ∀ R : List (List Int), rowsD (R.map rowT) = some R
  | [] => rfl
  | n :: R => by simp [rowsD, rowT, ← List.map_map, rowsD_map R]
/-- in order, each once -/
def insC (B : Int) (x : List Int) : List (List Int) → List (List Int)
  | [] => [x]
  | y :: r => if x = y then y :: r else if TS.code B x ≤ TS.code B y then x :: y :: r else y :: insC B x r
def ssort (B : Int) (R : List (List Int)) : List (List Int) := R.foldr (insC B) []
theorem insC_mem {B : Int} {x z : List Int} : ∀ {R : List (List Int)}, z ∈ insC B x R ↔ z = x ∨ z ∈ R
  | [] => by simp [insC]
  | y :: r => by
    unfold insC
    split
    · rename_i h; subst h; simp
    · split
      · simp
      · rw [List.mem_cons, insC_mem, List.mem_cons]
        constructor
        · rintro (h | h | h) <;> simp [h]
        · rintro (h | h | h) <;> simp [h]
theorem ssort_mem {B : Int} {z : List Int} : ∀ {R : List (List Int)}, z ∈ ssort B R ↔ z ∈ R
  | [] => by simp [ssort]
  | y :: r => by
    show z ∈ insC B y (ssort B r) ↔ _
    rw [insC_mem, ssort_mem, List.mem_cons]
theorem code_bd {B : Int} (hB : 0 < B) : ∀ {r : List Int}, TS.Bd B r → 0 ≤ TS.code B r ∧ TS.code B r < B ^ r.length
  | [], _ => by simp [TS.code]
  | d :: r, h => by
    obtain ⟨a, b⟩ := code_bd hB h.tail
    have := TS.num1 a b h.head.1 h.head.2
    show 0 ≤ d * B ^ r.length + TS.code B r ∧ d * B ^ r.length + TS.code B r < B ^ (r.length + 1)
    rw [Int.pow_succ]
    exact this
theorem code_inj {B : Int} (hB : 0 < B) : ∀ {r t : List Int}, TS.Bd B r → TS.Bd B t → r.length = t.length → TS.code B r = TS.code B t → r = t
  | [], [], _, _, _, _ => rfl
  | [], _ :: _, _, _, h, _ => by simp at h
  | _ :: _, [], _, _, h, _ => by simp at h
  | d :: r, e :: t, h1, h2, hl, hc => by
    have hl' : r.length = t.length := by simpa using hl
    have hc' : d * B ^ r.length + TS.code B r = e * B ^ t.length + TS.code B t := hc
    rw [← hl'] at hc'
    obtain ⟨a1, a2⟩ := code_bd hB h1.tail
    obtain ⟨b1, b2⟩ := code_bd hB h2.tail
    rw [← hl'] at b2
    have hP : 0 < B ^ r.length := by omega
    generalize B ^ r.length = P at *
    have hde : d = e := by
      rcases Int.lt_trichotomy d e with z | z | z
      · have : (d + 1) * P ≤ e * P := Int.mul_le_mul_of_nonneg_right (by omega) (by omega)
        rw [Int.add_mul] at this; omega
      · exact z
      · have : (e + 1) * P ≤ d * P := Int.mul_le_mul_of_nonneg_right (by omega) (by omega)
        rw [Int.add_mul] at this; omega
    subst hde
    rw [code_inj hB h1.tail h2.tail hl' (by omega)]
/-- rows that may be sorted: d ints each, within [0, B) -/
def rowsOk (B : Int) (R : List (List Int)) : Bool := decide (R.length < 64) && R.all fun r => decide (r.length = (R.headD [0]).length) && decide (1 ≤ r.length) && r.all fun m => decide (0 ≤ m ∧ m < B)
theorem insC_pw {B : Int} {x : List Int} : ∀ {R : List (List Int)}, R.Pairwise (fun q r => TS.code B q < TS.code B r) → (∀ y ∈ R, TS.code B x = TS.code B y → x = y) → (insC B x R).Pairwise (fun q r => TS.code B q < TS.code B r)
  | [], _, _ => by simp [insC]
  | y :: r, h, hi => by
    unfold insC
    rw [List.pairwise_cons] at h
    split
    · rw [List.pairwise_cons]; exact h
    · rename_i hne
      split
      · rename_i hle
        have hlt : TS.code B x < TS.code B y := by
          have : TS.code B x ≠ TS.code B y := fun e => hne (hi y (by simp) e)
          omega
        rw [List.pairwise_cons, List.pairwise_cons]
        refine ⟨fun z hz => ?_, h⟩
        rcases List.mem_cons.mp hz with e | hz
        · subst e; exact hlt
        · exact Int.lt_trans hlt (h.1 z hz)
      · rename_i hle
        rw [List.pairwise_cons]
        refine ⟨fun z hz => ?_, insC_pw h.2 fun w hw => hi w (List.mem_cons_of_mem _ hw)⟩
        rcases insC_mem.mp hz with e | hz
        · subst e; omega
        · exact h.1 z hz
theorem ssort_pw {B : Int} : ∀ {R : List (List Int)}, (∀ x ∈ R, ∀ y ∈ R, TS.code B x = TS.code B y → x = y) → (ssort B R).Pairwise (fun q r => TS.code B q < TS.code B r)
  | [], _ => by simp [ssort]
  | y :: r, h => by
    show (insC B y (ssort B r)).Pairwise _
    exact insC_pw (ssort_pw fun x hx z hz => h x (List.mem_cons_of_mem _ hx) z (List.mem_cons_of_mem _ hz)) fun z hz => h y (by simp) z (List.mem_cons_of_mem _ (ssort_mem.mp hz))
/-- two rows in strict order with the same members are one -/
theorem strict_uniq {α : Type} {f : α → Int} : ∀ {l k : List α}, l.Pairwise (fun q r => f q < f r) → k.Pairwise (fun q r => f q < f r) → (∀ z, z ∈ l ↔ z ∈ k) → l = k
  | [], [], _, _, _ => rfl
  | [], y :: k, _, _, h => absurd ((h y).mpr (by simp)) (by simp)
  | x :: l, [], _, _, h => absurd ((h x).mp (by simp)) (by simp)
  | x :: l, y :: k, h1, h2, h => by
    rw [List.pairwise_cons] at h1 h2
    have e : x = y := by
      rcases List.mem_cons.mp ((h x).mp (by simp)) with a | a
      · exact a
      · rcases List.mem_cons.mp ((h y).mpr (by simp)) with b | b
        · exact b.symm
        · have := h2.1 x a; have := h1.1 y b; omega
    subst e
    rw [strict_uniq h1.2 h2.2 fun z => ?_]
    constructor
    · intro hz
      rcases List.mem_cons.mp ((h z).mp (List.mem_cons_of_mem _ hz)) with a | a
      · subst a; have := h1.1 z hz; omega
      · exact a
    · intro hz
      rcases List.mem_cons.mp ((h z).mpr (List.mem_cons_of_mem _ hz)) with a | a
      · subst a; have := h2.1 z hz; omega
      · exact a
def ssetB : Int := 1048576
def ssetD (x : PyData) : Option W := (itemsD x).bind fun xs => (rowsD xs).bind fun R => if rowsOk ssetB R = true then some (.l ((ssort ssetB R).map rowT)) else none
section
variable {X : Cx} {ct : CT} {Wx : WX} {e a b : Expr} {p p2 pos pos2 : Pos}
theorem rows_split {K : PySem.W.Frag} {Fz : Addr → Prop} {H : Hp} : ∀ {R : List (List Int)} {vs : List V}, RpAll K Fz H vs (R.map rowT) → ∃ ks : List (Addr × List Int), vs = ks.map (fun p => V.ref p.1) ∧ ks.map (·.2) = R ∧ ∀ p ∈ ks, H p.1 = some (.tup (p.2.map V.int))
  | [], vs, h => by cases h; exact ⟨[], rfl, rfl, fun _ z => absurd z List.not_mem_nil⟩
  | n :: R, vs, h => by
    cases h with
    | cons r rs =>
      obtain ⟨ks, e1, e2, e3⟩ := rows_split rs
      cases r with
      | tup hq ra =>
        have := ra.ints
        subst this
        refine ⟨(_, n) :: ks, by rw [e1]; rfl, by rw [← e2]; rfl, fun p hp => ?_⟩
        rcases List.mem_cons.mp hp with e | hp
        · subst e; exact hq
        · exact e3 p hp
      | tupK _ hs _ => exact absurd hs (by cases n <;> simp [hdStr])
def eSset (f : Ms → Rz PyData) : Ms → Rz W := fun m => (f m).bind fun x => ofO (ssetD x)
theorem de_sset {f : Ms → Rz PyData} (hu : X.A.units + 64 < cLine) (ha : DR X ct Wx e f) (hms : X.mg "sorted" = none) (hmt : X.mg "set" = none) (hc : X.calm = true := by rfl) (hgs : Gl X "sorted" := by rfl) (hgt : Gl X "set" := by rfl)
    (h1 : starEach [e] X.env = (false, eval e X.env) :: starEach [] X.env := by rfl)
    (h2 : starEach [.Call (.Name "set" p2) [e] [] pos2] X.env = (false, eval (.Call (.Name "set" p2) [e] [] pos2) X.env) :: starEach [] X.env := by rfl) :
    DE X ct Wx (.Call (.Name "sorted" p) [.Call (.Name "set" p2) [e] [] pos2] [] pos) (eSset f) :=
  ⟨PE_imp (pe_callB (cr_sortedT hc) hgs hms (by decide +kernel) (pa_cons (pe_callTy (cr_setA hc hu) hgt hmt (by decide +kernel) (pa_cons ha.pe pa_nil h1) (by decide) (by decide) h1 (by rfl)) pa_nil h2) (by decide) (by decide) h2 (by rfl)) fun σ H Q ⟨B, Fz, m, h, q⟩ => by
    unfold eSset at q
    refine tR_then h ?_
    cases hf : f m with
    | st => rw [hf] at q; exact q
    | ex c => rw [hf] at q; exact q
    | ok x =>
      intro v H1 F1 x1 r1 l1 s1
      rw [hf, Rz.bind_ok] at q
      have vw := s1.vw r1
      cases hw : ssetD x with
      | none => rw [hw] at q; exact q.elim
      | some wv =>
        rw [hw] at q
        have q : ∀ v H' Fz', Ext B Fz Fz' → rE X.K B Fz' H' σ m v wv → Q v H' := q
        unfold ssetD at hw
        cases hi : itemsD x with
        | none => rw [hi] at hw; cases hw
        | some xs =>
          rw [hi, Option.bind_some] at hw
          cases hr : rowsD xs with
          | none => rw [hr] at hw; cases hw
          | some R =>
            rw [hr, Option.bind_some] at hw
            split at hw
            · rename_i ok
              cases hw
              have ex := rowsD_eq hr
              subst ex
              -- the rows' addresses
              have src : ∃ (l : Addr) (ks : List (Addr × List Int)), v = .ref l ∧ (SqL X.K H1 l (ks.map fun p => V.ref p.1) ∨ SqT X.K H1 l (ks.map fun p => V.ref p.1)) ∧ ks.map (·.2) = R ∧ ∀ p ∈ ks, H1 p.1 = some (.tup (p.2.map V.int)) := by
                cases x with
                | list ys =>
                  cases hi
                  obtain ⟨a, vs, rfl, h1, h2⟩ := vw.list
                  obtain ⟨ks, e1, e2, e3⟩ := rows_split h2
                  subst e1
                  exact ⟨a, ks, rfl, .inl (.inl (.inl h1)), e2, e3⟩
                | tuple ys =>
                  cases hi
                  obtain ⟨a, vs, rfl, h1, h2⟩ := vw.tup
                  obtain ⟨ks, e1, e2, e3⟩ := rows_split h2
                  subst e1
                  exact ⟨a, ks, rfl, .inr h1, e2, e3⟩
                | _ => cases hi
              obtain ⟨l, ks, rfl, hl, hR, hk⟩ := src
              unfold rowsOk at ok
              rw [Bool.and_eq_true, decide_eq_true_eq] at ok
              obtain ⟨hn, hall⟩ := ok
              have each : ∀ r ∈ R, r.length = (R.headD [0]).length ∧ 1 ≤ r.length ∧ TS.Bd ssetB r := fun r hr => by
                have z := List.all_eq_true.mp hall r hr
                simp only [Bool.and_eq_true, decide_eq_true_eq, List.all_eq_true] at z
                exact ⟨z.1.1, z.1.2, fun m hm => z.2 m hm⟩
              have hB : (0 : Int) < ssetB := by decide
              have inj : ∀ x ∈ R, ∀ y ∈ R, TS.code ssetB x = TS.code ssetB y → x = y := fun x hx y hy e => code_inj hB (each x hx).2.2 (each y hy).2.2 ((each x hx).1.trans (each y hy).1.symm) e
              have kR : ∀ p ∈ ks, p.2 ∈ R := fun p hp => by rw [← hR]; exact List.mem_map.mpr ⟨p, hp, rfl⟩
              refine ⟨l, ks, rfl, hl, fun p hp => .inl (.inl (hk p hp)), by rw [← hR, List.length_map] at hn; exact hn, fun a L ha hs hall => ?_⟩
              have sm : Same H1 (upd H1 a (SetTO X.prog X.w a L)) := same_new ha
              have d1 : 1 ≤ (R.headD [0]).length := by
                cases R with
                | nil => simp
                | cons y r => exact (each y (by simp)).2.1
              have sq : ∀ p ∈ L, (upd H1 a (SetTO X.prog X.w a L)) p.1 = some (.tup (p.2.map V.int)) := fun p hp => sm _ _ (hk p (hs p hp))
              refine ⟨a, L, (R.headD [0]).length, ssetB, rfl, upd_same, fun p hp => .inl (.inl (sq p hp)), d1, fun p hp => ⟨(each _ (kR p (hs p hp))).1, (each _ (kR p (hs p hp))).2.2⟩, fun L' b pm nd few pw hb => ?_⟩
              have r2 := (r1.new (o := SetTO X.prog X.w a L) ha)
              have sub : ∀ q ∈ L', q.2 ∈ R := fun q hq => kR q (hs q (pm.mem_iff.mp hq))
              have pw' : (L'.map (·.2)).Pairwise (fun q r => TS.code ssetB q < TS.code ssetB r) := by
                rw [List.pairwise_map]
                have nd' := List.pairwise_map.mp nd
                refine (List.Pairwise.and pw nd').imp_of_mem fun {q r} hq hr hh => ?_
                have : TS.code ssetB q.2 ≠ TS.code ssetB r.2 := fun e => hh.2 (inj _ (sub q hq) _ (sub r hr) e)
                have := hh.1
                omega
              have eq : L'.map (·.2) = ssort ssetB R := strict_uniq pw' (ssort_pw inj) fun z => by
                rw [ssort_mem]
                constructor
                · intro hz
                  obtain ⟨q, hq, e⟩ := List.mem_map.mp hz
                  rw [← e]; exact sub q hq
                · intro hz
                  rw [← hR] at hz
                  obtain ⟨p, hp, e⟩ := List.mem_map.mp hz
                  have := hall p hp
                  rw [e] at this
                  obtain ⟨q, hq, e2⟩ := List.mem_map.mp this
                  exact List.mem_map.mpr ⟨q, pm.mem_iff.mpr hq, e2⟩
              refine q _ _ F1 x1 (r2.newLst hb ?_)
              rw [← eq]
              have all : ∀ L2 : List (Addr × List Int), (∀ q ∈ L2, q ∈ L) → RpAll X.K F1 (upd H1 a (SetTO X.prog X.w a L)) (L2.map fun q => V.ref q.1) ((L2.map (·.2)).map rowT) := fun L2 => by
                induction L2 with
                | nil => intro _; exact .nil
                | cons q L2 ih => exact fun h => .cons (.tup (sq q (h q (by simp))) (RpAll.of_ints _)) (ih fun z hz => h z (List.mem_cons_of_mem _ hz))
              exact all L' fun q hq => pm.mem_iff.mp hq
            · cases hw⟩
/-- is None -/
def isN (x y : PyData) : Option Bool := match y with
  | .none => some (isNoneD x)
  | _ => none
def notN (x y : PyData) : Option Bool := (isN x y).map not
theorem non_iff {K : PySem.W.Frag} {Fz : Addr → Prop} {H : Hp} {v : V} {x : PyData} (h : Vw K Fz H v x) : decide (v = .non) = isNoneD x := by
  cases x with
  | none => rw [h.non]; rfl
  | bool b => rw [h.bool]; rfl
  | int i => rw [h.int]; rfl
  | str s => rw [h.str]; rfl
  | list xs => obtain ⟨a, vs, rfl, _⟩ := h.list; rfl
  | tuple xs => obtain ⟨a, vs, rfl, _⟩ := h.tup; rfl
  | dict xs => cases h.plain
theorem cmpOk_isN {K : PySem.W.Frag} : CmpOk K (fun x y H Q => y = .non ∧ Q (.bl (decide (x = .non))) H) isN := fun {Fz H v u x y b Q} h1 h2 e q => by
  cases y with
  | none =>
    cases e
    refine ⟨h2.non, ?_⟩
    rw [non_iff h1]; exact q
  | _ => cases e
theorem cmpOk_notN {K : PySem.W.Frag} : CmpOk K (fun x y H Q => y = .non ∧ Q (.bl (!decide (x = .non))) H) notN := fun {Fz H v u x y b Q} h1 h2 e q => by
  cases y with
  | none =>
    cases e
    refine ⟨h2.non, ?_⟩
    rw [non_iff h1]; exact q
  | _ => cases e
end
end Dl
set_option Elab.async false
set_option linter.all false
set_option maxRecDepth 100000
/-! D14: xs[::-1]. -/
namespace Dl
open PySem PySem.Spec PyProof.Rows L2
section
variable {prog : Program} {w : World} {A : Around} {E : Value → Shared → Prop} {s : Shared}
theorem adjust_rev (n : Nat) : Builtin.Slice.sliceAdjust none none (-1) (n : Int) = ((n : Int) - 1, -1) := by
  unfold Builtin.Slice.sliceAdjust
  have h1 : ((-1 : Int) < 0) := by omega
  simp only [h1, if_true]
  try rfl
theorem places_rev (n : Nat) : Builtin.Slice.slicePlaces ((n : Int) - 1) (-1) (-1) = n := by
  unfold Builtin.Slice.slicePlaces
  have h1 : ¬ ((-1 : Int) > 0) := by omega
  simp only [h1, if_false]
  split <;> simp <;> omega
theorem sliceApplied_rev {sl : Addr} {vl vu vs : Value} {n : Nat} {Q : Int × Int × Nat → Shared → Prop} (hs : s.heap.IsSliceOf sl vl vu vs) (pl : IsPart vl none) (pu : IsPart vu none) (ps : IsPart vs (some (-1)))
    (h : Q ((n : Int) - 1, -1, n) s) : wpAny (model prog w) A (Builtin.Slice.sliceApplied (.ref sl) (pure (n : Int))) Q E s := by
  obtain ⟨os, hos, hcs, hds⟩ := id hs
  unfold Builtin.Slice.sliceApplied Builtin.Slice.sliceFields
  refine wpAny_bind (wpAny_bind (wpAny_field hos hds (x := vl) rfl (wpAny_bind (wpAny_field hos hds (x := vu) rfl (wpAny_bind (wpAny_field hos hds (x := vs) rfl (wpAny_pure ?_)))))))
  refine wpAny_bind (HT.slicePart_ ps ?_)
  show wpAny _ _ (if ((-1 : Int) == 0) = true then _ else _) _ _ s
  rw [if_neg (by decide)]
  refine wpAny_bind (HT.slicePart_ pl (wpAny_bind (HT.slicePart_ pu (wpAny_bind (wpAny_pure ?_)))))
  show wpAny _ _ (match Builtin.Slice.sliceAdjust none none (-1) (n : Int) with | (lo, hi) => pure (lo, (-1 : Int), Builtin.Slice.slicePlaces lo hi (-1))) _ _ s
  rw [adjust_rev n]
  show wpAny _ _ (pure ((n : Int) - 1, (-1 : Int), Builtin.Slice.slicePlaces ((n : Int) - 1) (-1) (-1))) _ _ s
  rw [places_rev]
  exact wpAny_pure h
theorem filterMap_eq {α β : Type} {f g : α → Option β} : ∀ {l : List α}, (∀ x ∈ l, f x = g x) → l.filterMap f = l.filterMap g
  | [], _ => rfl
  | a :: l, h => by
    rw [List.filterMap_cons, List.filterMap_cons, h a (by simp), filterMap_eq fun x hx => h x (List.mem_cons_of_mem _ hx)]
theorem range_all {α : Type} : ∀ (l : List α), (List.range l.length).filterMap (fun m => l[m]?) = l
  | [] => rfl
  | a :: l => by
    rw [List.length_cons, List.range_succ_eq_map, List.filterMap_cons, List.filterMap_map]
    show a :: (List.range l.length).filterMap ((fun m => (a :: l)[m]?) ∘ Nat.succ) = a :: l
    rw [filterMap_eq (g := fun m => l[m]?) fun x _ => by simp, range_all l]
theorem pick_rev (xs : Array Value) : ((List.range xs.size).filterMap fun (m : Nat) => xs[((xs.size : Int) - 1 + (m : Int) * -1).toNat]?).toArray = xs.toList.reverse.toArray := by
  have h1 : ((List.range xs.size).filterMap fun (m : Nat) => xs[((xs.size : Int) - 1 + (m : Int) * -1).toNat]?) = (List.range xs.size).filterMap fun m => xs.toList.reverse[m]? := by
    apply filterMap_eq
    intro m hm
    have hlt := List.mem_range.mp hm
    rw [List.getElem?_reverse (by simpa using hlt), Array.length_toList, Array.getElem?_toList]
    congr 1
    omega
  have := range_all xs.toList.reverse
  rw [List.length_reverse, Array.length_toList] at this
  rw [h1, this]
theorem getItem_tuple_rev {t sl : Addr} {items : Array Value} {vl vu vs : Value} {Q : Value → Shared → Prop} (ht : IsTup s.heap t items) (hs : s.heap.IsSliceOf sl vl vu vs) (pl : IsPart vl none) (pu : IsPart vu none) (ps : IsPart vs (some (-1)))
    (h : Q (.ref s.heap.objs.size) { s with heap := s.heap.push { cls := .type "tuple", data := .seq items.toList.reverse.toArray } }) (hsz : items.size ≤ sizeLine) : wpAny (model prog w) A (getItem (.ref t) (.ref sl)) Q E s := by
  have ok : sizeOk (.seq items.toList.reverse.toArray) := by
    show items.toList.reverse.toArray.size ≤ sizeLine
    rw [List.size_toArray, List.length_reverse, Array.length_toList]
    exact hsz
  obtain ⟨os, hos, hcs, hds⟩ := id hs
  have ty : s.TypeIs (.ref sl) "slice" := ⟨os, hos, hcs⟩
  unfold getItem
  try with_reducible refine wpAny_holding ?_
  first | refine wpAny_bind (wpAny_pure ?_) | skip
  refine wpAny_bind (wpAny_sequenceKey ht.typeIs (by decide) (wpAny_bind (wpAny_callSpecial?_slot (name := Str.ofString "__getitem__") ht.typeIs PyProof.Rows.slot_tuple_getitem (wpAny_call_entry PyProof.Rows.slot_tuple_getitem ht.typeIs entry_tuple_getitem ?_ (args_tuple_getitem _ _)))))
  show wpAny _ _ (Builtin.Tuple.tupleItemsOf (.ref t) >>= _) _ _ s
  refine wpAny_bind (tupleItemsOf_ ht (wpAny_bind (wpAny_typeOf ty ?_)))
  rw [if_pos (by decide)]
  refine wpAny_bind (sliceApplied_rev hs pl pu ps ?_)
  show wpAny _ _ (if (((items.size : Int) - 1) == 0 && (-1 : Int) == 1 && items.size == items.size) = true then _ else _) _ _ s
  rw [if_neg (by simp), pick_rev]
  first
    | exact wpAny_bind (m := Builtin.Tuple.tupleExact _) (wpAny_newObj_type (wpAny_pure ⟨_, rfl, wpAny_pure h⟩) ok)
    | exact wpAny_bind (m := Builtin.Tuple.tupleExact _) (wpAny_newObj_type (wpAny_bind (wpAny_pure (wpAny_pure ⟨_, rfl, wpAny_pure h⟩))) ok)
    | exact wpAny_bind (wpAny_bind (m := Builtin.Tuple.tupleExact _) (wpAny_newObj_type (wpAny_pure (wpAny_pure ⟨_, rfl, wpAny_pure h⟩)) ok))
    | exact wpAny_bind (wpAny_bind (m := Builtin.Tuple.tupleExact _) (wpAny_newObj_type (wpAny_pure ⟨_, rfl, wpAny_pure h⟩) ok))
end
section
variable {X : Cx} {ct : CT} {Wx : WX} {e a b : Expr} {p p2 pos pos2 : Pos}
/-- e[::-1] -/
def tRevA (K : PySem.W.Frag) (te : TE) : TE := fun σ H Q => te σ H fun x H1 => ∃ a xs, x = .ref a ∧ ((SqL K H1 a xs ∧ ∀ p, H1 p = none → Q (.ref p) (upd H1 p (.lst xs.reverse))) ∨ (SqT K H1 a xs ∧ ∀ p, H1 p = none → Q (.ref p) (upd H1 p (.tup xs.reverse))))
theorem pe_revA {te : TE} {k : Nat} {p1 p2 p3 : Pos} (he : PE X e te) : PE X (.Subscript e (.Slice none none (some (.UnaryOp .USub (.Constant (.int 1) k p1) p2)) p3) pos) (tRevA X.K te) := by
  refine ⟨fun pins s σ H Q I h => ?_⟩
  refine Subscript_ (thn (he.run pins s σ H _ I h) fun v s1 ⟨x, H1, I1, r1, a, xs, ex, q⟩ => ?_)
  subst ex
  cases r1
  refine wpAny_Slice (thn (po_none.run pins s1 σ H1 (fun o H2 => o = none ∧ H2 = H1) I1 ⟨rfl, rfl⟩) fun vl s2 ⟨l, H2, I2, pl, el, e2⟩ => ?_)
  subst el e2
  refine thn (po_none.run pins s2 σ H2 (fun o H3 => o = none ∧ H3 = H2) I2 ⟨rfl, rfl⟩) fun vu s3 ⟨u, H3, I3, pu, eu, e3⟩ => ?_
  subst eu e3
  refine thn ((po_some (pe_un un_neg pe_int)).run pins s3 σ H3 (fun o H4 => o = some (-1) ∧ H4 = H3) I3 ⟨1, rfl, -1, rfl, rfl, rfl⟩) fun vs s4 ⟨o, H4, I4, ps, eo, e4⟩ => ?_
  subst eo e4
  have I5 : Inv X pins σ H4 { s4 with heap := s4.heap.push { cls := .type "slice", data := .fields #[vl, vu, vs] } } := I4.kept (t' := s4.toks) fun b ob q => Heap.get?_push_of_some _ q
  show wpAny (model X.prog X.w) X.A (subscriptTail e (.Slice none none (some (.UnaryOp .USub (.Constant (.int 1) k p1) p2)) p3) (.ref a) (.ref s4.heap.objs.size)) (EP X pins σ Q) X.xe { s4 with heap := s4.heap.push { cls := .type "slice", data := .fields #[vl, vu, vs] } }
  rcases q with ⟨hx, q⟩ | ⟨hx, q⟩
  · obtain ⟨its, r, ht, hz⟩ := I5.list hx
    have hlen := r.length
    refine tail_any (ops := [.ref a, .ref s4.heap.objs.size]) ht.isList.typeIs (PySem.slot_list_getitem.lookup) ?_ (by with_unfolding_all rfl)
    refine wpAny_getItem_list_slice ht.isList (Heap.IsSliceOf.new _ vl vu vs) pl pu ps (by decide) ?_ (by rw [List.size_toArray]; omega)
    rw [PySem.W.krv_pick]
    exact ⟨.ref _, _, I5.laid (t' := s4.toks) (o := .lst xs.reverse) (fun b ob q => Heap.get?_push_of_some _ q) (Nat.le_refl _) ⟨by rw [List.length_reverse]; exact hz, _, 0, r.reverse, Heap.get?_push_size _ rfl⟩, rfl, q _ (I5.hok.fresh (Nat.le_refl _))⟩
  · obtain ⟨its, r, ht, hz⟩ := I5.tuple hx
    have hlen := r.length
    refine tail_any (ops := [.ref a, .ref s4.heap.objs.size]) ht.typeIs (PyProof.Rows.slot_tuple_getitem.lookup) ?_ (by with_unfolding_all rfl)
    refine getItem_tuple_rev ht (Heap.IsSliceOf.new _ vl vu vs) pl pu ps ?_ (by rw [List.size_toArray]; omega)
    exact ⟨.ref _, _, I5.laid (t' := s4.toks) (o := .tup xs.reverse) (fun b ob q => Heap.get?_push_of_some _ q) (Nat.le_refl _) ⟨by rw [List.length_reverse]; exact hz, _, r.reverse, ⟨_, Heap.get?_push_size _ rfl, rfl, _, rfl⟩⟩, rfl, q _ (I5.hok.fresh (Nat.le_refl _))⟩
def revD (x : PyData) : Option W := match x with
  | .list xs => some (.l xs.reverse)
  | .tuple xs => some (.d (.tuple xs.reverse))
  | _ => none
def eRev (f : Ms → Rz PyData) : Ms → Rz W := fun m => (f m).bind fun x => ofO (revD x)
theorem de_rev {f : Ms → Rz PyData} {k : Nat} {p1 p2 p3 : Pos} (he : DR X ct Wx e f) : DE X ct Wx (.Subscript e (.Slice none none (some (.UnaryOp .USub (.Constant (.int 1) k p1) p2)) p3) pos) (eRev f) := ⟨PE_imp (pe_revA he.pe) fun σ H Q ⟨B, Fz, m, h, q⟩ => by
  unfold eRev at q
  refine tR_then h ?_
  cases hf : f m with
  | st => rw [hf] at q; exact q
  | ex c => rw [hf] at q; exact q
  | ok x =>
    intro v H1 F1 x1 r1 l1 s1
    rw [hf, Rz.bind_ok] at q
    have vw := s1.vw r1
    cases x with
    | list xs =>
      obtain ⟨a, vs, rfl, h1, h2⟩ := vw.list
      exact ⟨a, vs, rfl, .inl ⟨.inl (.inl h1), fun p hp => q _ _ F1 x1 (r1.newLst hp h2.reverse)⟩⟩
    | tuple xs =>
      obtain ⟨a, vs, rfl, h1, h2⟩ := vw.tup
      exact ⟨a, vs, rfl, .inr ⟨h1, fun p hp => q _ _ F1 x1 (r1.newTup hp h2.reverse)⟩⟩
    | _ => exact q.elim⟩
end
end Dl
set_option Elab.async false
set_option linter.all false
set_option maxRecDepth 100000
/-! D15: odds and ends for the printed text. -/
namespace Dl
open PySem PySem.Spec PyProof.Rows L2
/-- a slot's own list is given up behind a statement -/
def sPost (i : Nat) (g : Ms → Fl) : Ms → Fl := fun m => match g m with
  | .nx m' => .nx (frzAt i m')
  | o => o
theorem ds_post {X : Cx} {ct : CT} {Wx : WX} {st : Stmt} {g : Ms → Fl} (i : Nat) (h : DS X ct Wx st g) : DS X ct Wx st (sPost i g) := ds_of h.ps fun D σ H B Fz m r q => by
  refine tS_iff.mpr ⟨B, Fz, m, r, ?_⟩
  unfold sPost at q
  cases hg : g m with
  | nx m' =>
    rw [hg] at q
    have q : ∀ σ' H' Fz', Ext B Fz Fz' → Rs X.K B Fz' H' σ' (frzAt i m') → D.nx σ' H' := q
    intro σ' H' F' x r'
    have e0 : EndS X.K ct Wx B F' { nx := fun _ _ => True, rt := fun _ _ => True } (.nx m') := fun _ _ _ _ _ => trivial
    obtain ⟨F2, r2, _⟩ := frz_end (X := X) (ct := ct) (Wx := Wx) (i := i) r' e0
    unfold frzAt at r2 q
    split at r2
    · rename_i xs e
      obtain ⟨F3, x3, r3⟩ := r'.frzAt i e
      exact q σ' H' F3 (x.trans x3) (by rw [e]; exact r3)
    · rename_i e
      refine q σ' H' F' x ?_
      split
      · rename_i xs e2; exact absurd e2 (e xs)
      · exact r'
  | _ => rw [hg] at q; exact q
/-- the address of an own class -/
def ctA (ct : CT) (c : Nat) : Addr := match ct c with
  | .ref a => a
  | _ => 0
/-- classes by their addresses -/
def ctL (l : List Addr) : CT := fun n => match l[n]? with
  | some a => .ref a
  | none => .none
theorem room_u {k : Nat} {A : Around} (r : Room k A) (n : Nat) (h : n ≤ 199) : A.units + n < cLine := by
  have := r.un
  omega
end Dl
set_option Elab.async false
set_option linter.all false
set_option maxRecDepth 100000
/-! D16: reckoning with the mirror. -/
namespace Dl
open PySem PySem.Spec PyProof.Rows L2
section
variable {m : Ms} {f g h : Ms → Rz PyData} {i j : Int} {x y z : PyData} {xs ys : List PyData} {fw : Ms → Rz W} {b c : Bool}
@[simp] theorem toV_s : toV fw m = (fw m).bind fun w => match w with | .d x => .ok x | .l xs => .ok (.list xs) | _ => .st := rfl
@[simp] theorem ofV_s : ofV f m = (f m).map W.d := rfl
@[simp] theorem vVar_s {i : Nat} : vVar i m = match m[i]? with | some (some (.d x)) => .ok x | _ => .st := rfl
@[simp] theorem rVar_s {i : Nat} : rVar i m = match m[i]? with | some (some (.d x)) => .ok x | some (some (.l xs)) => .ok (.list xs) | _ => .st := rfl
@[simp] theorem vC_s : vC x m = .ok x := rfl
@[simp] theorem e2_s {k : PyData → PyData → Option W} : e2 k f g m = (f m).bind fun x => (g m).bind fun y => ofO (k x y) := rfl
@[simp] theorem e1_s {k : PyData → Option W} : e1 k f m = (f m).bind fun x => ofO (k x) := rfl
@[simp] theorem ofO_some' {α : Type} {a : α} : ofO (some a) = .ok a := rfl
@[simp] theorem eCall_s {k : List PyData → Option W} {fs : List (Ms → Rz PyData)} : eCall k fs m = (evalAllD fs m).bind fun xs => ofO (k xs) := rfl
@[simp] theorem evalAll_nil : evalAllD [] m = .ok [] := rfl
@[simp] theorem evalAll_cons {fs : List (Ms → Rz PyData)} : evalAllD (f :: fs) m = (f m).bind fun x => (evalAllD fs m).bind fun xs => .ok (x :: xs) := rfl
@[simp] theorem g1_s {k : PyData → Option W} : g1 k [x] = k x := rfl
@[simp] theorem g12_1 {k : PyData → Option W} {k2 : PyData → PyData → Option W} : g12 k k2 [x] = k x := rfl
@[simp] theorem g12_2 {k : PyData → Option W} {k2 : PyData → PyData → Option W} : g12 k k2 [x, y] = k2 x y := rfl
@[simp] theorem boolD_s : boolD (.bool b) = .ok b := rfl
@[simp] theorem vNot_s : vNot f m = (f m).bind fun x => (boolD x).map fun b => .bool (!b) := rfl
@[simp] theorem vAnd_s : vAnd f g m = (f m).bind fun x => (boolD x).bind fun b => if b = true then g m else .ok (.bool false) := rfl
@[simp] theorem vOr_s : vOr f g m = (f m).bind fun x => (boolD x).bind fun b => if b = true then .ok (.bool true) else g m := rfl
@[simp] theorem vIf_s {t : Ms → Rz Bool} : vIf t f g m = (t m).bind fun b => if b = true then f m else g m := rfl
@[simp] theorem v2_s {k : PyData → PyData → Option Bool} : v2 k f g m = (t2 k f g m).map .bool := rfl
@[simp] theorem t2_s {k : PyData → PyData → Option Bool} : t2 k f g m = (f m).bind fun x => (g m).bind fun y => ofO (k x y) := rfl
@[simp] theorem v3_s {k k2 : PyData → PyData → Option Bool} : v3 k k2 f g h m = (t3 k k2 f g h m).map .bool := rfl
@[simp] theorem t3_s {k k2 : PyData → PyData → Option Bool} : t3 k k2 f g h m = (f m).bind fun x => (g m).bind fun y => (ofO (k x y)).bind fun b => if b = true then (h m).bind fun z => ofO (k2 y z) else .ok false := rfl
@[simp] theorem tNot_s {t : Ms → Rz Bool} : tNot' t m = (t m).map not := rfl
@[simp] theorem tAnd_s {t u : Ms → Rz Bool} : tAnd' t u m = (t m).bind fun b => if b = true then u m else .ok false := rfl
@[simp] theorem tOr_s {t u : Ms → Rz Bool} : tOr' t u m = (t m).bind fun b => if b = true then .ok true else u m := rfl
@[simp] theorem tV_s : tV' f m = (f m).bind boolD := rfl
@[simp] theorem vIsi_s {k : PyData → Bool} : vIsi k f m = (f m).map fun x => .bool (k x) := rfl
@[simp] theorem eTup_s {fs : List (Ms → Rz PyData)} : eTup fs m = (evalAllD fs m).map .tuple := rfl
@[simp] theorem eLst_s {fs : List (Ms → Rz PyData)} : eLst fs m = (evalAllD fs m).map .l := rfl
@[simp] theorem eSl_s {l u : Ms → Rz (Option Int)} : eSl f l u m = (f m).bind fun x => (l m).bind fun lo => (u m).bind fun hi => ofO (slD x lo hi) := rfl
@[simp] theorem oNone_s : oNone m = .ok none := rfl
@[simp] theorem oSome_s : oSome f m = (f m).bind fun x => (intD x).map some := rfl
@[simp] theorem intD_s : intD (.int i) = .ok i := rfl
@[simp] theorem slD_l {lo hi : Option Int} : slD (.list xs) lo hi = some (.l (cutL xs lo hi)) := rfl
@[simp] theorem slD_t {lo hi : Option Int} : slD (.tuple xs) lo hi = some (.d (.tuple (cutL xs lo hi))) := rfl
@[simp] theorem eRev_s : eRev f m = (f m).bind fun x => ofO (revD x) := rfl
@[simp] theorem revD_l : revD (.list xs) = some (.l xs.reverse) := rfl
@[simp] theorem revD_t : revD (.tuple xs) = some (.d (.tuple xs.reverse)) := rfl
@[simp] theorem iSeq_s : iSeq f m = (f m).bind itemsOf := rfl
@[simp] theorem itemsOf_l : itemsOf (.list xs) = .ok xs := rfl
@[simp] theorem itemsOf_t : itemsOf (.tuple xs) = .ok xs := rfl
@[simp] theorem iArg_s {k : List PyData → Rz (List PyData)} {fs : List (Ms → Rz PyData)} : iArg k fs m = (evalAllD fs m).bind k := rfl
@[simp] theorem enumD_l : enumD [.list xs] = .ok (enumFrom 0 xs) := rfl
@[simp] theorem enumD_t : enumD [.tuple xs] = .ok (enumFrom 0 xs) := rfl
@[simp] theorem zipD_l : zipD [.list xs, .list ys] = .ok (zipL xs ys) := rfl
@[simp] theorem zipD_t : zipD [.tuple xs, .tuple ys] = .ok (zipL xs ys) := rfl
@[simp] theorem lenD_l : lenD (.list xs) = some (.d (.int xs.length)) := rfl
@[simp] theorem lenD_t : lenD (.tuple xs) = some (.d (.int xs.length)) := rfl
@[simp] theorem isInt_i : isInt (.int i) = true := rfl
@[simp] theorem isInt_b : isInt (.bool b) = true := rfl
@[simp] theorem isInt_n : isInt .none = false := rfl
@[simp] theorem isInt_s {s : Str} : isInt (.str s) = false := rfl
@[simp] theorem isInt_l : isInt (.list xs) = false := rfl
@[simp] theorem isInt_t : isInt (.tuple xs) = false := rfl
@[simp] theorem isInt_d {ds : List (PyData × PyData)} : isInt (.dict ds) = false := rfl
@[simp] theorem isBool_i : isBool (.int i) = false := rfl
@[simp] theorem isBool_b : isBool (.bool b) = true := rfl
@[simp] theorem isTup_i : isTup (.int i) = false := rfl
@[simp] theorem isTup_b : isTup (.bool b) = false := rfl
@[simp] theorem isTup_n : isTup .none = false := rfl
@[simp] theorem isTup_s {s : Str} : isTup (.str s) = false := rfl
@[simp] theorem isTup_l : isTup (.list xs) = false := rfl
@[simp] theorem isTup_t : isTup (.tuple xs) = true := rfl
@[simp] theorem isTup_d {ds : List (PyData × PyData)} : isTup (.dict ds) = false := rfl
@[simp] theorem tupleD_l : tupleD (.list xs) = some (.d (.tuple xs)) := rfl
@[simp] theorem tupleD_t : tupleD (.tuple xs) = some (.d (.tuple xs)) := rfl
@[simp] theorem listD_l : listD (.list xs) = some (.l xs) := rfl
@[simp] theorem listD_t : listD (.tuple xs) = some (.l xs) := rfl
@[simp] theorem absD_i : absD (.int i) = some (.d (.int (if i < 0 then -i else i))) := rfl
@[simp] theorem toIntD_i : toIntD (.int i) = some (.d (.int i)) := rfl
@[simp] theorem min2_i : min2D (.int i) (.int j) = some (.d (.int (min i j))) := rfl
@[simp] theorem neg_i : negD (.int i) = some (.d (.int (-i))) := rfl
@[simp] theorem add_i : addD (.int i) (.int j) = some (.d (.int (i + j))) := rfl
@[simp] theorem add_t : addD (.tuple xs) (.tuple ys) = if xs.length + ys.length ≤ 16000000 then some (.d (.tuple (xs ++ ys))) else none := rfl
@[simp] theorem add_l : addD (.list xs) (.list ys) = if xs.length + ys.length ≤ 16000000 then some (.l (xs ++ ys)) else none := rfl
@[simp] theorem sub_i : subD (.int i) (.int j) = some (.d (.int (i - j))) := rfl
@[simp] theorem mul_i : mulD (.int i) (.int j) = if smallI i ∨ smallI j then some (.d (.int (i * j))) else none := rfl
@[simp] theorem div_i : divD (.int i) (.int j) = if 0 < j ∧ j < 1073741824 then some (.d (.int (i / j))) else none := rfl
@[simp] theorem mod_i : modD (.int i) (.int j) = if 0 < j then some (.d (.int (i % j))) else none := rfl
@[simp] theorem lt_i : ltD (.int i) (.int j) = some (decide (i < j)) := rfl
@[simp] theorem gt_i : gtD (.int i) (.int j) = some (decide (j < i)) := rfl
@[simp] theorem le_i : leD (.int i) (.int j) = some (!decide (j < i)) := rfl
@[simp] theorem ge_i : geD (.int i) (.int j) = some (!decide (i < j)) := rfl
@[simp] theorem eq_i : eqD (.int i) (.int j) = some (i == j) := by simp [eqD, PyData.depth, PyData.eqv]
@[simp] theorem ne_i : neD (.int i) (.int j) = some (!(i == j)) := by simp [neD, PyData.depth, PyData.eqv]
@[simp] theorem eq_b : eqD (.bool b) (.bool c) = some (b == c) := by simp [eqD, PyData.depth, PyData.eqv]
@[simp] theorem ne_b : neD (.bool b) (.bool c) = some (!(b == c)) := by simp [neD, PyData.depth, PyData.eqv]
@[simp] theorem ix_t : ixD (.tuple xs) (.int i) = (atI xs i).map .d := rfl
@[simp] theorem ix_l : ixD (.list xs) (.int i) = (atI xs i).map .d := rfl
theorem atI_nat {α : Type} {l : List α} {n : Nat} : atI l (n : Int) = l[n]? := by
  unfold atI ixN
  rw [if_pos (by omega)]
  by_cases h : n < l.length
  · rw [if_pos (by omega)]; simp
  · rw [if_neg (by omega)]; simp [List.getElem?_eq_none (Nat.le_of_not_lt h)]
theorem atI_int {α : Type} {l : List α} {i : Int} (h : 0 ≤ i) : atI l i = l[i.toNat]? := by
  obtain ⟨n, rfl⟩ := Int.eq_ofNat_of_zero_le h
  simpa using atI_nat
@[simp] theorem atI_0 {α : Type} {l : List α} : atI l 0 = l[0]? := atI_nat (n := 0)
@[simp] theorem atI_1 {α : Type} {l : List α} : atI l 1 = l[1]? := atI_nat (n := 1)
@[simp] theorem atI_2 {α : Type} {l : List α} : atI l 2 = l[2]? := atI_nat (n := 2)
@[simp] theorem isN_n : isN x .none = some (isNoneD x) := rfl
@[simp] theorem vFn_s {F : Ms → Rz PyData} {fs : List (Ms → Rz PyData)} : vFn F fs m = (evalAllD fs m).bind fun xs => F (xs.map fun x => some (.d x)) := rfl
@[simp] theorem rz_map_ok {α β : Type} {k : α → β} {a : α} : Rz.map k (.ok a) = .ok (k a) := rfl
/-! statements -/
variable {s t : Ms → Fl} {u : Ms → Rz Bool}
@[simp] theorem sNil_s : sNil m = .nx m := rfl
@[simp] theorem sSeq_s : sSeq s t m = match s m with | .nx m' => t m' | r => r := by simp only [sSeq] <;> cases s m <;> rfl
@[simp] theorem sSet_s {i : Nat} : sSet i fw m = match fw m with | .st => .st | .ok w => (if i < m.length then .nx (m.set i (some w)) else .st) | .ex c => .ex c m := by simp only [sSet, flE] <;> cases fw m <;> rfl
@[simp] theorem sIf_s : sIf u s t m = match u m with | .st => .st | .ok b => (if b = true then s m else t m) | .ex c => .ex c m := by simp only [sIf, flE] <;> cases u m <;> rfl
@[simp] theorem sRet_s : sRet f m = match f m with | .st => .st | .ok x => .rt x | .ex c => .ex c m := by simp only [sRet, flE] <;> cases f m <;> rfl
@[simp] theorem sExpr_s : sExpr f m = match f m with | .st => .st | .ok _ => .nx m | .ex c => .ex c m := by simp only [sExpr, flE] <;> cases f m <;> rfl
@[simp] theorem sRaise_s {c : Nat} : sRaise c m = .ex c m := rfl
@[simp] theorem sAsg_s {k : PyData → Ms → Option Ms} : sAsg f k m = match f m with | .st => .st | .ok x => (match k x m with | some m' => .nx m' | none => .st) | .ex c => .ex c m := by simp only [sAsg, flE] <;> cases f m <;> rfl
@[simp] theorem gSet_s {i : Nat} : gSet i x m = if i < m.length then some (m.set i (some (.d x))) else none := rfl
@[simp] theorem gCons_s {k : PyData → Ms → Option Ms} {l : List PyData → Ms → Option Ms} : gCons k l (x :: xs) m = (k x m).bind fun m' => l xs m' := rfl
@[simp] theorem gNil_s : gNil [] m = some m := rfl
@[simp] theorem gTup_s {n : Nat} {l : List PyData → Ms → Option Ms} : gTup' n l (.tuple xs) m = if xs.length = n then l xs m else none := rfl
@[simp] theorem sFor_s {k : Ms → Rz (List PyData)} {l : PyData → Ms → Option Ms} : sFor k l s m = match k m with | .st => .st | .ok xs => goFor l s xs m | .ex c => .ex c m := by simp only [sFor, flE] <;> cases k m <;> rfl
@[simp] theorem sApp_s {i : Nat} : sApp i f m = match lAt i m with | some xs => (match f m with | .st => .st | .ok x => (if xs.length < 16777216 then .nx (m.set i (some (.l (xs ++ [x])))) else .st) | .ex c => .ex c m) | none => .st := by simp only [sApp, flE] <;> cases lAt i m <;> cases f m <;> rfl
@[simp] theorem sPost_s {i : Nat} : sPost i s m = match s m with | .nx m' => .nx (frzAt i m') | o => o := by simp only [sPost] <;> cases s m <;> rfl
@[simp] theorem fnW_s {N : Nat} : fnW N s m = match s (m ++ List.replicate (N - m.length) none) with | .nx _ => .ok .none | .rt x => .ok x | .ex c _ => .ex c | _ => .st := by simp only [fnW] <;> cases s (m ++ List.replicate (N - m.length) none) <;> rfl
end
/-! comprehensions -/
theorem goLc_eq {s : PyData → Ms → Option Ms} {t : Ms → Rz Bool} {e : Ms → Rz PyData} {m : Ms} (M : PyData → Ms) (p : PyData → Bool) (g : PyData → PyData) : ∀ xs : List PyData, (∀ x ∈ xs, s x m = some (M x) ∧ t (M x) = .ok (p x) ∧ (p x = true → e (M x) = .ok (g x))) →
    goLc s t e m xs = .ok ((xs.filter p).map g)
  | [], _ => rfl
  | x :: r, h => by
    obtain ⟨h1, h2, h3⟩ := h x (by simp)
    have ih := goLc_eq M p g r fun y hy => h y (List.mem_cons_of_mem _ hy)
    unfold goLc
    rw [h1]
    dsimp only
    rw [h2]
    cases hp : p x with
    | false => dsimp only; rw [ih, List.filter_cons_of_neg (by simp [hp])]
    | true => dsimp only; rw [h3 hp, ih, List.filter_cons_of_pos hp]; rfl
theorem goLc_map {s : PyData → Ms → Option Ms} {e : Ms → Rz PyData} {m : Ms} (M : PyData → Ms) (g : PyData → PyData) (xs : List PyData) (h : ∀ x ∈ xs, s x m = some (M x) ∧ e (M x) = .ok (g x)) : goLc s (fun _ => .ok true) e m xs = .ok (xs.map g) := by
  rw [goLc_eq M (fun _ => true) g xs fun x hx => ⟨(h x hx).1, rfl, fun _ => (h x hx).2⟩]
  rw [List.filter_eq_self.mpr fun _ _ => rfl]
theorem eLc_ok {vs : List Nat} {f : Ms → Rz (List PyData)} {s : PyData → Ms → Option Ms} {t : Ms → Rz Bool} {e : Ms → Rz PyData} {m : Ms} {xs ys : List PyData} (hw : wipeOk vs m = true) (hf : f m = .ok xs) (hg : goLc s t e (wipeM m vs) xs = .ok ys) :
    eLc vs f s t e m = .ok (.l ys) := by
  unfold eLc
  rw [if_pos hw, hf, Rz.bind_ok, hg]
  rfl
@[simp] theorem boolsOf_map' {α : Type} (g : α → Bool) : ∀ xs : List α, boolsOf (xs.map fun x => .bool (g x)) = some (xs.map g)
  | [] => rfl
  | x :: r => by rw [List.map_cons, boolsOf, boolsOf_map' g r]; rfl
@[simp] theorem allD_map {α : Type} (g : α → Bool) (xs : List α) : allD (.list (xs.map fun x => .bool (g x))) = some (.d (.bool (xs.all g))) := by
  show (boolsOf _).map _ = _
  rw [boolsOf_map', Option.map_some, List.all_map]
  rfl
@[simp] theorem anyD_map {α : Type} (g : α → Bool) (xs : List α) : anyD (.list (xs.map fun x => .bool (g x))) = some (.d (.bool (xs.any g))) := by
  show (boolsOf _).map _ = _
  rw [boolsOf_map', Option.map_some, List.any_map]
  rfl
@[simp] theorem boolsOf_nil : boolsOf [] = some [] := rfl
@[simp] theorem boolsOf_cons {b : Bool} {r : List PyData} : boolsOf (.bool b :: r) = (boolsOf r).map (b :: ·) := rfl
@[simp] theorem allD_c {b : Bool} {r : List PyData} : allD (.list (.bool b :: r)) = (boolsOf (.bool b :: r)).map fun bs => .d (.bool (bs.all id)) := rfl
@[simp] theorem allD_n : allD (.list []) = some (.d (.bool true)) := rfl
@[simp] theorem anyD_c {b : Bool} {r : List PyData} : anyD (.list (.bool b :: r)) = (boolsOf (.bool b :: r)).map fun bs => .d (.bool (bs.any id)) := rfl
@[simp] theorem anyD_n : anyD (.list []) = some (.d (.bool false)) := rfl
/-! loops -/
theorem goFor_inv {s : PyData → Ms → Option Ms} {b : Ms → Fl} (P : Nat → Ms → Prop) : ∀ (xs : List PyData) (k : Nat) (m : Ms), P k m → (∀ i x m, xs[i]? = some x → P (k + i) m → ∃ m1, s x m = some m1 ∧ ∃ m2, b m1 = .nx m2 ∧ P (k + i + 1) m2) → ∃ m', goFor s b xs m = .nx m' ∧ P (k + xs.length) m'
  | [], k, m, h, _ => ⟨m, rfl, h⟩
  | x :: r, k, m, h, st => by
    obtain ⟨m1, h1, m2, h2, h3⟩ := st 0 x m rfl h
    obtain ⟨m', h4, h5⟩ := goFor_inv P r (k + 1) m2 h3 fun i y m hy hp => by
      have e : k + 1 + i = k + (i + 1) := by omega
      rw [e] at hp ⊢
      exact st (i + 1) y m (by simpa using hy) hp
    refine ⟨m', ?_, ?_⟩
    · unfold goFor
      rw [h1]
      dsimp only
      rw [h2]
      exact h4
    · have e : k + (x :: r).length = k + 1 + r.length := by rw [List.length_cons]; omega
      rw [e]; exact h5
end Dl
set_option Elab.async false
set_option linter.all false
set_option maxRecDepth 100000
/-! D17: dead slots are forgotten; stores into an own list; in; index and count. -/
namespace Dl
open PySem PySem.Spec PyProof.Rows L2
section
variable {K : PySem.W.Frag} {B : Hp} {Fz Fz' : Addr → Prop} {H H' : Hp} {σ : L2.St} {m : Ms}
theorem RL.forget : ∀ {σ : L2.St} {m : Ms} {fp : List Addr} (i : Nat), RL K Fz H σ m fp → ∃ g, RL K Fz H σ (m.set i none) g ∧ g.Sublist fp
  | _, _, _, _, .nil => ⟨_, .nil, .refl _⟩
  | _, _, _, 0, .no r => ⟨_, .no r, .refl _⟩
  | _, _, _, 0, .so _ r => ⟨_, .no r, List.sublist_append_right _ _⟩
  | _, _, _, i + 1, .no r => by
    obtain ⟨g, r', s⟩ := RL.forget i r
    exact ⟨g, .no r', s⟩
  | _, _, _, i + 1, .so (f := f0) q r => by
    obtain ⟨g, r', s⟩ := RL.forget i r
    exact ⟨_, .so q r', s.append_left f0⟩
theorem Rs.forget (i : Nat) (h : Rs K B Fz H σ m) : Rs K B Fz H σ (m.set i none) := by
  obtain ⟨fp, rl, nd, own, base, fz⟩ := h
  obtain ⟨g, r, s⟩ := RL.forget i rl
  exact ⟨g, r, nd.sublist s, fun a h => own a (s.subset h), base, fz⟩
theorem Rs.forgets (h : Rs K B Fz H σ m) : ∀ vs : List Nat, Rs K B Fz H σ (wipeM m vs)
  | [] => h
  | v :: vs => (Rs.forgets h vs).forget v
end
section
variable {X : Cx} {ct : CT} {Wx : WX} {e a b c : Expr} {p pos : Pos}
def sCut (vs : List Nat) (g : Ms → Fl) : Ms → Fl := fun m => match g m with
  | .nx m' => .nx (wipeM m' vs)
  | .ct m' => .ct (wipeM m' vs)
  | .bk m' => .bk (wipeM m' vs)
  | o => o
theorem cut_end {vs : List Nat} {g : Ms → Fl} {m : Ms} {K : PySem.W.Frag} {B : Hp} {Fz : Addr → Prop} {D : Ends} (q : EndS K ct Wx B Fz D (sCut vs g m)) : EndS K ct Wx B Fz D (g m) := by
  unfold sCut at q
  cases hg : g m with
  | nx m' => rw [hg] at q; exact fun σ' H' F' x r => q σ' H' F' x (r.forgets vs)
  | ct m' => rw [hg] at q; exact fun σ' H' F' x r => q σ' H' F' x (r.forgets vs)
  | bk m' => rw [hg] at q; exact fun σ' H' F' x r => q σ' H' F' x (r.forgets vs)
  | st => rw [hg] at q; exact q
  | rt x => rw [hg] at q; exact q
  | rq x => rw [hg] at q; exact q
  | ex c m' => rw [hg] at q; exact q
theorem ds_cut {st : Stmt} {g : Ms → Fl} (vs : List Nat) (h : DS X ct Wx st g) : DS X ct Wx st (sCut vs g) := ds_of h.ps fun D σ H B Fz m r q => tS_iff.mpr ⟨B, Fz, m, r, cut_end q⟩
theorem dss_cut {sts : List Stmt} {g : Ms → Fl} (vs : List Nat) (h : DSs X ct Wx sts g) : DSs X ct Wx sts (sCut vs g) := dss_of h.ps fun D σ H B Fz m r q => tS_iff.mpr ⟨B, Fz, m, r, cut_end q⟩
def sPre (vs : List Nat) (g : Ms → Fl) : Ms → Fl := fun m => g (wipeM m vs)
theorem ds_pre {st : Stmt} {g : Ms → Fl} (vs : List Nat) (h : DS X ct Wx st g) : DS X ct Wx st (sPre vs g) := ds_of h.ps fun D σ H B Fz m r q => tS_iff.mpr ⟨B, Fz, _, r.forgets vs, q⟩
theorem dss_pre {sts : List Stmt} {g : Ms → Fl} (vs : List Nat) (h : DSs X ct Wx sts g) : DSs X ct Wx sts (sPre vs g) := dss_of h.ps fun D σ H B Fz m r q => tS_iff.mpr ⟨B, Fz, _, r.forgets vs, q⟩

/-! ### name[i] = e, name[i] op= e, the list one's own -/
def putLK (i : Nat) (x : PyData) (ys : List PyData) (k : PyData) (m : Ms) : Fl := match k with
  | .int j => match ixN ys.length j with
    | some j => .nx (m.set i (some (.l (ys.set j x))))
    | none => .st
  | _ => .st
def putL (i : Nat) (g : Ms → Rz PyData) (x : PyData) (m : Ms) : Fl := match lAt i m with
  | some ys => flE g (fun k m => putLK i x ys k m) m
  | none => .st
def sLput (i : Nat) (g f : Ms → Rz PyData) : Ms → Fl := flE f fun x m => putL i g x m
theorem putLK_cases {i : Nat} {x : PyData} {ys : List PyData} {k : PyData} {m : Ms} {K : PySem.W.Frag} {B : Hp} {Fz : Addr → Prop} {D : Ends} (q : EndS K ct Wx B Fz D (putLK i x ys k m)) : ∃ j j', k = .int j ∧ ixN ys.length j = some j' ∧ EndS K ct Wx B Fz D (.nx (m.set i (some (.l (ys.set j' x))))) := by
  unfold putLK at q
  split at q
  · rename_i j
    split at q
    · rename_i j' e2
      exact ⟨j, j', rfl, e2, q⟩
    · exact q.elim
  · exact q.elim
theorem ds_lput {y : Str} {p2 p3 : Pos} {ix : Expr} {f g : Ms → Rz PyData} (i : Nat) (hf : DV X ct Wx e f) (hg : DV X ct Wx ix g) (hN : X.N[i]? = some y := by rfl)
    (hv : Vis X.env.scope y := by first | exact Or.inl rfl | exact Or.inr (Or.inl rfl) | exact Or.inr (Or.inr rfl)) (hd : (y == ("__debug__" : Str)) = false := by decide) (hcd : (y == ("__classdict__" : Str)) = false := by decide)
    (ha : ∀ v, assign (.Subscript (.Name y p2) ix p3) X.env v = (do
      let ov ← holding [v] (eval (.Name y p2) X.env)
      let iv ← holding [v, ov] (eval ix X.env)
      standAt p3
      holding [v, ov, iv] (setItem ov iv v)
      release [v, ov, iv] []) := by intro _; rfl)
    (hs : swapsWithSole [.Subscript (.Name y p2) ix p3] e pos.line X.env = pure false := by rfl) (hw : swappedStores [.Subscript (.Name y p2) ix p3] e X.env = pure none := by rfl)
    (h1 : (assignEach [.Subscript (.Name y p2) ix p3] X.env).map (·.2) = [assign (.Subscript (.Name y p2) ix p3) X.env] := by rfl) : DS X ct Wx (.Assign [.Subscript (.Name y p2) ix p3] e pos) (sLput i g f) :=
  ds_of (ps_asg hf.pe (pg_sub (pe_var hN hv hd hcd) hg.pe set_list ha) hs hw h1) fun D σ H B Fz m h q => by
    unfold sLput flE at q
    refine tV_then h ?_
    cases hx : f m with
    | st => rw [hx] at q; exact q
    | ex c => rw [hx] at q; exact fun H' F' x r => q σ H' F' x r
    | ok z =>
      rw [hx] at q
      intro v H1 F1 x1 r1 l1 p1
      have q : EndS X.K ct Wx B Fz D (putL i g z m) := q
      unfold putL at q
      cases e1 : lAt i m with
      | none => rw [e1] at q; exact q.elim
      | some ys =>
        rw [e1] at q
        have q : EndS X.K ct Wx B Fz D (flE g (fun k m => putLK i z ys k m) m) := q
        unfold flE at q
        obtain ⟨a, vs, g1, g2, g3, _⟩ := r1.getL (lAt_some e1)
        refine ⟨_, g1, ?_⟩
        refine tV_then r1 ?_
        cases hg : g m with
        | st => rw [hg] at q; exact q
        | ex c => rw [hg] at q; exact fun H' F' x r => q σ H' F' (x1.trans x) r
        | ok k =>
          rw [hg] at q
          obtain ⟨j, j', rfl, e2, q⟩ := putLK_cases q
          intro u H2 F2 x2 r2 l2 p2
          obtain ⟨a', vs', k1, k2, k3, k4⟩ := r2.write i (lAt_some e1)
          rw [g1] at k1; cases k1
          cases p2
          exact ⟨a, vs', j, j', rfl, rfl, k2, by rw [k3.length]; exact e2, q σ _ F2 (x1.trans x2) (k4 _ _ (RpAll.set (p1.mono l2) j' k3))⟩
def augK (i : Nat) (o : Int → Int → Int) (f : Ms → Rz PyData) (ys : List PyData) (k : PyData) (m : Ms) : Fl := match k with
  | .int j => match ixN ys.length j with
    | some j => match ys[j]? with
      | some x => flE f (fun y m => match ipD o x y with
        | some z => .nx (m.set i (some (.l (ys.set j z))))
        | none => .st) m
      | none => .st
    | none => .st
  | _ => .st
def sLaug (i : Nat) (g : Ms → Rz PyData) (o : Int → Int → Int) (f : Ms → Rz PyData) : Ms → Fl := fun m => match lAt i m with
  | some ys => flE g (fun k m => augK i o f ys k m) m
  | none => .st
theorem get_list : PGet X (rIxL X.K) := by
  intro pins s σ H x y v u Q I rx ry h
  obtain ⟨p, xs, i, z, rfl, rfl, hq, he, q⟩ := h
  cases rx
  obtain ⟨t, rfl⟩ := ry
  obtain ⟨its, r, pl, hz⟩ := I.list hq
  obtain ⟨j, h1, h2, h3, h4, h5⟩ := atI_get he
  obtain ⟨w, ew, rw'⟩ := r.get h2
  have hl := r.length
  have hn := line63
  have fin : EP X pins σ Q w s := ⟨z, H, I, rw', q⟩
  by_cases h0 : 0 ≤ i
  · have hj : i.toNat = j := by
      rw [seqIndex_of h0 h5] at h1
      exact Option.some.inj h1
    exact wpAny_getItem_list pl.isList h0 (by omega) (by rw [hj]; simpa using ew) fin
  · have hj : (i + (its.toArray.size : Int)).toNat = j := by
      rw [seqIndex_neg (by omega) h4] at h1
      rw [List.size_toArray, ← hl]
      exact Option.some.inj h1
    exact wpAny_getItem_list_neg pl.isList (by omega) (by rw [List.size_toArray] <;> omega) (by omega) (by rw [hj]; simpa using ew) fin
theorem ds_laug {y : Str} {p2 p3 : Pos} {ix : Expr} {f g : Ms → Rz PyData} {op : Operator} {o : Int → Int → Int} (i : Nat) (ho : PIp X op (ipI o)) (hg : DV X ct Wx ix g) (hf : DV X ct Wx e f) (hN : X.N[i]? = some y := by rfl)
    (hv : Vis X.env.scope y := by first | exact Or.inl rfl | exact Or.inr (Or.inl rfl) | exact Or.inr (Or.inr rfl)) (hd : (y == ("__debug__" : Str)) = false := by decide) (hcd : (y == ("__classdict__" : Str)) = false := by decide)
    (ha : ∀ ov iv new, augStore ix ov iv new = (do holding [new, ov, iv] (setItem ov iv new); release [new, ov, iv] []; pure .next) := by intros; rfl) :
    DS X ct Wx (.AugAssign (.Subscript (.Name y p2) ix p3) op e pos) (sLaug i g o f) :=
  ds_of (ps_augS (pe_var hN hv hd hcd) hg.pe get_list hf.pe ho set_list ha) fun D σ H B Fz m h q => by
    unfold sLaug at q
    cases e1 : lAt i m with
    | none => rw [e1] at q; exact q.elim
    | some ys =>
      rw [e1] at q
      have q : EndS X.K ct Wx B Fz D (flE g (fun k m => augK i o f ys k m) m) := q
      obtain ⟨a, vs, g1, g2, g3, _⟩ := h.getL (lAt_some e1)
      refine ⟨_, g1, ?_⟩
      unfold flE at q
      refine tV_then h ?_
      cases hg : g m with
      | st => rw [hg] at q; exact q
      | ex c => rw [hg] at q; exact fun H' F' x r => q σ H' F' x r
      | ok k =>
        rw [hg] at q
        intro u H2 F2 x2 r2 l2 p2
        have q : EndS X.K ct Wx B Fz D (augK i o f ys k m) := q
        unfold augK at q
        split at q
        · rename_i j
          split at q
          · rename_i j' e2
            split at q
            · rename_i x e3
              cases p2
              obtain ⟨a', vs', k1, k2, k3, _⟩ := r2.getL (lAt_some e1)
              rw [g1] at k1; cases k1
              obtain ⟨v, hv, rv⟩ := k3.get' e3
              refine ⟨a, vs', _, v, rfl, rfl, .inl (.inl k2), ?_, ?_⟩
              · show atI vs' _ = some v
                unfold atI
                rw [k3.length, e2]
                exact hv
              unfold flE at q
              refine tV_then r2 ?_
              cases hf : f m with
              | st => rw [hf] at q; exact q
              | ex c => rw [hf] at q; exact fun H' F' x r => q σ H' F' (x2.trans x) r
              | ok y' =>
                rw [hf] at q
                intro u3 H3 F3 x3 r3 l3 p3
                have q : EndS X.K ct Wx B Fz D (match ipD o x y' with | some z => .nx (m.set i (some (.l (ys.set j' z)))) | none => .st) := q
                cases hz : ipD o x y' with
                | none => rw [hz] at q; exact q.elim
                | some z =>
                  rw [hz] at q
                  unfold ipD at hz
                  split at hz
                  · rename_i i1 i2
                    cases hz
                    cases rv; cases p3
                    refine ⟨i1, i2, rfl, rfl, ?_⟩
                    obtain ⟨a', vs', k1, k2, k3, k4⟩ := r3.write i (lAt_some e1)
                    rw [g1] at k1; cases k1
                    exact ⟨a, vs', _, j', rfl, rfl, k2, by rw [k3.length]; exact e2, q σ _ F3 (x2.trans x3) (k4 _ _ (RpAll.set (.int _) j' k3))⟩
                  · cases hz
            · exact q.elim
          · exact q.elim
        · exact q.elim
/-! ### in -/
def memD : PyData → PyData → Option Bool := fun x y => match y with
  | .list xs => if min (PyData.depthAll xs) x.depth ≤ 100 then some (xs.any fun z => PyData.eqv z x) else none
  | .tuple xs => if min (PyData.depthAll xs) x.depth ≤ 100 then some (xs.any fun z => PyData.eqv z x) else none
  | _ => none
def nmemD (x y : PyData) : Option Bool := (memD x y).map not
theorem op_in (hu : X.A.units + 105 < cLine) : OpR X (compareOp .In) (rOf (pEq X.K memD)) := op_of fun s v u x y as bs b Q E r1 r2 p1 p2 e q => by
  unfold memD at e
  split at e
  · split at e
    · cases e
      exact PySem.SeqAt.in_list_data r2 r1 (by simpa [PyData.plain] using p2) p1 (by omega) (q s.toks)
    · cases e
  · split at e
    · cases e
      exact PySem.SeqAt.in_tuple_data r2 r1 (by simpa [PyData.plain] using p2) p1 (by omega) (q s.toks)
    · cases e
  · cases e
theorem op_nin (hu : X.A.units + 105 < cLine) : OpR X (compareOp .NotIn) (rOf (pEq X.K nmemD)) := op_of fun s v u x y as bs b Q E r1 r2 p1 p2 e q => by
  unfold nmemD memD at e
  split at e
  · split at e
    · cases e
      exact PySem.SeqAt.notIn_list_data r2 r1 (by simpa [PyData.plain] using p2) p1 (by omega) (q s.toks)
    · cases e
  · split at e
    · cases e
      exact PySem.SeqAt.notIn_tuple_data r2 r1 (by simpa [PyData.plain] using p2) p1 (by omega) (q s.toks)
    · cases e
  · cases e
end
end Dl
set_option Elab.async false
set_option linter.all false
set_option maxRecDepth 100000
/-! D18: methods that look for an item; sorted of data; sets of ints. -/
namespace Dl
open PySem PySem.Spec PyProof.Rows L2
section
variable {X : Cx} {ct : CT} {Wx : WX} {e a b c : Expr} {p pos : Pos}
/-! ### xs.index(y), xs.count(y) -/
def cntL (xs : List PyData) (y : PyData) : Option Int := if min (PyData.depthAll xs) y.depth ≤ 100 then some ((xs.countP fun z => PyData.eqv z y : Nat) : Int) else none
def idxL (xs : List PyData) (y : PyData) : Option Int := if min (PyData.depthAll xs) y.depth ≤ 100 then (xs.findIdx? fun z => PyData.eqv z y).map fun (i : Nat) => (i : Int) else none
def rML (K : PySem.W.Frag) (g : List PyData → PyData → Option Int) : V → List V → Hp → VK → Prop := fun x xs H Q => ∃ (l : Addr) (y : V) (d : PyData) (ds : List PyData) (i : Int), x = V.ref l ∧ xs = [y] ∧ Dp K H y d ∧ d.plain = true ∧ PyData.plainAll ds = true ∧
  Dp K H x (.list ds) ∧ g ds d = some i ∧ Q (.int i) H
def rMT (K : PySem.W.Frag) (g : List PyData → PyData → Option Int) : V → List V → Hp → VK → Prop := fun x xs H Q => ∃ (l : Addr) (y : V) (d : PyData) (ds : List PyData) (i : Int), x = V.ref l ∧ xs = [y] ∧ Dp K H y d ∧ d.plain = true ∧ PyData.plainAll ds = true ∧
  Dp K H x (.tuple ds) ∧ g ds d = some i ∧ Q (.int i) H
theorem countP_plain {h : Heap} {xs : List PyData} {vs : List Value} {as : List Addr} {d : PyData} (hp : PyData.plainAll xs = true) (r : ReadsAll h vs xs as) : vs.countP (fun u => PyData.eqv (SeqAt.readOf h u) d) = xs.countP fun z => PyData.eqv z d := by
  rw [← SeqAt.readsAll_map_plain xs _ _ hp r, List.countP_map]
  rfl
theorem cntL_eq {ds : List PyData} {d : PyData} {i : Int} (h : cntL ds d = some i) : min (PyData.depthAll ds) d.depth ≤ 100 ∧ i = ((ds.countP fun z => PyData.eqv z d : Nat) : Int) := by
  unfold cntL at h
  split at h
  · rename_i hd
    cases h
    exact ⟨hd, rfl⟩
  · cases h
theorem idxL_eq {ds : List PyData} {d : PyData} {i : Int} (h : idxL ds d = some i) : min (PyData.depthAll ds) d.depth ≤ 100 ∧ ∃ j : Nat, i = (j : Int) ∧ (ds.findIdx? fun z => PyData.eqv z d) = some j := by
  unfold idxL at h
  split at h
  · rename_i hd
    obtain ⟨j, h1, h2⟩ := Option.map_eq_some_iff.mp h
    exact ⟨hd, j, h2.symm, h1⟩
  · cases h
theorem mt_cntL (hu : X.A.units + 105 < cLine) : MtR X "list.count" (rML X.K cntL) := by
  intro pins s σ H x xs v us Q I rx rxs h
  obtain ⟨l, y, d, ds, i, rfl, rfl, hy, pd, pds, hx, hi, q⟩ := h
  obtain ⟨hd, rfl⟩ := cntL_eq hi
  cases rx
  obtain ⟨u, rfl, ru⟩ := rxs.one
  obtain ⟨bs, r1⟩ := Dp.reads I d y u hy ru
  obtain ⟨as, r2⟩ := Dp.reads I (.list ds) (.ref l) (.ref l) hx rfl
  cases r2 with
  | @list _ o its _ _ _ h1 h2 h3 h4 =>
    obtain ⟨cls, dd, data, sl⟩ := o
    simp only at h2 h3
    subst h2 h3
    refine call_meets PySem.F.slot_list_count ⟨_, h1, rfl⟩ PySem.F.entry_list_count (PySem.F.args_list_count_2 _ _)
      (SeqAt.list_countAt l its _ dd sl u fun z => PyData.eqv (SeqAt.readOf s.heap z) d) ⟨h1, SeqAt.items_plain h4 r1 pds pd (by omega), ?_⟩
    rw [countP_plain pds h4]
    exact ⟨.int _, H, I.tok _, ⟨_, rfl⟩, q⟩
theorem mt_cntT (hu : X.A.units + 105 < cLine) : MtR X "tuple.count" (rMT X.K cntL) := by
  intro pins s σ H x xs v us Q I rx rxs h
  obtain ⟨l, y, d, ds, i, rfl, rfl, hy, pd, pds, hx, hi, q⟩ := h
  obtain ⟨hd, rfl⟩ := cntL_eq hi
  cases rx
  obtain ⟨u, rfl, ru⟩ := rxs.one
  obtain ⟨bs, r1⟩ := Dp.reads I d y u hy ru
  obtain ⟨as, r2⟩ := Dp.reads I (.tuple ds) (.ref l) (.ref l) hx rfl
  cases r2 with
  | @tuple _ o its _ _ _ h1 h2 h3 h4 =>
    obtain ⟨cls, dd, data, sl⟩ := o
    simp only at h2 h3
    subst h2 h3
    refine call_meets PySem.F.slot_tuple_count ⟨_, h1, rfl⟩ PySem.F.entry_tuple_count (PySem.F.args_tuple_count_2 _ _)
      (SeqAt.tuple_countAt l its _ dd sl u fun z => PyData.eqv (SeqAt.readOf s.heap z) d) ⟨h1, SeqAt.items_plain h4 r1 pds pd (by omega), ?_⟩
    rw [countP_plain pds h4]
    exact ⟨.int _, H, I.tok _, ⟨_, rfl⟩, q⟩
theorem find_at {h : Heap} {xs : List PyData} {its : Array Value} {as : List Addr} {d : PyData} {j : Nat} (hp : PyData.plainAll xs = true) (r : ReadsAll h its.toList xs as) (hj : (xs.findIdx? fun z => PyData.eqv z d) = some j) :
    ∃ hj : j < its.size, PyData.eqv (SeqAt.readOf h its[j]) d = true ∧ ∀ m (hm : m < its.size), m < j → PyData.eqv (SeqAt.readOf h its[m]) d = false := by
  have e := SeqAt.readsAll_map_plain xs _ _ hp r
  have hl : its.size = xs.length := by rw [← e, List.length_map, Array.length_toList]
  rw [List.findIdx?_eq_some_iff_getElem] at hj
  obtain ⟨h1, h2, h3⟩ := hj
  have at_ : ∀ m (hm : m < its.size) (hm' : m < xs.length), SeqAt.readOf h its[m] = xs[m] := fun m hm hm' => by
    have := List.getElem_of_eq e (i := m) (by simpa using hm)
    rw [← this, List.getElem_map, Array.getElem_toList]
  refine ⟨by omega, by rw [at_ j (by omega) h1]; exact h2, fun m hm hmj => ?_⟩
  rw [at_ m hm (by omega)]
  simpa using h3 m hmj
theorem mt_idxL (hu : X.A.units + 105 < cLine) : MtR X "list.index" (rML X.K idxL) := by
  intro pins s σ H x xs v us Q I rx rxs h
  obtain ⟨l, y, d, ds, i, rfl, rfl, hy, pd, pds, hx, hi, q⟩ := h
  obtain ⟨hd, j, rfl, hj⟩ := idxL_eq hi
  cases rx
  obtain ⟨u, rfl, ru⟩ := rxs.one
  obtain ⟨bs, r1⟩ := Dp.reads I d y u hy ru
  have hlen : ds.length ≤ sizeLine := by
    cases hx with
    | lst hs ha =>
      obtain ⟨its, rv, _, hlen⟩ := I.list hs
      obtain ⟨as, h4⟩ := Dp.readsAll I ds _ its ha rv
      rw [← SeqAt.ReadsAll.length ds its as h4, ← rv.length]
      exact hlen
  obtain ⟨as, r2⟩ := Dp.reads I (.list ds) (.ref l) (.ref l) hx rfl
  cases r2 with
  | @list _ o its _ _ _ h1 h2 h3 h4 =>
    obtain ⟨cls, dd, data, sl⟩ := o
    simp only at h2 h3
    subst h2 h3
    obtain ⟨hj1, hj2, hj3⟩ := find_at pds h4 hj
    have hjd := (List.findIdx?_eq_some_iff_getElem.mp hj).1
    rw [sizeLine_eq] at hlen
    refine call_meets PySem.F.slot_list_index ⟨_, h1, rfl⟩ PySem.F.entry_list_index (PySem.F.args_list_index_2 _ _)
      (SeqAt.list_indexAt l its _ dd sl u (fun z => PyData.eqv (SeqAt.readOf s.heap z) d) j hj1 (by omega) hj2 hj3) ⟨h1, SeqAt.items_plain h4 r1 pds pd (by omega), ?_⟩
    exact ⟨.int _, H, I.tok _, ⟨_, rfl⟩, q⟩
theorem mt_idxT (hu : X.A.units + 105 < cLine) : MtR X "tuple.index" (rMT X.K idxL) := by
  intro pins s σ H x xs v us Q I rx rxs h
  obtain ⟨l, y, d, ds, i, rfl, rfl, hy, pd, pds, hx, hi, q⟩ := h
  obtain ⟨hd, j, rfl, hj⟩ := idxL_eq hi
  cases rx
  obtain ⟨u, rfl, ru⟩ := rxs.one
  obtain ⟨bs, r1⟩ := Dp.reads I d y u hy ru
  obtain ⟨as, r2⟩ := Dp.reads I (.tuple ds) (.ref l) (.ref l) hx rfl
  cases r2 with
  | @tuple _ o its _ _ _ h1 h2 h3 h4 =>
    obtain ⟨cls, dd, data, sl⟩ := o
    simp only at h2 h3
    subst h2 h3
    obtain ⟨hj1, hj2, hj3⟩ := find_at pds h4 hj
    refine call_meets PySem.F.slot_tuple_index ⟨_, h1, rfl⟩ PySem.F.entry_tuple_index (PySem.F.args_tuple_index_2 _ _)
      (TI.tuple_indexAt l its _ dd sl u (fun z => PyData.eqv (SeqAt.readOf s.heap z) d) j hj1 hj2 hj3) ⟨h1, SeqAt.items_plain h4 r1 pds pd (by omega), ?_⟩
    exact ⟨.int _, H, I.tok _, ⟨_, rfl⟩, q⟩
/-- xs.m(y) of a list -/
def eML (g : List PyData → PyData → Option Int) (fo fa : Ms → Rz PyData) : Ms → Rz W := fun m => (fo m).bind fun x => match x with
  | .list ds => (fa m).bind fun y => ofO ((g ds y).map fun i => .d (.int i))
  | _ => .st
theorem de_mL {id : String} {name : Str} {o : Expr} {g : List PyData → PyData → Option Int} {fo fa : Ms → Rz PyData} {apos cpos : Pos} (slot : Slot "list" name id) (hty : typeOf (.builtin id) = pure (.type "method_descriptor")) (hm : MtR X id (rML X.K g)) (ho : DR X ct Wx o fo) (ha : DB X ct Wx [e] [fa])
    (hbase : attributeBase o name X.env (eval o X.env) = eval o X.env := by rfl)
    (hfew : ((backTo cpos (starEach [e] X.env)).all (fun x => !x.1) && (backToKw cpos (keywordEach [] X.env)).all (fun x => x.1.isSome)
      && decide (([e] : List Expr).length + ([] : List Keyword).length + (if ([] : List Keyword).isEmpty then 0 else 1) < 30)) = true := by rfl)
    (hline : (apos.endLine == cpos.line) = true := by rfl) (hs : starEach [e] X.env = (false, eval e X.env) :: starEach [] X.env := by rfl) (hplain : (backTo cpos (starEach [] X.env)).any (·.1) = false := by rfl) :
    DE X ct Wx (.Call (.Attribute o name apos) [e] [] cpos) (eML g fo fa) := ⟨PE_imp (pe_bm PySem.F.plainAttrs_list slot hty hm ho.pe ha.pa hbase hfew hline hs hplain) fun σ H Q ⟨B, Fz, m, h, q⟩ => by
  unfold eML at q
  refine tR_then h ?_
  cases hx : fo m with
  | st => rw [hx] at q; exact q
  | ex c => rw [hx] at q; exact q
  | ok x =>
    intro v H1 F1 x1 r1 l1 s1
    rw [hx, Rz.bind_ok] at q
    cases x with
    | list ds =>
      obtain ⟨a, vs, rfl, g1, g2⟩ := (s1.vw r1).list
      refine ⟨.inl ⟨rfl, vs, .inl (.inl g1)⟩, tAr_then r1 ?_⟩
      simp only [evalAllD]
      cases hy : fa m with
      | st => rw [hy] at q; exact q
      | ex c => rw [hy] at q; exact fun H' F' x r => q H' F' (x1.trans x) r
      | ok y =>
        rw [hy] at q
        simp only [Rz.bind_ok] at q ⊢
        intro us H2 F2 x2 r2 l2 s2
        obtain ⟨u, rfl, su⟩ := pair1 s2
        have vx := (s1.le l2).vw r2
        have vy := su.vw r2
        cases hg : g ds y with
        | none => rw [hg] at q; exact q.elim
        | some i =>
          rw [hg] at q
          exact ⟨a, u, y, ds, i, rfl, rfl, vy.dp, vy.plain, by have := vx.plain; simpa [PyData.plain] using this, vx.dp, hg, q _ H2 F2 (x1.trans x2) (r2.push (.int i))⟩
    | _ => exact q.elim⟩
/-! ### list(range(..)), tuple(range(..)) -/
noncomputable def rgW (T : Bool) (i j : Int) : Option W := if rngOk i j = true then some (if T = true then .d (.tuple (rngL i (j - i).toNat)) else .l (rngL i (j - i).toNat)) else none
noncomputable def rgC (T : Bool) : List PyData → Option W
  | [.int j] => rgW T 0 j
  | [.int i, .int j] => rgW T i j
  | _ => none
theorem rp_rgV {K : PySem.W.Frag} {Fz : Addr → Prop} {H : Hp} (i j : Int) : RpAll K Fz H (rgV i j) (rngL i (j - i).toNat) := by
  unfold rgV rngL
  generalize List.range (j - i).toNat = l
  induction l with
  | nil => exact .nil
  | cons i l ih => exact .cons (.int _) ih
theorem rgW_ok {T : Bool} {i j : Int} {w : W} (h : rgW T i j = some w) : RgOk i j ∧ w = (if T = true then .d (.tuple (rngL i (j - i).toNat)) else .l (rngL i (j - i).toNat)) := by
  unfold rgW at h
  split at h
  · rename_i hk
    obtain ⟨h1, h2, h3, h4, h5⟩ := rngOk_iff.mp hk
    refine ⟨⟨h1, h2, h3, h4, ?_⟩, (Option.some.inj h).symm⟩
    have e24 : (2 : Nat) ^ 24 = 16777216 := by decide
    rw [e24]; omega
  · cases h
variable {p2 pos2 : Pos}
theorem rg_end {K : PySem.W.Frag} {T : Bool} {i j : Int} {w : W} {B H : Hp} {Fz F1 : Addr → Prop} {σ : L2.St} {m : Ms} {Q : VK} (x : Ext B Fz F1) (h : Rs K B F1 H σ m) (e : rgW T i j = some w) (q : ∀ v H' Fz', Ext B Fz Fz' → rE K B Fz' H' σ m v w → Q v H') :
    RgOk i j ∧ (if T = true then ∀ l, H l = none → Q (.ref l) (upd H l (.tup (rgV i j))) else ∀ l, H l = none → Q (.ref l) (upd H l (.lst (rgV i j)))) := by
  obtain ⟨h1, rfl⟩ := rgW_ok e
  refine ⟨h1, ?_⟩
  cases T with
  | true => exact fun l hl => q _ _ F1 x (h.newTup hl (rp_rgV i j))
  | false => exact fun l hl => q _ _ F1 x (h.newLst hl (rp_rgV i j))
theorem de_tupRg1 {f : Ms → Rz PyData} (ha : DR X ct Wx a f) (hr : X.mg "range" = none) (ht : X.mg "tuple" = none) (hg : Gl X "range" := by rfl) (hgt : Gl X "tuple" := by rfl) (hc : X.calm = true := by rfl) (na : starEach [a] X.env = (false, eval a X.env) :: starEach [] X.env := by rfl)
    (nb : starEach [.Call (.Name "range" p2) [a] [] pos2] X.env = (false, eval (.Call (.Name "range" p2) [a] [] pos2) X.env) :: starEach [] X.env := by rfl) : DE X ct Wx (.Call (.Name "tuple" p) [.Call (.Name "range" p2) [a] [] pos2] [] pos) (eCall (rgC true) [f]) :=
  ⟨PE_imp (pe_tupRg hc hgt ht (prg_1 hg hr ha.pe na) nb) fun σ H Q ⟨B, Fz, m, h, q⟩ => by
    simp only [eCall, evalAllD] at q
    refine tR_then h ?_
    cases hx : f m with
    | st => rw [hx] at q; exact q
    | ex c => rw [hx] at q; exact q
    | ok x =>
      intro v H1 F1 x1 r1 l1 s1
      rw [hx] at q
      simp only [Rz.bind_ok] at q
      cases hw : rgC true [x] with
      | none => rw [hw] at q; exact q.elim
      | some w =>
        rw [hw] at q
        unfold rgC at hw
        split at hw
        · rename_i j e
          obtain rfl := (List.cons.inj e).1
          exact ⟨j, (s1.vw r1).int, rg_end x1 r1 hw q⟩
        · rename_i i j e; exact absurd (List.cons.inj e).2 (by simp)
        · cases hw⟩
theorem de_lstRg1 {f : Ms → Rz PyData} (ha : DR X ct Wx a f) (hr : X.mg "range" = none) (ht : X.mg "list" = none) (hg : Gl X "range" := by rfl) (hgt : Gl X "list" := by rfl) (hc : X.calm = true := by rfl) (na : starEach [a] X.env = (false, eval a X.env) :: starEach [] X.env := by rfl)
    (nb : starEach [.Call (.Name "range" p2) [a] [] pos2] X.env = (false, eval (.Call (.Name "range" p2) [a] [] pos2) X.env) :: starEach [] X.env := by rfl) : DE X ct Wx (.Call (.Name "list" p) [.Call (.Name "range" p2) [a] [] pos2] [] pos) (eCall (rgC false) [f]) :=
  ⟨PE_imp (pe_listRg hc hgt ht (prg_1 hg hr ha.pe na) nb) fun σ H Q ⟨B, Fz, m, h, q⟩ => by
    simp only [eCall, evalAllD] at q
    refine tR_then h ?_
    cases hx : f m with
    | st => rw [hx] at q; exact q
    | ex c => rw [hx] at q; exact q
    | ok x =>
      intro v H1 F1 x1 r1 l1 s1
      rw [hx] at q
      simp only [Rz.bind_ok] at q
      cases hw : rgC false [x] with
      | none => rw [hw] at q; exact q.elim
      | some w =>
        rw [hw] at q
        unfold rgC at hw
        split at hw
        · rename_i j e
          obtain rfl := (List.cons.inj e).1
          exact ⟨j, (s1.vw r1).int, rg_end x1 r1 hw q⟩
        · rename_i i j e; exact absurd (List.cons.inj e).2 (by simp)
        · cases hw⟩
theorem rg_two {K : PySem.W.Frag} {T : Bool} {fa fb : Ms → Rz PyData} {H : Hp} {σ : L2.St} {Q : VK} (w : tE K ct Wx (eCall (rgC T) [fa, fb]) σ H Q) :
    tR K ct Wx fa σ H fun x H1 => tR K ct Wx fb σ H1 fun y H2 => ∃ i j, x = .int i ∧ y = .int j ∧ (RgOk i j ∧ (if T = true then ∀ l, H2 l = none → Q (.ref l) (upd H2 l (.tup (rgV i j))) else ∀ l, H2 l = none → Q (.ref l) (upd H2 l (.lst (rgV i j))))) := by
  obtain ⟨B, Fz, m, h, q⟩ := w
  simp only [eCall, evalAllD] at q
  refine tR_then h ?_
  cases hx : fa m with
  | st => rw [hx] at q; exact q
  | ex c => rw [hx] at q; exact q
  | ok x =>
    intro v H1 F1 x1 r1 l1 s1
    rw [hx] at q
    simp only [Rz.bind_ok] at q
    refine tR_then r1 ?_
    cases hy : fb m with
    | st => rw [hy] at q; exact q
    | ex c => rw [hy] at q; exact fun H' F' x r => q H' F' (x1.trans x) r
    | ok y =>
      rw [hy] at q
      simp only [Rz.bind_ok] at q
      intro u H2 F2 x2 r2 l2 s2
      cases hw : rgC T [x, y] with
      | none => rw [hw] at q; exact q.elim
      | some w =>
        rw [hw] at q
        unfold rgC at hw
        split at hw
        · rename_i j e; exact absurd (List.cons.inj e).2 (by simp)
        · rename_i i j e
          cases e
          exact ⟨_, _, ((s1.le l2).vw r2).int, (s2.vw r2).int, rg_end (x1.trans x2) r2 hw q⟩
        · cases hw
theorem de_tupRg2 {f g : Ms → Rz PyData} (ha : DR X ct Wx a f) (hb : DR X ct Wx b g) (hr : X.mg "range" = none) (ht : X.mg "tuple" = none) (hg : Gl X "range" := by rfl) (hgt : Gl X "tuple" := by rfl) (hc : X.calm = true := by rfl) (na : starEach [a, b] X.env = (false, eval a X.env) :: starEach [b] X.env := by rfl) (nb : starEach [b] X.env = (false, eval b X.env) :: starEach [] X.env := by rfl) (hp : (backTo pos2 (starEach [b] X.env)).any (·.1) = false := by rfl)
    (nc : starEach [.Call (.Name "range" p2) [a, b] [] pos2] X.env = (false, eval (.Call (.Name "range" p2) [a, b] [] pos2) X.env) :: starEach [] X.env := by rfl) : DE X ct Wx (.Call (.Name "tuple" p) [.Call (.Name "range" p2) [a, b] [] pos2] [] pos) (eCall (rgC true) [f, g]) :=
  ⟨PE_imp (pe_tupRg hc hgt ht (prg_2 hg hr ha.pe hb.pe na nb hp) nc) fun σ H Q w => rg_two (T := true) w⟩
theorem de_lstRg2 {f g : Ms → Rz PyData} (ha : DR X ct Wx a f) (hb : DR X ct Wx b g) (hr : X.mg "range" = none) (ht : X.mg "list" = none) (hg : Gl X "range" := by rfl) (hgt : Gl X "list" := by rfl) (hc : X.calm = true := by rfl) (na : starEach [a, b] X.env = (false, eval a X.env) :: starEach [b] X.env := by rfl) (nb : starEach [b] X.env = (false, eval b X.env) :: starEach [] X.env := by rfl) (hp : (backTo pos2 (starEach [b] X.env)).any (·.1) = false := by rfl)
    (nc : starEach [.Call (.Name "range" p2) [a, b] [] pos2] X.env = (false, eval (.Call (.Name "range" p2) [a, b] [] pos2) X.env) :: starEach [] X.env := by rfl) : DE X ct Wx (.Call (.Name "list" p) [.Call (.Name "range" p2) [a, b] [] pos2] [] pos) (eCall (rgC false) [f, g]) :=
  ⟨PE_imp (pe_listRg hc hgt ht (prg_2 hg hr ha.pe hb.pe na nb hp) nc) fun σ H Q w => rg_two (T := false) w⟩
end
end Dl
set_option Elab.async false
set_option linter.all false
set_option maxRecDepth 100000
/-! D19: sorted of data; sets of ints, sorted. -/
namespace Dl
open PySem PySem.Spec PyProof.Rows L2
def SortOk (ds : List PyData) : Prop := PySem.W.AllAlike ds ∧ PySem.W.Sortable ds ∧ ds.length ≤ 10000000 ∧ PyData.depthAll ds ≤ 90
noncomputable def dsort (ds : List PyData) : List PyData := ds.mergeSort (PySem.W.dataLe false id)
open Classical in
noncomputable def sortD : PyData → Option W
  | .list ds => if SortOk ds then some (.l (dsort ds)) else none
  | _ => none
section
variable {X : Cx} {ct : CT} {Wx : WX} {e a b c : Expr} {p pos : Pos}
def rSortD (K : PySem.W.Frag) : List V → Hp → VK → Prop := fun vs H Q => ∃ (a : Addr) (us : List V) (Fz : Addr → Prop) (ds : List PyData), vs = [V.ref a] ∧ SqL K H a us ∧ RpAll K Fz H us ds ∧ SortOk ds ∧ ∀ (ys : List V) (p : Addr), RpAll K Fz H ys (dsort ds) → H p = none → Q (.ref p) (upd H p (.lst ys))
theorem each_of {K : PySem.W.Frag} {Fz : Addr → Prop} {H : Hp} : ∀ {us : List V} {ds : List PyData} {its : List Value}, RpAll K Fz H us ds → Vals us its → PySem.W.EachIs (fun v d => ∃ y, RelV y v ∧ Rp K Fz H y d) its ds
  | [], _, _, .nil, .nil => .nil
  | _ :: _, _, _, .cons r rs, .cons q qs => .cons ⟨_, q, r⟩ (each_of rs qs)
theorem of_each {K : PySem.W.Frag} {Fz : Addr → Prop} {H : Hp} : ∀ {its : List Value} {ds : List PyData}, PySem.W.EachIs (fun v d => ∃ y, RelV y v ∧ Rp K Fz H y d) its ds → ∃ us, RpAll K Fz H us ds ∧ Vals us its
  | _, _, .nil => ⟨[], .nil, .nil⟩
  | _, _, .cons ⟨y, q, r⟩ t => by
    obtain ⟨us, h1, h2⟩ := of_each t
    exact ⟨y :: us, .cons r h1, .cons q h2⟩
theorem depth_mem {d : PyData} : ∀ {ds : List PyData}, d ∈ ds → d.depth ≤ PyData.depthAll ds
  | [], h => by simp at h
  | x :: ds, h => by
    rw [PyData.depthAll]
    rcases List.mem_cons.mp h with rfl | h
    · exact Nat.le_max_left _ _
    · exact Nat.le_trans (depth_mem h) (Nat.le_max_right _ _)
theorem cr_sortD (hu : X.A.units + 105 < cLine) : CallR X (.builtin "sorted") (rSortD X.K) := by
  intro pins s σ H vs us Q I r h
  obtain ⟨a, ws, Fz, ds, rfl, hs, hr, ⟨o1, o2, o3, o4⟩, q⟩ := h
  obtain ⟨its, rv, hl, _⟩ := I.list hs
  rw [Vals.ref1 r]
  have e1 := each_of hr rv
  have e2 : PySem.W.EachIs (fun v d => ∃ as, Reads s.heap v (id d) as) its ds := e1.mono fun v d ⟨y, ry, rp⟩ => Dp.reads I d y v rp.dp ry
  refine PySem.W.sorted_data (enc := id) hl.isList e1 e2 (by rwa [List.map_id]) (by rwa [List.map_id]) (by rw [sizeLine_eq]; omega) (fun b hb => by have := depth_mem hb; show X.A.units + 2 + b.depth < cLine; omega) fun out hlen e3 => ?_
  obtain ⟨ys, y1, y2⟩ := of_each e3
  obtain ⟨ep, he'⟩ := PyProof.Rows.sortedAll_at s.heap its out.toArray
  have hyl : ys.length ≤ sizeLine := by rw [y2.length, hlen, sizeLine_eq]; omega
  exact ⟨.ref _, upd H (s.heap.objs.size + 1) (.lst ys), I.laid (t' := s.toks) (fun _ _ => PyProof.Rows.sortedAll_old) (Nat.le_succ _) ⟨hyl, out, ep, y2, by simpa using he'⟩, rfl, q ys _ y1 (I.hok.fresh (Nat.le_succ _))⟩
theorem ok_sortD {K : PySem.W.Frag} : CallOk K (rSortD K) (g1 sortD) := call1 fun {B Fz H σ m v x w Q} hr hv e q => by
  unfold sortD at e
  split at e
  · rename_i ds
    split at e
    · rename_i ho
      cases e
      obtain ⟨p, vs, rfl, s1, r1⟩ := hv.list
      exact ⟨p, vs, Fz, ds, rfl, .inl (.inl s1), r1, ho, fun ys l hy hl => q _ _ (hr.newLst hl hy)⟩
    · cases e
  · cases e
end
section
variable {P : Program} {w : World} {A : Around} {E : Value → Shared → Prop} {s : Shared}
set_option maxHeartbeats 3200000 in
/-- set of a list of ints -/
theorem set_listI {l : Addr} {items : Array Value} (ns : List Int) {Q : Value → Shared → Prop} (hh : A.handled = none) (hl : s.heap.IsList l items) (hit : IntsAre items.toList ns) (hb : ns.length + 1 < scanBound)
    (h : ∀ (h' : Heap) (tk c : Nat), SetR w h' s.heap.objs.size (fun j => decide (j ∈ ns)) c → c ≤ ns.length → (∀ b o, s.heap.get? b = some o → h'.get? b = some o) → Q (.ref s.heap.objs.size) { s with heap := h', toks := tk }) : wpAny (model P w) A (call (.type "set") [.ref l]) Q E s := by
  have isz : items.size = ns.length := by rw [← Array.length_toList]; exact IntsAre.length hit
  obtain ⟨c, tl, hmro⟩ := F.called_set.mro
  have made := F.called_set.made
  have sub := F.called_set.sub
  refine wpAny_call (codeAny_of_tree ?_)
  show wpAny _ _ (callAny (.type "set") _) _ _ _
  refine wpAny_pure ⟨Code.quiet_builtin _ (by decide +kernel), codeAny_builtin F.entry_type_call ?_⟩
  rw [Around.under_plain (weight_type_call_type "set" [.ref l] []) rfl]
  have nt := F.called_set.notType
  have cc := F.called_set.canCreate
  have tc := F.typeCall_set_1 (.ref l)
  repeat (any_goals (first | assumption | wp_step))
  refine codeAny_mono (code_set_led1 (.ref l) (E := E) (Q₁ := fun ob s1 => ob = .ref s.heap.objs.size ∧ s1 = { s with heap := s.heap.push (freshSet w) }) ⟨rfl, rfl⟩) fun r s1 hr => ?_
  match r, hr with
  | .error e, hr => exact hr
  | .ok (.ret ob), hr =>
    obtain ⟨rfl, rfl⟩ := hr
    have gS : (s.heap.push (freshSet w)).get? s.heap.objs.size = some (freshSet w) := Heap.get?_push_size _ rfl
    have ty : Shared.TypeIs { s with heap := s.heap.push (freshSet w) } (.ref s.heap.objs.size) "set" := ⟨_, gS, rfl⟩
    have il := F.called_set.init.lookup
    have ib := F.called_set.init.bind (.ref s.heap.objs.size)
    repeat (any_goals (first | assumption | wp_step))
    refine codeAny_mono (codeAny_call_builtin (R := wants (fun r s2 => r = .none ∧ ∃ h' tk c, s2 = { s with heap := h', toks := tk } ∧ SetR w h' s.heap.objs.size (fun j => decide (j ∈ ns)) c ∧ c ≤ ns.length ∧ (∀ b o, s.heap.get? b = some o → h'.get? b = some o)) E) F.called_set.init.plain F.entry_set_init (check_set_init_1 ty ?_)) fun r2 s2 hr2 => ?_
    · have ltS : l < s.heap.objs.size := by obtain ⟨_, z, _⟩ := id hl; exact Heap.lt_size z
      obtain ⟨⟨oc, od, odt, osl⟩, ho, hc, nl, hd⟩ := id hl
      simp only at hc hd
      subst hc; subst hd
      have ho' : (s.heap.push (freshSet w)).get? l = some { cls := .type "list", dict := od, data := .seq items nl, slots := osl } := Heap.get?_push_of_some _ ho
      have s1 := F.sub_list_set
      have s2 := F.sub_list_frozenset
      have nd : (Value.type "list" == Value.type "dict") = false := by decide
      have il1 : (s.heap.push (freshSet w)).IsList l items := ⟨_, ho', rfl, nl, rfl⟩
      unfold Builtin.«set.__init__» noKeywords Builtin.Frozenset.updateFrom
      generalize hPI : pyIter = PI
      wp_walk
      subst hPI
      refine wpAny_pyIter_list il1 (wpAny_bind (wpAny_runValue ?_))
      have ha : A.in1.in1.in1.handled = none := by simp [hh]
      have szS : (s.heap.push (freshSet w)).objs.size = s.heap.objs.size + 1 := Heap.size_push ..
      have ne1 : l ≠ (s.heap.push (freshSet w)).objs.size := by rw [szS]; exact Nat.ne_of_lt (Nat.lt_succ_of_lt ltS)
      have nin : s.heap.objs.size ∉ [(s.heap.push (freshSet w)).objs.size, l] := by
        rw [szS]
        intro z
        rcases List.mem_cons.mp z with z | z
        · exact absurd z (Nat.ne_of_lt (Nat.lt_succ_self _))
        · exact absurd (List.mem_singleton.mp z).symm (Nat.ne_of_lt ltS)
      have vals : ∀ (i : Nat) (v : Value), items[i]? = some v → ∃ k t, ns[i]? = some k ∧ v = .int k t := fun i v hv => by
        have hi : i < ns.length := by rw [← isz]; exact (Array.getElem?_eq_some_iff.mp hv).1
        obtain ⟨t, e⟩ := PyProof.Rows.IntsAre.int_at hit i v (by rw [Array.getElem?_toList]; exact hv)
        exact ⟨ns[i], t, List.getElem?_eq_getElem hi, by rw [e, List.getD_eq_getElem?_getD, List.getElem?_eq_getElem hi]; rfl⟩
      refine set_update_ints ((Walks.list ha (s.heap.push (freshSet w)).objs.size l ne1 items).toS) s.heap.objs.size nin ns isz hb vals (items.size - 0) 0 _ (by omega) (Nat.zero_le _)
        ⟨⟨_, Heap.get?_push_size _ rfl, rfl, rfl⟩, il1.push _⟩ ⟨0, Nat.le_refl 0, setR_new_at (Heap.get?_push_of_some _ gS)⟩ fun s' c' hm hc' hS' => ?_
      obtain ⟨h', g2, d', tk', os'⟩ := s'
      obtain rfl : g2 = s.gens := hm.gens
      obtain rfl : d' = s.drawn := hm.drawn
      obtain rfl : os' = s.os := hm.os
      show wpAny _ _ _ _ _ _
      refine wpAny_pure ?_
      show wpAny _ _ (ret Value.none) _ _ _
      rw [isz] at hc'
      refine wpAny_pure ⟨rfl, h', tk', c', rfl, hS', hc', fun b o e => ?_⟩
      have b0 : b < s.heap.objs.size := Heap.lt_size e
      have b1 : b ≠ s.heap.objs.size := Nat.ne_of_lt b0
      have b2 : b ≠ (s.heap.push (freshSet w)).objs.size := by rw [szS]; exact Nat.ne_of_lt (Nat.lt_succ_of_lt b0)
      exact hm.heap b o (by simp only [List.mem_cons, List.not_mem_nil, or_false, not_or]; exact ⟨b1, b2⟩) (Heap.get?_push_of_some _ (Heap.get?_push_of_some _ e))
    · match r2, hr2 with
      | .error e, hr2 => exact hr2
      | .ok (.ret r), hr2 =>
        obtain ⟨rfl, h', tk, c, rfl, hS', g', hk'⟩ := hr2
        repeat (any_goals (first | assumption | wp_step))
        exact h _ _ _ hS' g' hk'
end
end Dl
set_option Elab.async false
set_option linter.all false
set_option maxRecDepth 100000
/-! D20: sorted(set(..)) of ints or of tuples of ints. -/
namespace Dl
open PySem PySem.Spec PyProof.Rows L2
def insI (x : Int) : List Int → List Int
  | [] => [x]
  | y :: r => if x = y then y :: r else if x < y then x :: y :: r else y :: insI x r
def isort (ns : List Int) : List Int := ns.foldr insI []
theorem insI_mem {x z : Int} : ∀ {r : List Int}, z ∈ insI x r ↔ z = x ∨ z ∈ r
  | [] => by simp [insI]
  | y :: r => by
    unfold insI
    split
    · rename_i h; subst h; simp
    · split
      · simp
      · rw [List.mem_cons, insI_mem, List.mem_cons]
        constructor
        · rintro (h | h | h)
          · exact .inr (.inl h)
          · exact .inl h
          · exact .inr (.inr h)
        · rintro (h | h | h)
          · exact .inr (.inl h)
          · exact .inl h
          · exact .inr (.inr h)
theorem isort_mem {z : Int} : ∀ {ns : List Int}, z ∈ isort ns ↔ z ∈ ns
  | [] => by simp [isort]
  | n :: ns => by
    show z ∈ insI n (isort ns) ↔ _
    rw [insI_mem, isort_mem, List.mem_cons]
theorem insI_pw {x : Int} : ∀ {r : List Int}, r.Pairwise (· < ·) → (insI x r).Pairwise (· < ·)
  | [], _ => by simp [insI]
  | y :: r, h => by
    rw [List.pairwise_cons] at h
    unfold insI
    split
    · exact List.pairwise_cons.mpr h
    · split
      · rename_i h1 h2
        refine List.pairwise_cons.mpr ⟨fun z hz => ?_, List.pairwise_cons.mpr h⟩
        rcases List.mem_cons.mp hz with rfl | hz
        · exact h2
        · have := h.1 z hz; omega
      · rename_i h1 h2
        refine List.pairwise_cons.mpr ⟨fun z hz => ?_, insI_pw h.2⟩
        rcases insI_mem.mp hz with rfl | hz
        · omega
        · exact h.1 z hz
theorem isort_pw : ∀ {ns : List Int}, (isort ns).Pairwise (· < ·)
  | [] => .nil
  | n :: ns => insI_pw isort_pw
theorem isort_eq {ns ms : List Int} (h : ms.Pairwise (· < ·)) (hm : ∀ k, k ∈ ms ↔ k ∈ ns) : ms = isort ns :=
  strict_uniq (f := fun (x : Int) => x) h isort_pw fun z => by rw [hm, isort_mem]
section
variable {X : Cx} {ct : CT} {Wx : WX} {e a b : Expr} {p p2 pos pos2 : Pos}
def rSetI (K : PySem.W.Frag) (w : World) : List V → Hp → VK → Prop := fun xs H Q => ∃ (l : Addr) (ns : List Int), xs = [V.ref l] ∧ (SqL K H l (ns.map V.int) ∨ SqT K H l (ns.map V.int)) ∧ ns.length < 64 ∧
  ∀ a c, H a = none → c ≤ ns.length → Q (.ref a) (upd H a (SetO w a (fun j => decide (j ∈ ns)) c))
theorem cr_setI (hc : X.calm = true) : CallR X (.type "set") (rSetI X.K X.w) := by
  intro pins s σ H xs us Q I r ⟨l, ns, ex, hl, h64, q⟩
  subst ex
  rw [Vals.ref1 r]
  have hb : ns.length + 1 < scanBound := by
    have : (65 : Nat) < scanBound := by decide +kernel
    omega
  rcases hl with hl | hl
  · obtain ⟨its, rv, pl, hz⟩ := I.list hl
    refine set_listI (P := X.prog) (w := X.w) ns (I.ok.hd hc) pl.isList rv.ints hb fun h' tk c R hc' k => ?_
    exact ⟨.ref s.heap.objs.size, upd H s.heap.objs.size (SetO X.w s.heap.objs.size _ c), I.laid (t' := tk) k (Nat.le_refl _) (setO_new R), rfl, q _ c (I.hok.fresh (Nat.le_refl _)) hc'⟩
  · obtain ⟨its, rv, pl, hz⟩ := I.tuple hl
    refine call_set_tupI (P := X.prog) (w := X.w) ns (I.ok.hd hc) (show s.heap.IsTuple l its.toArray from pl) rv.ints hb fun h' tk c R hc' k => ?_
    exact ⟨.ref s.heap.objs.size, upd H s.heap.objs.size (SetO X.w s.heap.objs.size _ c), I.laid (t' := tk) k (Nat.le_refl _) (setO_new R), rfl, q _ c (I.hok.fresh (Nat.le_refl _)) hc'⟩
def ssetI (x : PyData) : Option W := (itemsD x).bind fun xs => (intsOf xs).bind fun ns => if ns.length < 64 then some (.l ((isort ns).map .int)) else none
def eSsetI (f : Ms → Rz PyData) : Ms → Rz W := fun m => (f m).bind fun x => ofO (ssetI x)
theorem de_ssetI {f : Ms → Rz PyData} (ha : DR X ct Wx e f) (hms : X.mg "sorted" = none) (hmt : X.mg "set" = none) (hc : X.calm = true := by rfl) (hgs : Gl X "sorted" := by rfl) (hgt : Gl X "set" := by rfl)
    (h1 : starEach [e] X.env = (false, eval e X.env) :: starEach [] X.env := by rfl)
    (h2 : starEach [.Call (.Name "set" p2) [e] [] pos2] X.env = (false, eval (.Call (.Name "set" p2) [e] [] pos2) X.env) :: starEach [] X.env := by rfl) :
    DE X ct Wx (.Call (.Name "sorted" p) [.Call (.Name "set" p2) [e] [] pos2] [] pos) (eSsetI f) :=
  ⟨PE_imp (pe_callB (cr_sortedSet hc) hgs hms (by decide +kernel) (pa_cons (pe_callTy (cr_setI hc) hgt hmt (by decide +kernel) (pa_cons ha.pe pa_nil h1) (by decide) (by decide) h1 (by rfl)) pa_nil h2) (by decide) (by decide) h2 (by rfl)) fun σ H Q ⟨B, Fz, m, h, q⟩ => by
    unfold eSsetI at q
    refine tR_then h ?_
    cases hf : f m with
    | st => rw [hf] at q; exact q
    | ex c => rw [hf] at q; exact q
    | ok x =>
      intro v H1 F1 x1 r1 l1 s1
      rw [hf, Rz.bind_ok] at q
      have vw := s1.vw r1
      cases hw : ssetI x with
      | none => rw [hw] at q; exact q.elim
      | some wv =>
        rw [hw] at q
        have q : ∀ v H' Fz', Ext B Fz Fz' → rE X.K B Fz' H' σ m v wv → Q v H' := q
        unfold ssetI at hw
        obtain ⟨xs, hi, hw⟩ := Option.bind_eq_some_iff.mp hw
        obtain ⟨ns, hn, hw⟩ := Option.bind_eq_some_iff.mp hw
        split at hw
        · rename_i h64
          cases hw
          have ex := intsOf_eq hn
          subst ex
          obtain ⟨l, us, rfl, hl, hr⟩ := vw_items vw hi
          rw [RpAll.ints hr] at hl
          refine ⟨l, ns, rfl, hl, h64, fun a c ha hc' => ⟨a, _, c, rfl, upd_same, by omega, fun ms p h1 h2 h3 h4 => ?_⟩⟩
          have r2 := r1.new (o := SetO X.w a (fun j => decide (j ∈ ns)) c) ha
          have e := isort_eq (ns := ns) h1 fun k => by rw [h2]; simp
          subst e
          exact q _ _ F1 x1 (r2.newLst h4 (RpAll.of_ints _))
        · cases hw⟩
/-- of ints, or of tuples of ints -/
def ssetG (x : PyData) : Option W := match ssetI x with
  | some w => some w
  | none => ssetD x
def eSsetG (f : Ms → Rz PyData) : Ms → Rz W := fun m => (f m).bind fun x => ofO (ssetG x)
theorem de_ssetG {f : Ms → Rz PyData} (hu : X.A.units + 64 < cLine) (ha : DR X ct Wx e f) (hms : X.mg "sorted" = none) (hmt : X.mg "set" = none) (hc : X.calm = true := by rfl) (hgs : Gl X "sorted" := by rfl) (hgt : Gl X "set" := by rfl)
    (h1 : starEach [e] X.env = (false, eval e X.env) :: starEach [] X.env := by rfl)
    (h2 : starEach [.Call (.Name "set" p2) [e] [] pos2] X.env = (false, eval (.Call (.Name "set" p2) [e] [] pos2) X.env) :: starEach [] X.env := by rfl) :
    DE X ct Wx (.Call (.Name "sorted" p) [.Call (.Name "set" p2) [e] [] pos2] [] pos) (eSsetG f) := by
  have A := de_ssetI (p := p) (p2 := p2) (pos := pos) (pos2 := pos2) ha hms hmt hc hgs hgt h1 h2
  have C := de_sset (p := p) (p2 := p2) (pos := pos) (pos2 := pos2) hu ha hms hmt hc hgs hgt h1 h2
  refine ⟨⟨fun pins s σ H Q I w => ?_⟩⟩
  obtain ⟨B, Fz, m, h, q⟩ := w
  unfold eSsetG at q
  cases hf : f m with
  | st => rw [hf] at q; exact q.elim
  | ex c => exact A.pe.run pins s σ H Q I ⟨B, Fz, m, h, by unfold eSsetI; rw [hf] at q ⊢; exact q⟩
  | ok x =>
    rw [hf, Rz.bind_ok] at q
    cases hi : ssetI x with
    | some w => exact A.pe.run pins s σ H Q I ⟨B, Fz, m, h, by unfold eSsetI; rw [hf, Rz.bind_ok, hi]; rw [ssetG, hi] at q; exact q⟩
    | none => exact C.pe.run pins s σ H Q I ⟨B, Fz, m, h, by unfold eSset; rw [hf, Rz.bind_ok]; rw [ssetG, hi] at q; exact q⟩
end
end Dl
set_option Elab.async false
set_option linter.all false
set_option maxRecDepth 100000
/-! D21: dicts. -/
namespace Dl
open PySem PySem.Spec PyProof.Rows L2
/-! ### keys -/
def keyOfD : PyData → Option Key
  | .int i => some (.inl i)
  | .str s => some (.inr s)
  | _ => none
def keysOf : List PyData → Option (List Key)
  | [] => some []
  | x :: r => (keyOfD x).bind fun k => (keysOf r).map (k :: ·)
def keysOfD : PyData → Option (List Key)
  | .tuple (.int i :: r) => (keysOf r).map (.inl i :: ·)
  | _ => none
theorem keyOfD_eq {x : PyData} {k : Key} (h : keyOfD x = some k) : x = keyD k := by
  cases x with
  | int i => cases h; rfl
  | str s => cases h; rfl
  | _ => cases h
theorem keyOfD_keyD {k : Key} : keyOfD (keyD k) = some k := by cases k <;> rfl
theorem keysOf_eq : ∀ {r : List PyData} {k : List Key}, keysOf r = some k → r = k.map keyD
  | [], k, h => by cases h; rfl
  | x :: r, k, h => by
    unfold keysOf at h
    obtain ⟨a, h1, h2⟩ := Option.bind_eq_some_iff.mp h
    obtain ⟨l, h3, rfl⟩ := Option.map_eq_some_iff.mp h2
    rw [keyOfD_eq h1, keysOf_eq h3]; rfl
theorem keysOf_map : ∀ {k : List Key}, keysOf (k.map keyD) = some k
  | [] => rfl
  | a :: k => by rw [List.map_cons, keysOf, keyOfD_keyD, Option.bind_some, keysOf_map]; rfl
theorem keysOfD_eq {x : PyData} {k : List Key} (h : keysOfD x = some k) : x = keysD k ∧ ∃ i r, k = .inl i :: r := by
  unfold keysOfD at h
  split at h
  · rename_i i r
    obtain ⟨l, h3, rfl⟩ := Option.map_eq_some_iff.mp h
    rw [keysOf_eq h3]
    exact ⟨rfl, i, l, rfl⟩
  · cases h
theorem keysOfD_keysD {i : Int} {r : List Key} : keysOfD (keysD (.inl i :: r)) = some (.inl i :: r) := by
  show keysOfD (.tuple (.int i :: r.map keyD)) = _
  rw [keysOfD, keysOf_map]; rfl
theorem keysD_some {k : List Key} {κ : List Key} (h : keysOfD (keysD k) = some κ) : k = κ := by
  have e := (keysOfD_eq h).1
  have : k.map keyD = κ.map keyD := by
    have := congrArg (fun x => match x with | PyData.tuple l => l | _ => []) e
    exact this
  have h2 := congrArg keysOf this
  rw [keysOf_map, keysOf_map] at h2
  exact Option.some.inj h2
/-! ### what a dict holds at a key -/
section
variable {κ : Type} [DecidableEq κ]
def dfind (kO : PyData → Option κ) (kvs : List (PyData × PyData)) (k : κ) : Option PyData := (kvs.find? fun p => decide (kO p.1 = some k)).map (·.2)
def dset (kO : PyData → Option κ) (kvs : List (PyData × PyData)) (k : κ) (kx x : PyData) : List (PyData × PyData) :=
  if (kvs.any fun p => decide (kO p.1 = some k)) = true then kvs.map (fun p => if kO p.1 = some k then (p.1, x) else p) else kvs ++ [(kx, x)]
variable {K : PySem.W.Frag} {Fz : Addr → Prop} {H : Hp} {kO : PyData → Option κ} {kd : κ → PyData} {k : κ}
theorem DEnt.cases {ks : List (κ × V)} {kvs : List (PyData × PyData)} (h : DEnt K Fz H kd ks kvs) : (ks = [] ∧ kvs = []) ∨ ∃ k v ks' x kvs', ks = (k, v) :: ks' ∧ kvs = (kd k, x) :: kvs' ∧ Rp K Fz H v x ∧ DEnt K Fz H kd ks' kvs' := by
  obtain ⟨h1, h2⟩ := h
  cases ks with
  | nil =>
    cases kvs with
    | nil => exact .inl ⟨rfl, rfl⟩
    | cons _ _ => simp at h1
  | cons p ks =>
    cases kvs with
    | nil => simp at h1
    | cons q kvs =>
      simp only [List.map_cons, List.cons.injEq] at h1 h2
      cases h2 with
      | cons r rs =>
        refine .inr ⟨p.1, p.2, ks, q.2, kvs, rfl, ?_, r, ⟨h1.2, rs⟩⟩
        rw [← h1.1]
theorem DEnt.nil : DEnt K Fz H kd [] [] := ⟨rfl, .nil⟩
theorem DEnt.cons {ks : List (κ × V)} {kvs : List (PyData × PyData)} {v : V} {x : PyData} (r : Rp K Fz H v x) (h : DEnt K Fz H kd ks kvs) : DEnt K Fz H kd ((k, v) :: ks) ((kd k, x) :: kvs) := ⟨by simp [h.keys], .cons r h.vals⟩
theorem DEnt.length {ks : List (κ × V)} {kvs : List (PyData × PyData)} (h : DEnt K Fz H kd ks kvs) : ks.length = kvs.length := by
  have := congrArg List.length h.keys
  simpa using this.symm
/-- found, or not -/
def FoundO (K : PySem.W.Frag) (Fz : Addr → Prop) (H : Hp) : Option V → Option PyData → Prop
  | some v, some x => Rp K Fz H v x
  | none, none => True
  | _, _ => False
theorem DEnt.find (hk : ∀ j, kO (kd j) = some k ↔ j = k) : ∀ {ks : List (κ × V)} {kvs : List (PyData × PyData)}, DEnt K Fz H kd ks kvs → FoundO K Fz H (valV ks k) (dfind kO kvs k) := by
  intro ks
  induction ks with
  | nil =>
    intro kvs h
    rcases h.cases with ⟨_, rfl⟩ | ⟨_, _, _, _, _, e, _⟩
    · exact trivial
    · cases e
  | cons p ks ih =>
    intro kvs h
    rcases h.cases with ⟨e, _⟩ | ⟨j, v, ks', x, kvs', e, rfl, r, h'⟩
    · cases e
    · cases e
      by_cases hj : j = k
      · subst hj
        rw [valV_pos (p := (j, v)) rfl, dfind, List.find?_cons_of_pos (by simp [(hk j).mpr rfl])]
        exact r
      · rw [valV_neg (p := (j, v)) hj, dfind, List.find?_cons_of_neg (by simpa using fun z => hj ((hk j).mp z))]
        exact ih h'
theorem dset_cons {p : PyData × PyData} {kvs : List (PyData × PyData)} {kx x : PyData} : dset kO (p :: kvs) k kx x = if kO p.1 = some k then (p.1, x) :: kvs.map (fun p => if kO p.1 = some k then (p.1, x) else p) else p :: dset kO kvs k kx x := by
  unfold dset
  by_cases h : kO p.1 = some k
  · simp [h]
  · simp only [List.any_cons, h, decide_false, Bool.false_or, List.map_cons, if_false]
    split <;> simp
theorem putK_cons {p : κ × V} {ks : List (κ × V)} {v : V} : putK (p :: ks) k v = if p.1 = k then (p.1, v) :: ks.map (fun p => if p.1 = k then (p.1, v) else p) else p :: putK ks k v := by
  unfold putK
  by_cases h : p.1 = k
  · simp [h]
  · simp only [List.any_cons, h, decide_false, Bool.false_or, List.map_cons, if_false]
    split <;> simp
theorem DEnt.repl (hk : ∀ j, kO (kd j) = some k ↔ j = k) {v : V} {x : PyData} (r : Rp K Fz H v x) : ∀ {ks : List (κ × V)} {kvs : List (PyData × PyData)}, DEnt K Fz H kd ks kvs → DEnt K Fz H kd (ks.map (fun p => if p.1 = k then (p.1, v) else p)) (kvs.map (fun p => if kO p.1 = some k then (p.1, x) else p)) := by
  intro ks
  induction ks with
  | nil =>
    intro kvs h
    rcases h.cases with ⟨_, rfl⟩ | ⟨_, _, _, _, _, e, _⟩
    · exact .nil
    · cases e
  | cons p ks ih =>
    intro kvs h
    rcases h.cases with ⟨e, _⟩ | ⟨j, w, ks', y, kvs', e, rfl, r', h'⟩
    · cases e
    · cases e
      rw [List.map_cons, List.map_cons]
      by_cases hj : j = k
      · subst hj
        rw [if_pos rfl, if_pos ((hk j).mpr rfl)]
        exact .cons r (ih h')
      · rw [if_neg hj, if_neg (fun z => hj ((hk j).mp z))]
        exact .cons r' (ih h')
theorem DEnt.put (hk : ∀ j, kO (kd j) = some k ↔ j = k) {v : V} {x : PyData} (r : Rp K Fz H v x) : ∀ {ks : List (κ × V)} {kvs : List (PyData × PyData)}, DEnt K Fz H kd ks kvs → DEnt K Fz H kd (putK ks k v) (dset kO kvs k (kd k) x) := by
  intro ks
  induction ks with
  | nil =>
    intro kvs h
    rcases h.cases with ⟨_, rfl⟩ | ⟨_, _, _, _, _, e, _⟩
    · exact .cons r .nil
    · cases e
  | cons p ks ih =>
    intro kvs h
    rcases h.cases with ⟨e, _⟩ | ⟨j, w, ks', y, kvs', e, rfl, r', h'⟩
    · cases e
    · cases e
      rw [putK_cons, dset_cons]
      by_cases hj : j = k
      · subst hj
        rw [if_pos rfl, if_pos ((hk j).mpr rfl)]
        exact .cons r (h'.repl hk r)
      · rw [if_neg hj, if_neg (fun z => hj ((hk j).mp z))]
        exact .cons r' (ih h')
end
/-- at a key of the dict's kind; none: nothing is said -/
def dgetD (T : Bool) (kvs : List (PyData × PyData)) (k : PyData) : Option (Option PyData) := if T = true then (keysOfD k).map (dfind keysOfD kvs) else (keyOfD k).map (dfind keyOfD kvs)
def dputD (T : Bool) (kvs : List (PyData × PyData)) (k x : PyData) : Option (List (PyData × PyData)) := if T = true then (keysOfD k).map fun κ => dset keysOfD kvs κ k x else (keyOfD k).map fun κ => dset keyOfD kvs κ k x
section
variable {K : PySem.W.Frag} {B : Hp} {Fz : Addr → Prop} {H : Hp} {σ : L2.St} {m : Ms}
theorem hkK {k : Key} : ∀ j, keyOfD (keyD j) = some k ↔ j = k := fun j => by rw [keyOfD_keyD]; exact ⟨Option.some.inj, congrArg some⟩
theorem hkT {i : Int} {r : List Key} : ∀ j, keysOfD (keysD j) = some (.inl i :: r) ↔ j = .inl i :: r := fun j => ⟨keysD_some, fun e => by rw [e]; exact keysOfD_keysD⟩
/-- a dict that may be read -/
def DictV (K : PySem.W.Frag) (Fz : Addr → Prop) (H : Hp) (a : Addr) (T : Bool) (kvs : List (PyData × PyData)) : Prop :=
  (T = false ∧ ∃ ks : List (Key × V), Rd H a (.dK ks) ∧ DEnt K Fz H keyD ks kvs) ∨ (T = true ∧ ∃ ks : List (List Key × V), Rd H a (.dT ks) ∧ DEnt K Fz H keysD ks kvs)
theorem rp_key {v : V} : ∀ {k : Key}, Rp K Fz H v (keyD k) → v = kV k
  | .inl i, r => by cases r; rfl
  | .inr s, r => by cases r; rfl
theorem rp_keysL : ∀ {k : List Key} {us : List V}, RpAll K Fz H us (k.map keyD) → us = k.map kV
  | [], us, r => by cases r; rfl
  | a :: k, us, r => by
    cases r with
    | cons r rs => rw [rp_key r, rp_keysL rs]; rfl
theorem rp_keys {v : V} {i : Int} {r : List Key} (h : Rp K Fz H v (keysD (.inl i :: r))) : ∃ b, v = .ref b ∧ H b = some (.tup ((Sum.inl i :: r : List Key).map kV)) := by
  cases h with
  | tup e ra => exact ⟨_, rfl, by rw [e, rp_keysL ra]⟩
  | tupK _ hs _ => simp [hdStr, keyD] at hs
theorem DictV.get {a : Addr} {T : Bool} {kvs : List (PyData × PyData)} (h : DictV K Fz H a T kvs) {v : V} {k : PyData} {o : Option PyData} (r : Rp K Fz H v k) (e : dgetD T kvs k = some o) : ∃ ov, DGet H a v ov ∧ FoundO K Fz H ov o := by
  rcases h with ⟨rfl, ks, hd, en⟩ | ⟨rfl, ks, hd, en⟩
  · obtain ⟨κ, h1, rfl⟩ := Option.map_eq_some_iff.mp (show (keyOfD k).map (dfind keyOfD kvs) = some o from e)
    have := keyOfD_eq h1
    subst this
    exact ⟨_, .inl ⟨ks, κ, hd, rp_key r, rfl⟩, en.find hkK⟩
  · obtain ⟨κ, h1, rfl⟩ := Option.map_eq_some_iff.mp (show (keysOfD k).map (dfind keysOfD kvs) = some o from e)
    obtain ⟨rfl, i, r', rfl⟩ := keysOfD_eq h1
    obtain ⟨b, rfl, eb⟩ := rp_keys r
    exact ⟨_, .inr ⟨ks, _, b, hd, rfl, eb, rfl⟩, en.find hkT⟩
theorem DictV.isD {a : Addr} {T : Bool} {kvs : List (PyData × PyData)} (h : DictV K Fz H a T kvs) : IsD H a := by
  rcases h with ⟨_, ks, hd, _⟩ | ⟨_, ks, hd, _⟩
  · exact .inl ⟨ks, hd⟩
  · exact .inr ⟨ks, hd⟩
def isTupD : PyData → Bool
  | .tuple _ => true
  | _ => false
/-- the dict in a slot -/
def dAt (i : Nat) (m : Ms) : Option (Bool × List (PyData × PyData)) := match m[i]? with
  | some (some (.m T kvs)) => some (T, kvs)
  | some (some (.q (.dict ((k, x) :: r)))) => some (isTupD k, (k, x) :: r)
  | _ => none
theorem Rs.getD {i : Nat} {T : Bool} {kvs : List (PyData × PyData)} (h : Rs K B Fz H σ m) (e : dAt i m = some (T, kvs)) : ∃ a, σ[i]? = some (some (.ref a)) ∧ DictV K Fz H a T kvs := by
  obtain ⟨fp, r⟩ := h
  unfold dAt at e
  split at e
  · rename_i T' kvs' e'
    cases e
    obtain ⟨v, f, h1, h2, h3⟩ := r.rl.get e'
    cases h2 with
    | mK e en => exact ⟨_, h1, .inl ⟨rfl, _, .inl e, en⟩⟩
    | mT e en => exact ⟨_, h1, .inr ⟨rfl, _, .inl e, en⟩⟩
  · rename_i k x r' e'
    cases e
    obtain ⟨v, f, h1, h2, h3⟩ := r.rl.get e'
    cases h2 with
    | q rq =>
      cases rq with
      | pl rp => cases rp
      | dK e en =>
        rcases en.cases with ⟨_, z⟩ | ⟨j, _, _, _, _, _, z, _⟩
        · cases z
        · cases z
          exact ⟨_, h1, .inl ⟨by cases j <;> rfl, _, .inr ⟨_, e⟩, en⟩⟩
      | dT e en =>
        rcases en.cases with ⟨_, z⟩ | ⟨j, _, _, _, _, _, z, _⟩
        · cases z
        · cases z
          exact ⟨_, h1, .inr ⟨rfl, _, .inr ⟨_, e⟩, en⟩⟩
  · cases e
/-! ### an own dict is written -/
theorem le_ownG {a : Addr} {o o' : HO} (ha : H a = some o) (nt : ¬ isT o) (nf : ¬ Fz a) : Le Fz H Fz (upd H a o') := ⟨fun _ h => h, fun b u q k => by
  have : b ≠ a := fun e => by
    subst e
    rw [ha] at q; cases q
    exact k.elim nf nt
  rw [upd_ne this]; exact q⟩
theorem RL.writeM : ∀ {σ : L2.St} {m : Ms} {fp : List Addr} (i : Nat) {T : Bool} {kvs : List (PyData × PyData)}, RL K Fz H σ m fp → fp.Nodup → (∀ a ∈ fp, ¬ Fz a) → m[i]? = some (some (.m T kvs)) → ∃ a o, σ[i]? = some (some (.ref a)) ∧ H a = some o ∧ ¬ isT o ∧ a ∈ fp ∧
    ∀ (o' : HO) (w : W), RW K Fz (upd H a o') (.ref a) w [a] → RL K Fz (upd H a o') σ (m.set i (some w)) fp
  | _, _, _, _, _, _, .nil, _, _, e => by simp at e
  | _, _, _, 0, _, _, .no _, _, _, e => by simp at e
  | _, _, _, i + 1, _, _, .no r, nd, nf, e => by
    obtain ⟨a, o, h1, h2, h3, h4, h5⟩ := RL.writeM i r nd nf (by simpa using e)
    exact ⟨a, o, by simpa using h1, h2, h3, h4, fun o' w r => .no (h5 o' w r)⟩
  | _, _, _, 0, _, _, .so (fp := fp) q r, nd, nf, e => by
    have e' := Option.some.inj (Option.some.inj e)
    subst e'
    have fin : ∀ (p : Addr) (o : HO), H p = some o → ¬ isT o → ([p] ++ fp).Nodup → ¬ Fz p → ∀ (o' : HO) (w : W), RW K Fz (upd H p o') (.ref p) w [p] → RL K Fz (upd H p o') (some (.ref p) :: _) (some w :: _) ([p] ++ fp) := fun p o e nt nd nf o' w rw' => by
      rw [List.singleton_append, List.nodup_cons] at nd
      exact .so rw' (r.mono (le_ownG e nt nf) fun b hb u q => by rw [upd_ne (fun z => nd.1 (by rw [← z]; exact hb))]; exact q)
    cases q with
    | mK eh en => exact ⟨_, _, rfl, eh, id, by simp, fin _ _ eh id nd (nf _ (by simp))⟩
    | mT eh en => exact ⟨_, _, rfl, eh, id, by simp, fin _ _ eh id nd (nf _ (by simp))⟩
  | _, _, _, i + 1, _, _, .so (f := f) q r, nd, nf, e => by
    rw [List.nodup_append] at nd
    obtain ⟨a, o, h1, h2, h3, h4, h5⟩ := RL.writeM i r nd.2.1 (fun a ha => nf a (List.mem_append_right _ ha)) (by simpa using e)
    have l := fun o' => le_ownG (o' := o') h2 h3 (nf a (List.mem_append_right _ h4))
    exact ⟨a, o, by simpa using h1, h2, h3, List.mem_append_right _ h4, fun o' w rw' => .so (q.mono (l o') fun b hb u q => by rw [upd_ne (fun z => nd.2.2 b hb a h4 z)]; exact q) (h5 o' w rw')⟩
theorem Rs.writeM (i : Nat) {T : Bool} {kvs : List (PyData × PyData)} (h : Rs K B Fz H σ m) (e : m[i]? = some (some (.m T kvs))) : ∃ a o, σ[i]? = some (some (.ref a)) ∧ H a = some o ∧ ¬ isT o ∧ ¬ Fz a ∧ B a = none ∧
    ∀ (o' : HO) (w : W), RW K Fz (upd H a o') (.ref a) w [a] → Rs K B Fz (upd H a o') σ (m.set i (some w)) := by
  obtain ⟨fp, r⟩ := h
  obtain ⟨a, o, h1, h2, h3, h4, h5⟩ := r.rl.writeM i r.nd (fun a ha => (r.own a ha).2) e
  refine ⟨a, o, h1, h2, h3, (r.own a h4).2, (r.own a h4).1, fun o' w rw' => ⟨fp, h5 o' w rw', r.nd, r.own, fun b u q => ?_, fun b hb => ?_⟩⟩
  · have : b ≠ a := fun z => by
      subst z
      rw [(r.own b h4).1] at q; cases q
    rw [upd_ne this]; exact r.base b u q
  · by_cases z : b = a
    · subst z; rw [upd_same]; simp
    · rw [upd_ne z]; exact r.fz b hb
theorem Rs.getM {i : Nat} {T : Bool} {kvs : List (PyData × PyData)} (h : Rs K B Fz H σ m) (e : m[i]? = some (some (.m T kvs))) : ∃ a, σ[i]? = some (some (.ref a)) ∧ ¬ Fz a ∧
    ((T = false ∧ ∃ ks : List (Key × V), H a = some (.dK ks) ∧ DEnt K Fz H keyD ks kvs) ∨ (T = true ∧ ∃ ks : List (List Key × V), H a = some (.dT ks) ∧ DEnt K Fz H keysD ks kvs)) := by
  obtain ⟨fp, r⟩ := h
  obtain ⟨v, f, h1, h2, h3⟩ := r.rl.get e
  cases h2 with
  | mK eh en => exact ⟨_, h1, (r.own _ (h3 _ (by simp))).2, .inl ⟨rfl, _, eh, en⟩⟩
  | mT eh en => exact ⟨_, h1, (r.own _ (h3 _ (by simp))).2, .inr ⟨rfl, _, eh, en⟩⟩
theorem RpAll.len {us : List V} {ds : List PyData} (h : RpAll K Fz H us ds) : us.length = ds.length := h.length
/-- name[k] = x -/
theorem Rs.putM (i : Nat) {T : Bool} {kvs kvs' : List (PyData × PyData)} {k x : PyData} {v u : V} (h : Rs K B Fz H σ m) (e : m[i]? = some (some (.m T kvs))) (hp : dputD T kvs k x = some kvs') (hl : kvs.length < 10000000) (rk : Rp K Fz H v k) (rx : Rp K Fz H u x) :
    ∃ a H', σ[i]? = some (some (.ref a)) ∧ DPut H a v u H' ∧ Rs K B Fz H' σ (m.set i (some (.m T kvs'))) := by
  obtain ⟨a, o, g1, g2, g3, g4, g5, g6⟩ := h.writeM i e
  obtain ⟨a', h1, _, hh⟩ := h.getM e
  rw [g1] at h1; cases h1
  have ls : kvs.length < sizeLine := by rw [sizeLine_eq]; omega
  rcases hh with ⟨rfl, ks, hd, en⟩ | ⟨rfl, ks, hd, en⟩
  · obtain ⟨κ, h1, rfl⟩ := Option.map_eq_some_iff.mp (show (keyOfD k).map (fun κ => dset keyOfD kvs κ k x) = some kvs' from hp)
    have := keyOfD_eq h1
    subst this
    rw [g2] at hd; cases hd
    have l := le_ownG (o' := .dK (putK ks κ u)) g2 g3 g4
    exact ⟨a, _, g1, .inl ⟨ks, κ, g2, rp_key rk, by rw [en.length]; exact ls, rfl⟩, g6 _ _ (.mK upd_same ((en.put hkK rx).mono l))⟩
  · obtain ⟨κ, h1, rfl⟩ := Option.map_eq_some_iff.mp (show (keysOfD k).map (fun κ => dset keysOfD kvs κ k x) = some kvs' from hp)
    obtain ⟨rfl, j, r', rfl⟩ := keysOfD_eq h1
    rw [g2] at hd; cases hd
    obtain ⟨b, rfl, eb⟩ := rp_keys rk
    have l := le_ownG (o' := .dT (putK ks (Sum.inl j :: r' : List Key) u)) g2 g3 g4
    exact ⟨a, _, g1, .inr ⟨ks, _, b, g2, rfl, eb, by rw [en.length]; exact ls, rfl⟩, g6 _ _ (.mT upd_same ((en.put hkT rx).mono l))⟩
end
end Dl
set_option Elab.async false
set_option linter.all false
set_option maxRecDepth 100000
/-! D22: rules for dicts; data with dicts in it. -/
namespace Dl
open PySem PySem.Spec PyProof.Rows L2
section
variable {K : PySem.W.Frag} {B : Hp} {Fz : Addr → Prop} {H : Hp} {σ : L2.St} {m : Ms}
/-- something new of one's own -/
theorem Rs.newOwn {p : Addr} {o : HO} {w : W} (h : Rs K B Fz H σ m) (hp : H p = none) (r : RW K Fz (upd H p o) (.ref p) w [p]) : Rs K B Fz (upd H p o) (some (.ref p) :: σ) (some w :: m) := by
  obtain ⟨fp, s⟩ := id h
  have nf : ¬ Fz p := fun z => h.fzn p z hp
  have nb : B p = none := by
    cases q : B p with
    | none => rfl
    | some o =>
      have := h.base p o q
      rw [hp] at this; cases this
  have rl' : RL K Fz (upd H p o) σ m fp := s.rl.mono ⟨fun _ x => x, fun a o q _ => same_new hp a o q⟩ fun a _ o q => same_new hp a o q
  refine ⟨[p] ++ fp, .so r rl', ?_, fun a ha => ?_, fun a o q => same_new hp a o (s.base a o q), fun a q => ?_⟩
  · rw [List.singleton_append, List.nodup_cons]
    refine ⟨fun z => ?_, s.nd⟩
    obtain ⟨us, q, _⟩ := s.rl.own p z
    rw [hp] at q; cases q
  · rcases List.mem_append.mp ha with z | z
    · rw [List.mem_singleton] at z
      subst z; exact ⟨nb, nf⟩
    · exact s.own a z
  · have e := h.fzn a q
    by_cases z : a = p
    · subst z; rw [upd_same]; simp
    · rw [upd_ne z]; exact e
theorem Rs.pushQ {v : V} {x : PyData} (h : Rs K B Fz H σ m) (r : Rq K Fz H v x) : Rs K B Fz H (some v :: σ) (some (.q x) :: m) := by
  obtain ⟨fp, rl, nd, own, base, fz⟩ := h
  exact ⟨_, .so (f := []) (.q r) rl, nd, own, base, fz⟩
theorem Rs.getQ {i : Nat} {x : PyData} (h : Rs K B Fz H σ m) (e : m[i]? = some (some (.q x))) : ∃ v, σ[i]? = some (some v) ∧ Rq K Fz H v x := by
  obtain ⟨fp, r⟩ := h
  obtain ⟨v, f, h1, h2, _⟩ := r.rl.get e
  cases h2 with | q q => exact ⟨v, h1, q⟩
end
section
variable {X : Cx} {ct : CT} {Wx : WX} {e e2 a b c : Expr} {es : List Expr} {p pos : Pos}
def eDnew (T : Bool) : Ms → Rz W := fun _ => .ok (.m T [])
theorem de_dnewK : DE X ct Wx (.Dict [] [] pos) (eDnew false) := ⟨PE_imp pe_dnewK fun σ H Q ⟨B, Fz, m, h, q⟩ p hp => q _ _ Fz .refl (h.newOwn hp (.mK upd_same .nil))⟩
theorem de_dnewT : DE X ct Wx (.Dict [] [] pos) (eDnew true) := ⟨PE_imp pe_dnewT fun σ H Q ⟨B, Fz, m, h, q⟩ p hp => q _ _ Fz .refl (h.newOwn hp (.mT upd_same .nil))⟩
/-- the own dict of a slot -/
def mAt (i : Nat) (m : Ms) : Option (Bool × List (PyData × PyData)) := match m[i]? with
  | some (some (.m T kvs)) => some (T, kvs)
  | _ => none
theorem mAt_some {i : Nat} {m : Ms} {T : Bool} {kvs : List (PyData × PyData)} (h : mAt i m = some (T, kvs)) : m[i]? = some (some (.m T kvs)) := by
  unfold mAt at h
  split at h
  · rename_i e; cases h; exact e
  · cases h
/-- name[k] = x -/
def sDput (i : Nat) (g f : Ms → Rz PyData) : Ms → Fl := flE f fun x m => match mAt i m with
  | some (T, kvs) => flE g (fun k m => match dputD T kvs k x with
    | some kvs' => if kvs.length < 10000000 then .nx (m.set i (some (.m T kvs'))) else .st
    | none => .st) m
  | none => .st
theorem ds_dput {y : Str} {p2 p3 : Pos} {ix : Expr} {f g : Ms → Rz PyData} (i : Nat) (hu : X.A.units + 105 < cLine) (hf : DV X ct Wx e f) (hg : DV X ct Wx ix g) (hN : X.N[i]? = some y := by rfl)
    (hv : Vis X.env.scope y := by first | exact Or.inl rfl | exact Or.inr (Or.inl rfl) | exact Or.inr (Or.inr rfl)) (hd : (y == ("__debug__" : Str)) = false := by decide) (hcd : (y == ("__classdict__" : Str)) = false := by decide)
    (hs : swapsWith e (some (.Subscript (.Name y p2) ix p3)) pos.line X.env = pure false := by rfl) : DS X ct Wx (.Assign [.Subscript (.Name y p2) ix p3] e pos) (sDput i g f) :=
  ds_of (ps_dput (by omega) (pe_var hN hv hd hcd) hg.pe hf.pe hs) fun D σ H B Fz m h q => by
    unfold sDput flE at q
    refine tV_then h ?_
    cases hx : f m with
    | st => rw [hx] at q; exact q
    | ex c => rw [hx] at q; exact fun H' F' x r => q σ H' F' x r
    | ok z =>
      rw [hx] at q
      intro v H1 F1 x1 r1 l1 p1
      cases e1 : mAt i m with
      | none => dsimp only at q; rw [e1] at q; exact q.elim
      | some Tk =>
        obtain ⟨T, kvs⟩ := Tk
        dsimp only at q
        rw [e1] at q
        dsimp only at q
        obtain ⟨a, g1, _, _⟩ := r1.getM (mAt_some e1)
        refine ⟨_, g1, ?_⟩
        refine tV_then r1 ?_
        cases hg : g m with
        | st => rw [hg] at q; exact q
        | ex c => rw [hg] at q; exact fun H' F' x r => q σ H' F' (x1.trans x) r
        | ok k =>
          rw [hg] at q
          intro u H2 F2 x2 r2 l2 p2
          dsimp only at q
          split at q
          · rename_i kvs' hp
            split at q
            · rename_i hl
              obtain ⟨a', H4, k1, k2, k3⟩ := r2.putM i (mAt_some e1) hp hl p2 (p1.mono l2)
              rw [g1] at k1; cases k1
              exact ⟨a, H4, rfl, k2, q σ _ F2 (x1.trans x2) k3⟩
            · exact q.elim
          · exact q.elim
/-- name[k] -/
def eDget (i : Nat) (g : Ms → Rz PyData) : Ms → Rz PyData := fun m => match dAt i m with
  | some (T, kvs) => (g m).bind fun k => match dgetD T kvs k with
    | some (some x) => .ok x
    | _ => .st
  | none => .st
theorem dv_dget {y : Str} {p2 : Pos} {ix : Expr} {g : Ms → Rz PyData} (i : Nat) (hu : X.A.units + 105 < cLine) (hg : DV X ct Wx ix g) (hN : X.N[i]? = some y := by rfl)
    (hv : Vis X.env.scope y := by first | exact Or.inl rfl | exact Or.inr (Or.inl rfl) | exact Or.inr (Or.inr rfl)) (hd : (y == ("__debug__" : Str)) = false := by decide) (hcd : (y == ("__classdict__" : Str)) = false := by decide)
    (hs : NoSl ix := by exact fun _ _ => rfl) : DV X ct Wx (.Subscript (.Name y p2) ix pos) (eDget i g) := ⟨PE_imp (pe_dget (by omega) (pe_var hN hv hd hcd) hg.pe hs) fun σ H Q ⟨B, Fz, m, h, q⟩ => by
  unfold eDget at q
  cases e1 : dAt i m with
  | none => rw [e1] at q; exact q.elim
  | some Tk =>
    obtain ⟨T, kvs⟩ := Tk
    rw [e1] at q
    dsimp only at q
    obtain ⟨a, g1, _⟩ := h.getD e1
    refine ⟨_, g1, tV_then h ?_⟩
    cases hx : g m with
    | st => rw [hx] at q; exact q
    | ex c => rw [hx] at q; exact q
    | ok k =>
      rw [hx, Rz.bind_ok] at q
      intro v H1 F1 x1 r1 l1 p1
      obtain ⟨a', g2, dv⟩ := r1.getD e1
      rw [g1] at g2; cases g2
      cases hk : dgetD T kvs k with
      | none => rw [hk] at q; exact q.elim
      | some o =>
        rw [hk] at q
        obtain ⟨ov, k1, k2⟩ := dv.get p1 hk
        cases o with
        | none => exact q.elim
        | some x =>
          cases ov with
          | none => exact k2.elim
          | some w => exact ⟨a, w, rfl, k1, q w H1 F1 x1 ⟨r1, k2⟩⟩⟩
/-- k in name -/
def tDin (pos : Bool) (i : Nat) (g : Ms → Rz PyData) : Ms → Rz Bool := fun m => (g m).bind fun k => match dAt i m with
  | some (T, kvs) => match dgetD T kvs k with
    | some o => .ok (if pos = true then o.isSome else !o.isSome)
    | none => .st
  | none => .st
theorem foundO_some {K : PySem.W.Frag} {Fz : Addr → Prop} {H : Hp} {o : Option V} {x : Option PyData} (h : FoundO K Fz H o x) : o.isSome = x.isSome := by
  cases o <;> cases x <;> first | rfl | exact h.elim
theorem din_end {K : PySem.W.Frag} {B : Hp} {Fz : Addr → Prop} {H : Hp} {σ : L2.St} {m : Ms} {i : Nat} {T : Bool} {kvs : List (PyData × PyData)} {v : V} {k : PyData} {o : Option PyData} (r : Rs K B Fz H σ m) (e : dAt i m = some (T, kvs)) (rp : Rp K Fz H v k) (hk : dgetD T kvs k = some o) :
    ∃ a, σ[i]? = some (some (.ref a)) ∧ ∃ ov, DGet H a v ov ∧ ov.isSome = o.isSome := by
  obtain ⟨a, g, dv⟩ := r.getD e
  obtain ⟨ov, k1, k2⟩ := dv.get rp hk
  exact ⟨a, g, ov, k1, foundO_some k2⟩
theorem dt_din {y : Str} {p2 : Pos} {ix : Expr} {g : Ms → Rz PyData} (i : Nat) (hu : X.A.units + 105 < cLine) (hg : DV X ct Wx ix g) (hm : behindInMarks .In (.Name y p2) = false) (hN : X.N[i]? = some y := by rfl)
    (hv : Vis X.env.scope y := by first | exact Or.inl rfl | exact Or.inr (Or.inl rfl) | exact Or.inr (Or.inr rfl)) (hd : (y == ("__debug__" : Str)) = false := by decide) (hcd : (y == ("__classdict__" : Str)) = false := by decide) :
    DT X ct Wx (.Compare ix [.In] [.Name y p2] pos) (tDin true i g) := ⟨PT_imp (pt_cmp (pc_din (by omega) hg.pe (pe_var hN hv hd hcd)) hm) fun σ H Q ⟨B, Fz, m, h, q⟩ => by
  unfold tDin at q
  refine tV_then h ?_
  cases hx : g m with
  | st => rw [hx] at q; exact q
  | ex c => rw [hx] at q; exact q
  | ok k =>
    rw [hx, Rz.bind_ok] at q
    intro v H1 F1 x1 r1 l1 p1
    cases e1 : dAt i m with
    | none => rw [e1] at q; exact q.elim
    | some Tk =>
      obtain ⟨T, kvs⟩ := Tk
      rw [e1] at q
      dsimp only at q
      cases hk : dgetD T kvs k with
      | none => rw [hk] at q; exact q.elim
      | some o =>
        rw [hk] at q
        obtain ⟨a, g1, ov, k1, k2⟩ := din_end r1 e1 p1 hk
        exact ⟨_, g1, a, ov, rfl, k1, _, rfl, by rw [k2]; exact q H1 F1 x1 r1⟩⟩
theorem dt_dnin {y : Str} {p2 : Pos} {ix : Expr} {g : Ms → Rz PyData} (i : Nat) (hu : X.A.units + 105 < cLine) (hg : DV X ct Wx ix g) (hm : behindInMarks .NotIn (.Name y p2) = false) (hN : X.N[i]? = some y := by rfl)
    (hv : Vis X.env.scope y := by first | exact Or.inl rfl | exact Or.inr (Or.inl rfl) | exact Or.inr (Or.inr rfl)) (hd : (y == ("__debug__" : Str)) = false := by decide) (hcd : (y == ("__classdict__" : Str)) = false := by decide) :
    DT X ct Wx (.Compare ix [.NotIn] [.Name y p2] pos) (tDin false i g) := ⟨PT_imp (pt_cmp (pc_dnotin (by omega) hg.pe (pe_var hN hv hd hcd)) hm) fun σ H Q ⟨B, Fz, m, h, q⟩ => by
  unfold tDin at q
  refine tV_then h ?_
  cases hx : g m with
  | st => rw [hx] at q; exact q
  | ex c => rw [hx] at q; exact q
  | ok k =>
    rw [hx, Rz.bind_ok] at q
    intro v H1 F1 x1 r1 l1 p1
    cases e1 : dAt i m with
    | none => rw [e1] at q; exact q.elim
    | some Tk =>
      obtain ⟨T, kvs⟩ := Tk
      rw [e1] at q
      dsimp only at q
      cases hk : dgetD T kvs k with
      | none => rw [hk] at q; exact q.elim
      | some o =>
        rw [hk] at q
        obtain ⟨a, g1, ov, k1, k2⟩ := din_end r1 e1 p1 hk
        exact ⟨_, g1, a, ov, rfl, k1, _, rfl, by rw [k2]; exact q H1 F1 x1 r1⟩⟩
def vDin (pos : Bool) (i : Nat) (g : Ms → Rz PyData) : Ms → Rz PyData := fun m => (tDin pos i g m).map .bool
theorem dv_din {y : Str} {p2 : Pos} {ix : Expr} {g : Ms → Rz PyData} (i : Nat) (hu : X.A.units + 105 < cLine) (hg : DV X ct Wx ix g) (hm : behindInMarks .In (.Name y p2) = false) (hN : X.N[i]? = some y := by rfl)
    (hv : Vis X.env.scope y := by first | exact Or.inl rfl | exact Or.inr (Or.inl rfl) | exact Or.inr (Or.inr rfl)) (hd : (y == ("__debug__" : Str)) = false := by decide) (hcd : (y == ("__classdict__" : Str)) = false := by decide) :
    DV X ct Wx (.Compare ix [.In] [.Name y p2] pos) (vDin true i g) := ⟨PE_imp (pe_cmp (pc_din (by omega) hg.pe (pe_var hN hv hd hcd)) hm) fun σ H Q ⟨B, Fz, m, h, q⟩ => by
  unfold vDin tDin at q
  refine tV_then h ?_
  cases hx : g m with
  | st => rw [hx] at q; exact q
  | ex c => rw [hx] at q; exact q
  | ok k =>
    rw [hx, Rz.bind_ok] at q
    intro v H1 F1 x1 r1 l1 p1
    cases e1 : dAt i m with
    | none => rw [e1] at q; exact q.elim
    | some Tk =>
      obtain ⟨T, kvs⟩ := Tk
      rw [e1] at q
      dsimp only at q
      cases hk : dgetD T kvs k with
      | none => rw [hk] at q; exact q.elim
      | some o =>
        rw [hk] at q
        obtain ⟨a, g1, ov, k1, k2⟩ := din_end r1 e1 p1 hk
        exact ⟨_, g1, a, ov, rfl, k1, by rw [k2]; exact q _ H1 F1 x1 ⟨r1, .bl _⟩⟩⟩
theorem dv_dnin {y : Str} {p2 : Pos} {ix : Expr} {g : Ms → Rz PyData} (i : Nat) (hu : X.A.units + 105 < cLine) (hg : DV X ct Wx ix g) (hm : behindInMarks .NotIn (.Name y p2) = false) (hN : X.N[i]? = some y := by rfl)
    (hv : Vis X.env.scope y := by first | exact Or.inl rfl | exact Or.inr (Or.inl rfl) | exact Or.inr (Or.inr rfl)) (hd : (y == ("__debug__" : Str)) = false := by decide) (hcd : (y == ("__classdict__" : Str)) = false := by decide) :
    DV X ct Wx (.Compare ix [.NotIn] [.Name y p2] pos) (vDin false i g) := ⟨PE_imp (pe_cmp (pc_dnotin (by omega) hg.pe (pe_var hN hv hd hcd)) hm) fun σ H Q ⟨B, Fz, m, h, q⟩ => by
  unfold vDin tDin at q
  refine tV_then h ?_
  cases hx : g m with
  | st => rw [hx] at q; exact q
  | ex c => rw [hx] at q; exact q
  | ok k =>
    rw [hx, Rz.bind_ok] at q
    intro v H1 F1 x1 r1 l1 p1
    cases e1 : dAt i m with
    | none => rw [e1] at q; exact q.elim
    | some Tk =>
      obtain ⟨T, kvs⟩ := Tk
      rw [e1] at q
      dsimp only at q
      cases hk : dgetD T kvs k with
      | none => rw [hk] at q; exact q.elim
      | some o =>
        rw [hk] at q
        obtain ⟨a, g1, ov, k1, k2⟩ := din_end r1 e1 p1 hk
        exact ⟨_, g1, a, ov, rfl, k1, by rw [k2]; exact q _ H1 F1 x1 ⟨r1, .bl _⟩⟩⟩
/-- name.get(k, x) -/
def eDget2 (i : Nat) (g f : Ms → Rz PyData) : Ms → Rz PyData := fun m => match dAt i m with
  | some (T, kvs) => (g m).bind fun k => (f m).bind fun x => match dgetD T kvs k with
    | some o => .ok (o.getD x)
    | none => .st
  | none => .st
theorem dv_dget2 {y : Str} {p2 apos cpos : Pos} {ix : Expr} {g f : Ms → Rz PyData} (i : Nat) (hu : X.A.units + 105 < cLine) (hg : DV X ct Wx ix g) (hf : DV X ct Wx e f) (hN : X.N[i]? = some y := by rfl)
    (hv : Vis X.env.scope y := by first | exact Or.inl rfl | exact Or.inr (Or.inl rfl) | exact Or.inr (Or.inr rfl)) (hd : (y == ("__debug__" : Str)) = false := by decide) (hcd : (y == ("__classdict__" : Str)) = false := by decide)
    (hm : M2 X (.Name y p2) "get" apos ix e cpos := by exact ⟨rfl, rfl, rfl, rfl⟩) : DV X ct Wx (.Call (.Attribute (.Name y p2) "get" apos) [ix, e] [] cpos) (eDget2 i g f) := ⟨PE_imp (pe_dget2 (by omega) (pe_var hN hv hd hcd) hg.pe hf.pe hm) fun σ H Q ⟨B, Fz, m, h, q⟩ => by
  unfold eDget2 at q
  cases e1 : dAt i m with
  | none => rw [e1] at q; exact q.elim
  | some Tk =>
    obtain ⟨T, kvs⟩ := Tk
    rw [e1] at q
    dsimp only at q
    obtain ⟨a, g1, dv0⟩ := h.getD e1
    refine ⟨_, g1, a, rfl, dv0.isD, tV_then h ?_⟩
    cases hx : g m with
    | st => rw [hx] at q; exact q
    | ex c => rw [hx] at q; exact q
    | ok k =>
      rw [hx, Rz.bind_ok] at q
      intro v H1 F1 x1 r1 l1 p1
      refine tV_then r1 ?_
      cases hz : f m with
      | st => rw [hz] at q; exact q
      | ex c => rw [hz] at q; exact fun H' F' x r => q H' F' (x1.trans x) r
      | ok x =>
        rw [hz, Rz.bind_ok] at q
        intro u H2 F2 x2 r2 l2 p2
        obtain ⟨a', g2, dv⟩ := r2.getD e1
        rw [g1] at g2; cases g2
        cases hk : dgetD T kvs k with
        | none => rw [hk] at q; exact q.elim
        | some o =>
          rw [hk] at q
          obtain ⟨ov, k1, k2⟩ := dv.get (p1.mono l2) hk
          refine ⟨ov, k1, ?_⟩
          cases ov with
          | none =>
            cases o with
            | none => exact q u H2 F2 (x1.trans x2) ⟨r2, p2⟩
            | some _ => exact k2.elim
          | some w =>
            cases o with
            | none => exact k2.elim
            | some x' => exact q w H2 F2 (x1.trans x2) ⟨r2, k2⟩⟩
end
end Dl
set_option Elab.async false
set_option linter.all false
set_option maxRecDepth 100000
/-! D23: own dicts given up; walks of dicts; data with dicts: names, displays, calls, ends. -/
namespace Dl
open PySem PySem.Spec PyProof.Rows L2
section
variable {X : Cx} {ct : CT} {Wx : WX} {e e2 a b c tg : Expr} {es : List Expr} {st : Stmt} {sts : List Stmt} {p pos : Pos}
/-! ### an own dict is given up -/
def giveAt (i : Nat) (m : Ms) : Ms := match m[i]? with
  | some (some (.m _ kvs)) => m.set i (some (.q (.dict kvs)))
  | _ => m
theorem RL.give : ∀ {K : PySem.W.Frag} {Fz : Addr → Prop} {H : Hp} {σ : L2.St} {m : Ms} {fp : List Addr} (i : Nat) {T : Bool} {kvs : List (PyData × PyData)}, RL K Fz H σ m fp → fp.Nodup → (∀ a ∈ fp, ¬ Fz a) → m[i]? = some (some (.m T kvs)) →
    ∃ a u, H a = some u ∧ Mut (some u) ∧ a ∈ fp ∧ ∀ od, ∃ g, RL K Fz (upd H a (.frz od u)) σ (m.set i (some (.q (.dict kvs)))) g ∧ g.Sublist fp ∧ a ∉ g
  | _, _, _, _, _, _, _, _, _, .nil, _, _, e => by simp at e
  | _, _, _, _, _, _, 0, _, _, .no _, _, _, e => by simp at e
  | _, _, _, _, _, _, i + 1, _, _, .no r, nd, nf, e => by
    obtain ⟨a, u, h1, h2, h3, h4⟩ := RL.give i r nd nf (by simpa using e)
    refine ⟨a, u, h1, h2, h3, fun od => ?_⟩
    obtain ⟨g, h5, h6, h7⟩ := h4 od
    exact ⟨g, .no h5, h6, h7⟩
  | K, Fz, H, _, _, _, 0, _, _, .so (σ := σ) (m := m) (fp := fp) q r, nd, nf, e => by
    have e' := Option.some.inj (Option.some.inj e)
    subst e'
    have fin : ∀ (p : Addr) (u : HO) (x : PyData), H p = some u → ¬ isT u → ([p] ++ fp).Nodup → ¬ Fz p → ∀ od, Rq K Fz (upd H p (.frz od u)) (.ref p) x → ∃ g, RL K Fz (upd H p (.frz od u)) (some (V.ref p) :: σ) (some (W.q x) :: m) g ∧ g.Sublist ([p] ++ fp) ∧ p ∉ g := fun p u x e nt nd nf od rq => by
      rw [List.singleton_append, List.nodup_cons] at nd
      exact ⟨fp, .so (f := []) (.q rq) (r.mono (le_ownG e nt nf) fun b hb u q => by rw [upd_ne (fun z => nd.1 (by rw [← z]; exact hb))]; exact q), List.sublist_append_right _ _, nd.1⟩
    cases q with
    | mK eh en => exact ⟨_, _, eh, trivial, by simp, fun od => fin _ _ _ eh id nd (nf _ (by simp)) od (.dK upd_same (en.mono (le_ownG eh id (nf _ (by simp)))))⟩
    | mT eh en => exact ⟨_, _, eh, trivial, by simp, fun od => fin _ _ _ eh id nd (nf _ (by simp)) od (.dT upd_same (en.mono (le_ownG eh id (nf _ (by simp)))))⟩
  | K, Fz, H, _, _, _, i + 1, _, _, .so (f := f) (fp := fp) q r, nd, nf, e => by
    rw [List.nodup_append] at nd
    obtain ⟨a, u, h1, h2, h3, h4⟩ := RL.give i r nd.2.1 (fun a ha => nf a (List.mem_append_right _ ha)) (by simpa using e)
    refine ⟨a, u, h1, h2, List.mem_append_right _ h3, fun od => ?_⟩
    obtain ⟨g, h5, h6, h7⟩ := h4 od
    have nt : ¬ isT u := by cases u <;> first | exact id | exact fun _ => h2
    refine ⟨f ++ g, .so (q.mono (le_ownG h1 nt (nf a (List.mem_append_right _ h3))) fun b hb u q => by rw [upd_ne (fun z => nd.2.2 b hb a h3 z)]; exact q) h5, h6.append_left f, fun z => ?_⟩
    rcases List.mem_append.mp z with z | z
    · exact nd.2.2 a z a h3 rfl
    · exact h7 z
theorem Rs.give (i : Nat) {K : PySem.W.Frag} {B : Hp} {Fz : Addr → Prop} {H : Hp} {σ : L2.St} {m : Ms} {T : Bool} {kvs : List (PyData × PyData)} (h : Rs K B Fz H σ m) (e : m[i]? = some (some (.m T kvs))) :
    ∃ a u, H a = some u ∧ Mut (some u) ∧ ∀ od, Rs K B Fz (upd H a (.frz od u)) σ (m.set i (some (.q (.dict kvs)))) := by
  obtain ⟨fp, r⟩ := h
  obtain ⟨a, u, h1, h2, h3, h4⟩ := r.rl.give i r.nd (fun a ha => (r.own a ha).2) e
  refine ⟨a, u, h1, h2, fun od => ?_⟩
  obtain ⟨g, h5, h6, h7⟩ := h4 od
  refine ⟨g, h5, r.nd.sublist h6, fun b hb => r.own b (h6.subset hb), fun b o q => ?_, fun b hb => ?_⟩
  · have : b ≠ a := fun z => by
      subst z
      rw [(r.own b h3).1] at q; cases q
    rw [upd_ne this]; exact r.base b o q
  · by_cases z : b = a
    · subst z; rw [upd_same]; simp
    · rw [upd_ne z]; exact r.fz b hb
def sGive (i : Nat) (g : Ms → Fl) : Ms → Fl := fun m => g (giveAt i m)
theorem tS_give {pins : List (Addr × Obj)} {s : Shared} {σ : L2.St} {H : Hp} {D : Ends} (i : Nat) {g : Ms → Fl} (I : Inv X pins σ H s) (w : tS X.K ct Wx (sGive i g) D σ H) : ∃ H', Inv X pins σ H' s ∧ tS X.K ct Wx g D σ H' := by
  obtain ⟨B, Fz, m, r, q⟩ := tS_iff.mp w
  unfold sGive giveAt at q
  split at q
  · rename_i T kvs e
    obtain ⟨a, u, h1, h2, h3⟩ := r.give i e
    obtain ⟨od, I'⟩ := I.lock h1 h2
    exact ⟨_, I', tS_iff.mpr ⟨B, Fz, _, h3 od, q⟩⟩
  · exact ⟨H, I, tS_iff.mpr ⟨B, Fz, m, r, q⟩⟩
theorem ds_give (i : Nat) {g : Ms → Fl} (h : DS X ct Wx st g) : DS X ct Wx st (sGive i g) := ⟨⟨fun pins s σ H D I w => by
  obtain ⟨H', I', w'⟩ := tS_give i I w
  exact h.ps.run pins s σ H' D I' w'⟩⟩
theorem dss_give (i : Nat) {g : Ms → Fl} (h : DSs X ct Wx sts g) : DSs X ct Wx sts (sGive i g) := ⟨⟨fun pins s σ H D I w => by
  obtain ⟨H', I', w'⟩ := tS_give i I w
  exact h.ps.run pins s σ H' D I' w'⟩⟩
/-! ### data with dicts in it -/
def rQ (K : PySem.W.Frag) : Hp → (Addr → Prop) → Hp → L2.St → Ms → V → PyData → Prop := fun B Fz H σ m v x => Rs K B Fz H σ m ∧ Rq K Fz H v x
structure DQ (X : Cx) (ct : CT) (Wx : WX) (e : Expr) (f : Ms → Rz PyData) : Prop where
  pe : PE X e (tG X.K ct Wx (rQ X.K) f)
theorem tQ_then {K : PySem.W.Frag} {f : Ms → Rz PyData} {B : Hp} {Fz : Addr → Prop} {σ : L2.St} {m : Ms} {H : Hp} {Q : VK} (h : Rs K B Fz H σ m)
    (hk : match f m with
      | .st => False
      | .ok x => ∀ v H' Fz', Ext B Fz Fz' → Rs K B Fz' H' σ m → Le Fz H Fz' H' → Rq K Fz' H' v x → Q v H'
      | .ex c => ∀ H' Fz', Ext B Fz Fz' → Rs K B Fz' H' σ m → Wx (ct c) Option.none σ H') : tG K ct Wx (rQ K) f σ H Q := by
  obtain ⟨B2, h2, he, ht⟩ := h.step
  refine ⟨B2, Fz, m, h2, ?_⟩
  cases hf : f m with
  | st => rw [hf] at hk; exact hk
  | ex c => rw [hf] at hk; exact fun H' Fz' e r => hk H' Fz' (he _ e) (ht (ρ := []) (r := []) e r rfl).1
  | ok x =>
    rw [hf] at hk
    intro v H' Fz' e ⟨r, s⟩
    obtain ⟨r', l⟩ := ht (ρ := []) (r := []) e r rfl
    exact hk v H' Fz' (he _ e) r' l s
theorem DV.dq {f : Ms → Rz PyData} (h : DV X ct Wx e f) : DQ X ct Wx e f := ⟨PE_imp h.pe fun σ H Q ⟨B, Fz, m, r, q⟩ => by
  refine ⟨B, Fz, m, r, ?_⟩
  cases hf : f m with
  | st => rw [hf] at q; exact q
  | ex c => rw [hf] at q; exact q
  | ok w => rw [hf] at q; exact fun v H' Fz' e r' => q v H' Fz' e ⟨r'.1, .pl r'.2⟩⟩
def qVar (i : Nat) : Ms → Rz PyData := fun m => match m[i]? with
  | some (some (.q x)) => .ok x
  | some (some (.d x)) => .ok x
  | _ => .st
theorem dq_var {x : Str} (i : Nat) (hN : X.N[i]? = some x := by rfl) (hv : Vis X.env.scope x := by first | exact Or.inl rfl | exact Or.inr (Or.inl rfl) | exact Or.inr (Or.inr rfl)) (hd : (x == ("__debug__" : Str)) = false := by decide)
    (hcd : (x == ("__classdict__" : Str)) = false := by decide) : DQ X ct Wx (.Name x pos) (qVar i) := ⟨PE_imp (pe_var hN hv hd hcd) fun σ H Q ⟨B, Fz, m, r, q⟩ => by
  unfold qVar at q
  cases hm : m[i]? with
  | none => rw [hm] at q; exact q.elim
  | some o =>
    cases o with
    | none => rw [hm] at q; exact q.elim
    | some w =>
      cases w with
      | q y =>
        rw [hm] at q
        obtain ⟨v, h1, h2⟩ := r.getQ hm
        exact ⟨v, h1, q v H Fz .refl ⟨r, h2⟩⟩
      | d y =>
        rw [hm] at q
        obtain ⟨v, h1, h2⟩ := r.get hm
        exact ⟨v, h1, q v H Fz .refl ⟨r, .pl h2⟩⟩
      | _ => rw [hm] at q; exact q.elim⟩
/-- data, or data with dicts in it -/
def qW (x : PyData) : W := if x.plain = true then .d x else .q x
theorem Rs.pushW {K : PySem.W.Frag} {B : Hp} {Fz : Addr → Prop} {H : Hp} {σ : L2.St} {m : Ms} {v : V} {x : PyData} (h : Rs K B Fz H σ m) (r : Rq K Fz H v x) : Rs K B Fz H (some v :: σ) (some (qW x) :: m) := by
  unfold qW
  split
  · rename_i hp; exact h.push (r.rp hp)
  · exact h.pushQ r
theorem DQ.toE {f : Ms → Rz PyData} (h : DQ X ct Wx e f) : DE X ct Wx e (fun m => (f m).map qW) := ⟨PE_imp h.pe fun σ H Q ⟨B, Fz, m, r, q⟩ => by
  refine ⟨B, Fz, m, r, ?_⟩
  cases hf : f m with
  | st => simp only [hf, Rz.map_st] at q
  | ex c => simp only [hf, Rz.map_ex] at q; exact q
  | ok w => simp only [hf, Rz.map_ok] at q; exact fun v H' Fz' e r' => q v H' Fz' e (r'.1.pushW r'.2)⟩
/-- all arguments -/
def tAq (K : PySem.W.Frag) (ct : CT) (Wx : WX) (fs : List (Ms → Rz PyData)) : TA := fun σ H Q => ∃ B Fz m, Rs K B Fz H σ m ∧
  match evalAllD fs m with
  | .st => False
  | .ok xs => ∀ vs H' Fz', Ext B Fz Fz' → Rs K B Fz' H' σ m → RqAll K Fz' H' vs xs → Q vs H'
  | .ex c => ∀ H' Fz', Ext B Fz Fz' → Rs K B Fz' H' σ m → Wx (ct c) Option.none σ H'
structure DAq (X : Cx) (ct : CT) (Wx : WX) (es : List Expr) (fs : List (Ms → Rz PyData)) : Prop where
  pa : PA X es (tAq X.K ct Wx fs)
theorem daq_nil : DAq X ct Wx [] [] := ⟨PA_imp pa_nil fun σ H Q ⟨B, Fz, m, h, q⟩ => q [] H Fz .refl h .nil⟩
theorem tAq_then {K : PySem.W.Frag} {fs : List (Ms → Rz PyData)} {B : Hp} {Fz : Addr → Prop} {σ : L2.St} {m : Ms} {H : Hp} {Q : List V → Hp → Prop} (h : Rs K B Fz H σ m)
    (hk : match evalAllD fs m with
      | .st => False
      | .ok xs => ∀ vs H' Fz', Ext B Fz Fz' → Rs K B Fz' H' σ m → Le Fz H Fz' H' → RqAll K Fz' H' vs xs → Q vs H'
      | .ex c => ∀ H' Fz', Ext B Fz Fz' → Rs K B Fz' H' σ m → Wx (ct c) Option.none σ H') : tAq K ct Wx fs σ H Q := by
  obtain ⟨B2, h2, he, ht⟩ := h.step
  refine ⟨B2, Fz, m, h2, ?_⟩
  cases hf : evalAllD fs m with
  | st => rw [hf] at hk; exact hk
  | ex c => rw [hf] at hk; exact fun H' Fz' e r => hk H' Fz' (he _ e) (ht (ρ := []) (r := []) e r rfl).1
  | ok x =>
    rw [hf] at hk
    intro vs H' Fz' e r s
    obtain ⟨r', l⟩ := ht (ρ := []) (r := []) e r rfl
    exact hk vs H' Fz' (he _ e) r' l s
theorem daq_cons {f : Ms → Rz PyData} {fs : List (Ms → Rz PyData)} (ha : DQ X ct Wx e f) (hs : DAq X ct Wx es fs) (hst : starEach (e :: es) X.env = (false, eval e X.env) :: starEach es X.env := by rfl) : DAq X ct Wx (e :: es) (f :: fs) := ⟨PA_imp (pa_cons ha.pe hs.pa hst) fun σ H Q ⟨B, Fz, m, h, q⟩ => by
  refine tQ_then h ?_
  cases hf : f m with
  | st => simp only [evalAllD, hf, Rz.bind_st] at q
  | ex c => simp only [evalAllD, hf, Rz.bind_ex] at q; exact q
  | ok x =>
    intro v H1 Fz1 x1 h1 l1 s1
    simp only [evalAllD, hf, Rz.bind_ok] at q
    refine tAq_then h1 ?_
    cases hg : evalAllD fs m with
    | st => rw [hg] at q; exact q
    | ex c => rw [hg] at q; exact fun H2 Fz2 x2 r2 => q H2 Fz2 (x1.trans x2) r2
    | ok xs =>
      rw [hg] at q
      exact fun vs H2 Fz2 x2 r2 l2 s2 => q (v :: vs) H2 Fz2 (x1.trans x2) r2 (.cons (s1.mono l2) s2)⟩
/-! ### defs that give such data out, or take it -/
def spQ (ct : CT) (K : PySem.W.Frag) (n : Nat) (F : Ms → Rz PyData) : Sp := fun vs H Q E => ∃ Fz m, vs.length = n ∧ (∀ a, Fz a → H a ≠ none) ∧ RL K Fz H (vs.map some) m [] ∧ match F m with
  | .st => False
  | .ok x => ∀ v H' Fz', Same H H' → Ext H Fz Fz' → (∀ a, Fz' a → H' a ≠ none) → Rq K Fz' H' v x → Q v H'
  | .ex c => ∀ H' Fz', Same H H' → Ext H Fz Fz' → (∀ a, Fz' a → H' a ≠ none) → E (ct c) Option.none H'
def fnQ (N : Nat) (g : Ms → Fl) : Ms → Rz PyData := fun m => match g (m ++ List.replicate (N - m.length) none) with
  | .nx _ => .ok .none
  | .rt x => .ok x
  | .rq x => .ok x
  | .ex c _ => .ex c
  | _ => .st
section
variable {P : Program} {w : World} {K : PySem.W.Frag} {mg : Str → Option Value} {base : Heap}
theorem fn_bodyQ {x qual : Str} {st : Stmt} {f : Addr} {fd : FuncData} {N ps : List Str} {k : Nat} {g : Ms → Fl} (F : Fun K x qual st f fd) (S : FnScope N ps (defScope st))
    (hb : ∀ (cdv : Value) (A : Around) (outer : List Env) (s : Shared) (H : Hp) (E : XK), Room k (A.deeper (envOfC qual (defScope st) s.heap.objs.size f cdv)) →
      DSs (cxOf (L2.CX P w) P w K mg base N qual (defScope st) f cdv A outer s H E) ct (fun cls d _ H => E cls d H) (defBody st) g) : FnOk P w K mg base (L2.CX P w) (k + 1) f fd ps (spQ ct K ps.length (fnQ N.length g)) := by
  refine F.okX S (fun vs H Q E ⟨Fz, m, h, _⟩ => h) fun cdv A outer s H vs Q E hr ⟨Fz, m, hl, hz, h, q⟩ => ⟨_, (hb cdv A outer s H E hr).ps, ?_⟩
  have hm : vs.length = m.length := by rw [← h.length, List.length_map]
  refine tS_iff.mpr ⟨H, Fz, m ++ List.replicate (N.length - m.length) none, ⟨[], ?_, List.nodup_nil, fun a ha => absurd ha (List.not_mem_nil), fun _ _ z => z, hz⟩, ?_⟩
  · unfold L2.start
    rw [hm]
    exact h.pad _
  · unfold fnQ at q
    cases hg : g (m ++ List.replicate (N.length - m.length) none) with
    | st => rw [hg] at q; exact q
    | bk _ => rw [hg] at q; exact q.elim
    | ct _ => rw [hg] at q; exact q.elim
    | nx m' => rw [hg] at q; exact fun σ' H' Fz' x r => q .non H' Fz' (fun a o e => r.base a o e) x r.fzn (.pl .non)
    | rt y => rw [hg] at q; exact fun v H' Fz' x ⟨σ', m', r⟩ p => q v H' Fz' (fun a o e => r.base a o e) x r.fzn (.pl p)
    | rq y => rw [hg] at q; exact fun v H' Fz' x ⟨σ', m', r⟩ p => q v H' Fz' (fun a o e => r.base a o e) x r.fzn p
    | ex c m' => rw [hg] at q; exact fun σ' H' Fz' x r => q H' Fz' (fun a o e => r.base a o e) x r.fzn
structure CallQ (P : Program) (w : World) (K : PySem.W.Frag) (mg : Str → Option Value) (base : Heap) (ct : CT) (k : Nat) (x : Str) (n : Nat) (F : Ms → Rz PyData) : Prop where
  ex : ∃ f fd ps, FnOk P w K mg base (L2.CX P w) k f fd ps (spQ ct K n F) ∧ mg x = some (.ref f) ∧ PySem.W.keepIn K (.ref f) = true ∧ Binds K fd ps []
theorem callQ_of {x : Str} {st : Stmt} {N ps : List Str} {k n np : Nat} {g : Ms → Fl} (D : DefD K mg x st ps) (S : FnScope N ps (defScope st)) (hn : N.length = n) (hp : ps.length = np)
    (hb : ∀ (f : Addr) (cdv : Value) (A : Around) (outer : List Env) (s : Shared) (H : Hp) (E : XK), Room k (A.deeper (envOfC x (defScope st) s.heap.objs.size f cdv)) →
      DSs (cxOf (L2.CX P w) P w K mg base N x (defScope st) f cdv A outer s H E) ct (fun cls d _ H => E cls d H) (defBody st) g) : CallQ P w K mg base ct (k + 1) x np (fnQ n g) := by
  obtain ⟨f, fd, F, hm, hb'⟩ := D.ex
  subst hn hp
  exact ⟨f, fd, ps, fn_bodyQ F S (hb f), hm, F.kp, hb'⟩
end
def vFnM (F : Ms → Rz PyData) (fs : List (Ms → Rz PyData)) : Ms → Rz PyData := fun m => (evalAllD fs m).bind fun xs => F (xs.map fun x => some (qW x))
theorem RL.ofAllQ {K : PySem.W.Frag} {Fz : Addr → Prop} {H : Hp} : ∀ {vs : List V} {xs : List PyData}, RqAll K Fz H vs xs → RL K Fz H (vs.map some) (xs.map fun x => some (qW x)) []
  | _, _, .nil => .nil
  | _, x :: _, .cons r rs => by
    refine .so (f := []) ?_ (RL.ofAllQ rs)
    unfold qW
    split
    · rename_i hp; exact .d (r.rp hp)
    · exact .q r
theorem RqAll.length {K : PySem.W.Frag} {Fz : Addr → Prop} {H : Hp} : ∀ {vs : List V} {ds : List PyData}, RqAll K Fz H vs ds → vs.length = ds.length
  | _, _, .nil => rfl
  | _, _, .cons _ r => by rw [List.length_cons, List.length_cons, RqAll.length r]
/-- plain data given back -/
theorem dv_callM {x : Str} {k j n : Nat} {F : Ms → Rz PyData} {fs : List (Ms → Rz PyData)} (c : CallW X.prog X.w X.K X.mg X.base ct k x n F) (hr : Room j X.A) (hk : k ≤ j) (tk : Takes X Wx) (ha : DAq X ct Wx (e :: es) fs) (hn : (e :: es).length = n := by rfl) (hg : Gl X x := by rfl)
    (hdb : (x == ("__debug__" : Str)) = false := by decide) (he : starEach (e :: es) X.env = (false, eval e X.env) :: starEach es X.env := by rfl) (hpl : (backTo pos (starEach es X.env)).any (·.1) = false := by rfl) (hfl : fs.length = (e :: es).length := by rfl) :
    DV X ct Wx (.Call (.Name x p) (e :: es) [] pos) (vFnM F fs) := by
  obtain ⟨f, fd, ps, hf, hm, hkp, hb⟩ := c.ex
  refine ⟨PE_imp (pe_callS hf (hr.mono hk) hg hm hkp hb (fun σ => passAt tk σ) ha.pa hdb he hpl) fun σ H Q ⟨B, Fz, m, r, q⟩ => ⟨B, Fz, m, r, ?_⟩⟩
  unfold vFnM at q
  cases hf : evalAllD fs m with
  | st => rw [hf] at q; exact q
  | ex c => rw [hf] at q; exact q
  | ok xs =>
    rw [hf, Rz.bind_ok] at q
    intro vs H1 F1 x1 r1 p1
    refine fn_end (by rw [p1.length, evalAllD_len hf, hfl]; exact hn) r1 (RL.ofAllQ p1) ?_
    cases hF : F (xs.map fun x => some (qW x)) with
    | st => rw [hF] at q; exact q
    | ok y => rw [hF] at q; exact fun v H' F' x r p => q v H' F' (x1.trans x) ⟨r, p⟩
    | ex c => rw [hF] at q; exact fun H' F' x r => q H' F' (x1.trans x) r
theorem fn_endQ {K : PySem.W.Frag} {F : Ms → Rz PyData} {n : Nat} {B H : Hp} {Fz : Addr → Prop} {σ : L2.St} {m ma : Ms} {vs : List V} {Q : VK} (hl : vs.length = n) (r : Rs K B Fz H σ m) (ra : RL K Fz H (vs.map some) ma [])
    (q : match F ma with
      | .st => False
      | .ok a => ∀ v H' Fz', Ext B Fz Fz' → Rs K B Fz' H' σ m → Rq K Fz' H' v a → Q v H'
      | .ex c => ∀ H' Fz', Ext B Fz Fz' → Rs K B Fz' H' σ m → Wx (ct c) Option.none σ H') : spQ ct K n F vs H Q (WE Wx σ) := by
  refine ⟨Fz, ma, hl, r.fzn, ra, ?_⟩
  cases hf : F ma with
  | st => rw [hf] at q; exact q
  | ok y => rw [hf] at q; exact fun v H' Fz' sm x nz rp => q v H' Fz' (ext_base r.base x) (r.grow sm x nz) rp
  | ex c => rw [hf] at q; exact fun H' Fz' sm x nz => q H' Fz' (ext_base r.base x) (r.grow sm x nz)
theorem dq_call {x : Str} {k j n : Nat} {F : Ms → Rz PyData} {fs : List (Ms → Rz PyData)} (c : CallQ X.prog X.w X.K X.mg X.base ct k x n F) (hr : Room j X.A) (hk : k ≤ j) (tk : Takes X Wx) (ha : DAq X ct Wx (e :: es) fs) (hn : (e :: es).length = n := by rfl) (hg : Gl X x := by rfl)
    (hdb : (x == ("__debug__" : Str)) = false := by decide) (he : starEach (e :: es) X.env = (false, eval e X.env) :: starEach es X.env := by rfl) (hpl : (backTo pos (starEach es X.env)).any (·.1) = false := by rfl) (hfl : fs.length = (e :: es).length := by rfl) :
    DQ X ct Wx (.Call (.Name x p) (e :: es) [] pos) (vFnM F fs) := by
  obtain ⟨f, fd, ps, hf, hm, hkp, hb⟩ := c.ex
  refine ⟨PE_imp (pe_callS hf (hr.mono hk) hg hm hkp hb (fun σ => passAt tk σ) ha.pa hdb he hpl) fun σ H Q ⟨B, Fz, m, r, q⟩ => ⟨B, Fz, m, r, ?_⟩⟩
  unfold vFnM at q
  cases hf : evalAllD fs m with
  | st => rw [hf] at q; exact q
  | ex c => rw [hf] at q; exact q
  | ok xs =>
    rw [hf, Rz.bind_ok] at q
    intro vs H1 F1 x1 r1 p1
    refine fn_endQ (by rw [p1.length, evalAllD_len hf, hfl]; exact hn) r1 (RL.ofAllQ p1) ?_
    cases hF : F (xs.map fun x => some (qW x)) with
    | st => rw [hF] at q; exact q
    | ok y => rw [hF] at q; exact fun v H' F' x r p => q v H' F' (x1.trans x) ⟨r, p⟩
    | ex c => rw [hF] at q; exact fun H' F' x r => q H' F' (x1.trans x) r
/-- return of such data -/
theorem tQ_end {f : Ms → Rz PyData} {B : Hp} {Fz : Addr → Prop} {σ : L2.St} {m : Ms} {H : Hp} {Q : VK} {D : Ends} {k : PyData → Ms → Fl} (h : Rs X.K B Fz H σ m)
    (q : EndS X.K ct Wx B Fz D (flE f k m))
    (hk : ∀ x v H' Fz', f m = .ok x → Ext B Fz Fz' → Rs X.K B Fz' H' σ m → Rq X.K Fz' H' v x → EndS X.K ct Wx B Fz' D (k x m) → Q v H') : tG X.K ct Wx (rQ X.K) f σ H Q := by
  refine ⟨B, Fz, m, h, ?_⟩
  unfold flE at q
  cases hf : f m with
  | st => rw [hf] at q; exact q
  | ex c => rw [hf] at q; exact fun H' F' x r => q σ H' F' x r
  | ok w => rw [hf] at q; exact fun v H' F' x r => hk w v H' F' hf x r.1 r.2 (q.ext x)
def sRetQ (f : Ms → Rz PyData) : Ms → Fl := flE f fun x _ => .rq x
theorem ds_retQ {f : Ms → Rz PyData} (he : DQ X ct Wx e f) : DS X ct Wx (.Return (some e) pos) (sRetQ f) :=
  ds_of (ps_ret he.pe) fun D σ H B Fz m h q => tQ_end (k := fun x _ => .rq x) h q fun _ v H' F' _ x r p q => q v H' F' .refl ⟨_, _, r⟩ p
def eTupQ (fs : List (Ms → Rz PyData)) : Ms → Rz PyData := fun m => (evalAllD fs m).map .tuple
end
end Dl
set_option Elab.async false
set_option linter.all false
set_option maxRecDepth 100000
/-! D24: walks and sorted of dicts given up; displays, subscripts, targets for data with dicts; name = e[xs.pop()]. -/
namespace Dl
open PySem PySem.Spec PyProof.Rows L2
section
variable {X : Cx} {ct : CT} {Wx : WX} {e e2 a b c tg : Expr} {es : List Expr} {st : Stmt} {p pos : Pos}
/-- a dict given up, in a slot -/
def qdAt (i : Nat) (m : Ms) : Option (List (PyData × PyData)) := match m[i]? with
  | some (some (.q (.dict kvs))) => some kvs
  | _ => none
def DictF (K : PySem.W.Frag) (Fz : Addr → Prop) (H : Hp) (a : Addr) (kvs : List (PyData × PyData)) : Prop :=
  (∃ (o : Obj) (ks : List (Key × V)), H a = some (.frz o (.dK ks)) ∧ DEnt K Fz H keyD ks kvs) ∨ (∃ (o : Obj) (ks : List (List Key × V)), H a = some (.frz o (.dT ks)) ∧ DEnt K Fz H keysD ks kvs)
theorem Rs.getF {K : PySem.W.Frag} {B : Hp} {Fz : Addr → Prop} {H : Hp} {σ : L2.St} {m : Ms} {i : Nat} {kvs : List (PyData × PyData)} (h : Rs K B Fz H σ m) (e : qdAt i m = some kvs) : ∃ a, σ[i]? = some (some (.ref a)) ∧ DictF K Fz H a kvs := by
  unfold qdAt at e
  split at e
  · rename_i kvs' e'
    cases e
    obtain ⟨v, h1, h2⟩ := h.getQ e'
    cases h2 with
    | pl r => cases r
    | dK eh en => exact ⟨_, h1, .inl ⟨_, _, eh, en⟩⟩
    | dT eh en => exact ⟨_, h1, .inr ⟨_, _, eh, en⟩⟩
  · cases e
def iKeysD (i : Nat) : Ms → Rz (List PyData) := fun m => match qdAt i m with
  | some kvs => if kvs.length ≤ 10000000 then .ok (kvs.map (·.1)) else .st
  | none => .st
theorem rp_keyD {K : PySem.W.Frag} {Fz : Addr → Prop} {H : Hp} : ∀ {k : Key}, Rp K Fz H (kV k) (keyD k)
  | .inl i => .int i
  | .inr s => .str s
theorem rp_keysAll {K : PySem.W.Frag} {Fz : Addr → Prop} {H : Hp} : ∀ {k : List Key}, RpAll K Fz H (k.map kV) (k.map keyD)
  | [] => .nil
  | _ :: _ => .cons rp_keyD rp_keysAll
theorem DEnt.key_get {K : PySem.W.Frag} {Fz : Addr → Prop} {H : Hp} {κ : Type} {kd : κ → PyData} {ks : List (κ × V)} {kvs : List (PyData × PyData)} (h : DEnt K Fz H kd ks kvs) {i : Nat} {x : PyData} (e : (kvs.map (·.1))[i]? = some x) : ∃ k v, ks[i]? = some (k, v) ∧ x = kd k := by
  rw [h.keys, List.getElem?_map] at e
  obtain ⟨p, h1, rfl⟩ := Option.map_eq_some_iff.mp e
  exact ⟨p.1, p.2, h1, rfl⟩
theorem di_keys {y : Str} (i : Nat) (hN : X.N[i]? = some y := by rfl) (hv : Vis X.env.scope y := by first | exact Or.inl rfl | exact Or.inr (Or.inl rfl) | exact Or.inr (Or.inr rfl)) (hd : (y == ("__debug__" : Str)) = false := by decide)
    (hcd : (y == ("__classdict__" : Str)) = false := by decide) : DI X ct Wx tg (.Name y pos) (iKeysD i) := ⟨PI_imp (pi_keys (pe_var hN hv hd hcd)) fun σ H R ⟨B, Fz, m, h, q⟩ => by
  unfold iKeysD at q
  cases e1 : qdAt i m with
  | none => rw [e1] at q; exact q.elim
  | some kvs =>
    rw [e1] at q
    dsimp only at q
    by_cases hl : kvs.length ≤ 10000000
    · rw [if_pos hl] at q
      dsimp only at q
      obtain ⟨a, g1, dv⟩ := h.getF e1
      have hsz : (kvs.map (·.1)).length ≤ sizeLine := by rw [List.length_map, sizeLine_eq]; omega
      refine ⟨_, g1, a, ?_⟩
      rcases dv with ⟨o, ks, eh, en⟩ | ⟨o, ks, eh, en⟩
      · refine ⟨o, rfl, .inl ⟨ks, eh, q _ H Fz .refl h (fun F' H' l => ?_) hsz⟩⟩
        have eh' := l.hp _ _ eh (.inr trivial)
        refine ⟨fun i hi => ⟨eh', by rw [List.length_map] at hi; rw [en.length]; exact hi⟩, ⟨eh', by rw [List.length_map, en.length]; exact Nat.le_refl _⟩, fun j x v H'' hx hy => ?_⟩
        obtain ⟨rfl, k, w, h1, rfl⟩ := hy
        obtain ⟨k', w', h2, rfl⟩ := en.key_get hx
        rw [h1] at h2; cases h2
        exact ⟨.inl rfl, rp_keyD⟩
      · refine ⟨o, rfl, .inr ⟨ks, eh, q _ H Fz .refl h (fun F' H' l => ?_) hsz⟩⟩
        have eh' := l.hp _ _ eh (.inr trivial)
        refine ⟨fun i hi => ⟨eh', by rw [List.length_map] at hi; rw [en.length]; exact hi⟩, ⟨eh', by rw [List.length_map, en.length]; exact Nat.le_refl _⟩, fun j x v H'' hx hy => ?_⟩
        obtain ⟨rfl, k, w, qa, h1, rfl, ht⟩ := hy
        obtain ⟨k', w', h2, rfl⟩ := en.key_get hx
        rw [h1] at h2; cases h2
        exact ⟨.inl rfl, .tup ht rp_keysAll⟩
    · rw [if_neg hl] at q
      exact q.elim⟩
/-! ### sorted(d) -/
theorem reads_key {h : Heap} {v : Value} {k : Key} {as : List Addr} (r : Reads h v (keyD k) as) : as = [] := by
  cases k <;> (simp only [keyD] at r; cases r; rfl)
theorem reads_keys {h : Heap} : ∀ {k : List Key} {vs : List Value} {as : List Addr}, ReadsAll h vs (k.map keyD) as → as = []
  | [], _, _, r => by cases r; rfl
  | k :: ks, _, _, r => by
    cases r with
    | cons r rs => rw [reads_key r, reads_keys rs]; rfl
def isKeyD (x : PyData) : Prop := (∃ k, x = keyD k) ∨ ∃ k, x = keysD k
theorem reads_isKey {h : Heap} {v : Value} {x : PyData} {as : List Addr} (hk : isKeyD x) (r : Reads h v x as) : as = [] := by
  rcases hk with ⟨k, rfl⟩ | ⟨k, rfl⟩
  · exact reads_key r
  · unfold keysD at r
    cases r with
    | tuple h1 h2 h3 h4 => exact reads_keys h4
theorem pairs_get {prog : Program} {w : World} {κ : Type} [DecidableEq κ] {knd : KeyKind prog w κ} : ∀ {es : List DictEntry} {kvs : List (κ × Value)}, Pairs knd es kvs → ∀ {i : Nat} {en : DictEntry}, es[i]? = some en → ∃ kv, kvs[i]? = some kv ∧ knd.is kv.1 en.key = true
  | _, _, .nil, _, _, e => by simp at e
  | _, _, .cons h _ t, 0, _, e => by simp at e; subst e; exact ⟨_, rfl, h⟩
  | _, _, .cons _ _ t, i + 1, _, e => by
    obtain ⟨kv, h1, h2⟩ := pairs_get t (i := i) (by simpa using e)
    exact ⟨kv, by simpa using h1, h2⟩
/-- the keys as they lie in the entries -/
theorem dictF_raw {K : PySem.W.Frag} {Fz : Addr → Prop} {pins : List (Addr × Obj)} {s : Shared} {σ : L2.St} {H : Hp} {d : Addr} {kvs : List (PyData × PyData)} (I : Inv X pins σ H s) (h : DictF K Fz H d kvs) :
    (d == sysModules) = false ∧ ∃ (es : Array DictEntry) (ep : Nat), s.heap.DictRaw d es ep ∧ es.size = kvs.length ∧ (∀ x ∈ kvs.map (·.1), isKeyD x) ∧ ∀ (i : Nat) (hi : i < es.size) (x : PyData), (kvs.map (·.1))[i]? = some x → ∃ y, RelV y es[i].key ∧ Rp K Fz H y x := by
  rcases h with ⟨o, ks, eh, en⟩ | ⟨o, ks, eh, en⟩
  · obtain ⟨h1, h2, h3, es, ep, vs, h4, h5, kv, o2, es2, g1, g2, g3, g4, g5, g6⟩ := I.frzK eh
    rw [h2] at g1; cases g1
    rw [h4] at g3; cases g3
    refine ⟨h1, es, ep, ⟨o, h2, h3, h4⟩, by rw [h5, en.length], fun x hx => ?_, fun i hi x hx => ?_⟩
    · rw [en.keys] at hx
      obtain ⟨p, _, rfl⟩ := List.mem_map.mp hx
      exact .inl ⟨_, rfl⟩
    · obtain ⟨k, v, e1, rfl⟩ := en.key_get hx
      obtain ⟨u, e2, _⟩ := kv_get kv e1
      have e3 : es.toList[i]? = some es[i] := by rw [Array.getElem?_toList, Array.getElem?_eq_getElem hi]
      obtain ⟨en', e4, e5⟩ := pairs_get g5 e3
      rw [e2] at e4; cases e4
      exact ⟨kV k, relV_key e5, rp_keyD⟩
  · obtain ⟨h1, h2, h3, es, ep, h4, h5, h6⟩ := I.frzT eh
    refine ⟨h1, es, ep, ⟨o, h2, h3, h4⟩, by rw [h5, en.length], fun x hx => ?_, fun i hi x hx => ?_⟩
    · rw [en.keys] at hx
      obtain ⟨p, _, rfl⟩ := List.mem_map.mp hx
      exact .inr ⟨_, rfl⟩
    · obtain ⟨k, v, e1, rfl⟩ := en.key_get hx
      obtain ⟨en', q, e2, e3, e4⟩ := h6 i k v e1
      rw [Array.getElem?_eq_getElem hi] at e2; cases e2
      rw [e3]
      exact ⟨.ref q, rfl, .tup e4 rp_keysAll⟩
def rSortF (K : PySem.W.Frag) : List V → Hp → VK → Prop := fun vs H Q => ∃ (d : Addr) (kvs : List (PyData × PyData)) (Fz : Addr → Prop), vs = [V.ref d] ∧ DictF K Fz H d kvs ∧ SortOk (kvs.map (·.1)) ∧ ∀ (ys : List V) (p : Addr), RpAll K Fz H ys (dsort (kvs.map (·.1))) → H p = none → Q (.ref p) (upd H p (.lst ys))
theorem each_at {K : PySem.W.Frag} {Fz : Addr → Prop} {H : Hp} : ∀ {its : List Value} {ds : List PyData}, its.length = ds.length → (∀ (i : Nat) (v : Value) (x : PyData), its[i]? = some v → ds[i]? = some x → ∃ y, RelV y v ∧ Rp K Fz H y x) → PySem.W.EachIs (fun v d => ∃ y, RelV y v ∧ Rp K Fz H y d) its ds
  | [], [], _, _ => .nil
  | [], _ :: _, h, _ => by simp at h
  | _ :: _, [], h, _ => by simp at h
  | v :: its, x :: ds, h, f => .cons (f 0 v x rfl rfl) (each_at (by simpa using h) fun i u y h1 h2 => f (i + 1) u y (by simpa using h1) (by simpa using h2))
theorem cr_sortF (hc : X.calm = true) (hu : X.A.units + 105 < cLine) : CallR X (.builtin "sorted") (rSortF X.K) := by
  intro pins s σ H vs us Q I r h
  obtain ⟨d, kvs, Fz, rfl, hd, ⟨o1, o2, o3, o4⟩, q⟩ := h
  rw [Vals.ref1 r]
  obtain ⟨lo, es, ep, hraw, hsz, hkey, hent⟩ := dictF_raw I hd
  rw [List.length_map] at o3
  refine Calls.call_function_entry PyProof.Rows.kind_sorted PyProof.Rows.plain_sorted PyProof.Rows.entry_sorted (PyProof.Rows.args_sorted1 _) ?_
  unfold Builtin.«sorted»
  refine wpAny_bind (m := checkCount "sorted" 1 1 _) (wpAny_pure ?_)
  refine wpAny_bind (PySem.W.kdu_collect (A := X.A.in1) (KdlSrc.rawDict (es := es) (ep := ep) lo) (I.ok.hd hc) hraw (by rw [hsz, sizeLine_eq]; omega) fun h' tk acc hk hacc => ?_)
  have hal : acc.toList.length = (kvs.map (·.1)).length := by rw [Array.length_toList, hacc.1, hsz, List.length_map]
  have e1 : PySem.W.EachIs (fun v x => ∃ y, RelV y v ∧ Rp X.K Fz H y x) acc.toList (kvs.map (·.1)) := each_at hal fun i v x h1 h2 => by
    obtain ⟨hi, e⟩ := hacc.2 i v (by rw [← Array.getElem?_toList]; exact h1)
    rw [e]
    exact hent i hi x h2
  have I1 : Inv X pins σ H { s with heap := h', toks := tk } := I.kept hk
  refine wpAny_bind (wpAny_newList ?_ (by rw [hal, List.length_map, sizeLine_eq]; omega))
  have I2 : Inv X pins σ H { s with heap := h'.push { cls := .type "list", data := .seq acc.toList.toArray }, toks := tk } := I1.kept (t' := tk) fun b o e => Heap.get?_push_of_some _ e
  have hoL : (h'.push (seqObj "list" acc.toList.toArray 0)).get? h'.objs.size = some (seqObj "list" acc.toList.toArray 0) := Heap.get?_push_size _ rfl
  show wpAny _ _ _ _ _ { s with heap := h'.push (seqObj "list" acc.toList.toArray 0), toks := tk }
  have e2 : ∀ {its : List Value} {ds : List PyData}, (∀ x ∈ ds, isKeyD x) → PySem.W.EachIs (fun v x => ∃ y, RelV y v ∧ Rp X.K Fz H y x) its ds → PySem.W.EachIs (fun v x => ∃ as, Reads (h'.push (seqObj "list" acc.toList.toArray 0)) v (id x) as ∧ h'.objs.size ∉ as) its ds := by
    intro its ds hk e
    induction e with
    | nil => exact .nil
    | cons r t ih =>
      obtain ⟨y, ry, rp⟩ := r
      obtain ⟨as, rd⟩ := Dp.reads I2 _ y _ rp.dp ry
      refine .cons ⟨as, rd, ?_⟩ (ih fun x hx => hk x (List.mem_cons_of_mem _ hx))
      rw [reads_isKey (hk _ (by simp)) rd]
      exact List.not_mem_nil
  refine wpAny_bind (wpAny_holding (PySem.W.list_sort_data (enc := id) (vs := acc.toList) hoL e1 (e2 hkey e1) (by rwa [List.map_id]) (by rwa [List.map_id]) (by rw [List.length_map, sizeLine_eq]; omega) (fun b hb => by have := depth_mem hb; show X.A.units + 1 + 1 + b.depth < cLine; omega) fun out hlen e3 => ?_))
  obtain ⟨ys, y1, y2⟩ := of_each e3
  obtain ⟨ep', he'⟩ := PyProof.Rows.sortedHeap_at (vs := acc.toList) (out := out.toArray) hoL
  have hyl : ys.length ≤ sizeLine := by rw [y2.length, hlen, List.length_map, sizeLine_eq]; omega
  refine wpAny_pure ⟨_, rfl, .ref h'.objs.size, upd H h'.objs.size (.lst ys), I1.laid (t' := tk) (fun b u e => ?_) (Nat.le_refl _) ⟨hyl, out, ep', y2, by simpa using he'⟩, rfl, q ys _ y1 (I1.hok.fresh (Nat.le_refl _))⟩
  have hb : b < h'.objs.size := Heap.lt_size e
  rw [PyProof.Rows.sortedHeap_old (Nat.ne_of_lt hb) (by rw [size_push']; exact Nat.lt_succ_of_lt hb)]
  exact Heap.get?_push_of_some _ e
open Classical in
noncomputable def eSortF (i : Nat) : Ms → Rz W := fun m => match qdAt i m with
  | some kvs => if SortOk (kvs.map (·.1)) then .ok (.l (dsort (kvs.map (·.1)))) else .st
  | none => .st
theorem de_sortF {y : Str} {p2 : Pos} (i : Nat) (hu : X.A.units + 105 < cLine) (hm : X.mg "sorted" = none) (hN : X.N[i]? = some y := by rfl)
    (hv : Vis X.env.scope y := by first | exact Or.inl rfl | exact Or.inr (Or.inl rfl) | exact Or.inr (Or.inr rfl)) (hd : (y == ("__debug__" : Str)) = false := by decide) (hcd : (y == ("__classdict__" : Str)) = false := by decide) (hc : X.calm = true := by rfl) (hg : Gl X "sorted" := by rfl)
    (h1 : starEach [.Name y p2] X.env = (false, eval (.Name y p2) X.env) :: starEach [] X.env := by rfl) : DE X ct Wx (.Call (.Name "sorted" p) [.Name y p2] [] pos) (eSortF i) :=
  ⟨PE_imp (pe_callB (cr_sortF hc hu) hg hm (by decide +kernel) (pa_cons (pe_var hN hv hd hcd) pa_nil h1) (by decide) (by decide) h1 (by rfl)) fun σ H Q ⟨B, Fz, m, h, q⟩ => by
    unfold eSortF at q
    cases e1 : qdAt i m with
    | none => rw [e1] at q; exact q.elim
    | some kvs =>
      rw [e1] at q
      dsimp only at q
      split at q
      · exact q.elim
      · rename_i w hw
        split at hw
        · rename_i ho
          cases hw
          obtain ⟨a, g1, df⟩ := h.getF e1
          exact ⟨_, g1, a, kvs, Fz, rfl, df, ho, fun ys p hy hp => q _ _ Fz .refl (h.newLst hp hy)⟩
        · cases hw
      · rename_i hw
        split at hw <;> cases hw⟩
end
end Dl
set_option Elab.async false
set_option linter.all false
set_option maxRecDepth 100000
/-! D25: displays, subscripts, targets for data with dicts; name = e[xs.pop()]. -/
namespace Dl
open PySem PySem.Spec PyProof.Rows L2
section
variable {X : Cx} {ct : CT} {Wx : WX} {e e2 a b c tg : Expr} {es : List Expr} {st : Stmt} {p pos : Pos}
theorem dq_tup {es : List Expr} {fs : List (Ms → Rz PyData)} {x1} (h : DAq X ct Wx es fs) (hz : fs.length ≤ 1000 := by decide) : DQ X ct Wx (.Tuple es x1 pos) (eTup fs) := ⟨PE_imp (pe_tup h.pa) fun σ H Q ⟨B, Fz, m, h, q⟩ => by
  unfold eTup at q
  refine tAq_then h ?_
  cases hf : evalAllD fs m with
  | st => rw [hf] at q; exact q
  | ex c => rw [hf] at q; exact q
  | ok xs =>
    intro vs H1 Fz1 x1 h1 l1 s1
    rw [hf] at q
    have z := evalAllD_len hf
    refine ⟨?_, fun p hp => ?_⟩
    · rw [s1.length, z]; exact Nat.le_trans (Nat.le_trans hz (by decide)) sz_le
    · exact q _ _ Fz1 x1 ⟨h1.new hp, .tup upd_same (s1.mono ⟨fun _ x => x, fun a o q _ => same_new hp a o q⟩)⟩⟩
theorem RqAll.get' {K : PySem.W.Frag} {Fz : Addr → Prop} {H : Hp} : ∀ {vs : List V} {ds : List PyData} {i : Nat} {d : PyData}, RqAll K Fz H vs ds → ds[i]? = some d → ∃ v, vs[i]? = some v ∧ Rq K Fz H v d
  | _, _, _, _, .nil, e => by simp at e
  | _, _, 0, _, .cons r _, e => by simp at e; subst e; exact ⟨_, rfl, r⟩
  | _, _, i + 1, _, .cons _ t, e => by
    obtain ⟨v, h1, h2⟩ := RqAll.get' (i := i) t (by simpa using e)
    exact ⟨v, by simpa using h1, h2⟩
theorem RpAll.q {K : PySem.W.Frag} {Fz : Addr → Prop} {H : Hp} : ∀ {vs : List V} {ds : List PyData}, RpAll K Fz H vs ds → RqAll K Fz H vs ds
  | _, _, .nil => .nil
  | _, _, .cons r t => .cons (.pl r) (RpAll.q t)
theorem Rq.tupE {K : PySem.W.Frag} {Fz : Addr → Prop} {H : Hp} {v : V} {xs : List PyData} (h : Rq K Fz H v (.tuple xs)) : ∃ a vs, v = .ref a ∧ SqT K H a vs ∧ RqAll K Fz H vs xs := by
  cases h with
  | pl r =>
    obtain ⟨a, vs, e, h1, h2⟩ := r.tupE
    exact ⟨a, vs, e, h1, RpAll.q h2⟩
  | tup e r => exact ⟨_, _, rfl, .inl (.inl e), r⟩
/-- e[n] -/
def qIx (n : Nat) (f : Ms → Rz PyData) : Ms → Rz PyData := fun m => (f m).bind fun x => match x with
  | .tuple xs => ofO xs[n]?
  | _ => .st
theorem dq_ix {f : Ms → Rz PyData} {n : Nat} {kk} {p2 : Pos} (ha : DQ X ct Wx a f) : DQ X ct Wx (.Subscript a (.Constant (.int (n : Int)) kk p2) pos) (qIx n f) :=
  ⟨PE_imp (pe_ix ix_seq ha.pe pe_int (by exact fun _ _ => rfl)) fun σ H Q ⟨B, Fz, m, h, q⟩ => by
    unfold qIx at q
    refine tQ_then h ?_
    cases hf : f m with
    | st => rw [hf] at q; exact q
    | ex c => rw [hf] at q; exact q
    | ok x =>
      intro v H1 F1 x1 r1 l1 s1
      rw [hf, Rz.bind_ok] at q
      cases x with
      | tuple xs =>
        dsimp only at q
        obtain ⟨a, vs, rfl, h1, h2⟩ := s1.tupE
        cases hx : xs[n]? with
        | none => rw [hx] at q; exact q.elim
        | some y =>
          rw [hx] at q
          obtain ⟨u, h3, h4⟩ := h2.get' hx
          refine .inr (.inl ⟨a, vs, _, u, rfl, rfl, h1, ?_, q u H1 F1 x1 ⟨r1, h4⟩⟩)
          unfold atI ixN
          have hn := (List.getElem?_eq_some_iff.mp h3).1
          rw [if_pos (by omega), if_pos (by omega)]
          simpa using h3
      | _ => exact q.elim⟩
/-! ### targets -/
def gDq (K : PySem.W.Frag) (s : PyData → Ms → Option Ms) : TG := fun v σ H Q => ∃ B Fz m x, Rs K B Fz H σ m ∧ Rq K Fz H v x ∧
  match s x m with
  | some m' => ∀ σ', Rs K B Fz H σ' m' → Q σ' H
  | none => False
structure DGq (X : Cx) (tg : Expr) (s : PyData → Ms → Option Ms) : Prop where
  pg : PG X tg (gDq X.K s)
def gDqs (K : PySem.W.Frag) (s : List PyData → Ms → Option Ms) : TGs := fun v σ H Q => ∃ B Fz m x, Rs K B Fz H σ m ∧ RqAll K Fz H v x ∧
  match s x m with
  | some m' => ∀ σ', Rs K B Fz H σ' m' → Q σ' H
  | none => False
structure DGqs (X : Cx) (ts : List Expr) (s : List PyData → Ms → Option Ms) : Prop where
  pg : PGs X ts (gDqs X.K s)
def gSetQ (i : Nat) : PyData → Ms → Option Ms := fun x m => if i < m.length then some (m.set i (some (qW x))) else none
theorem dgq_name {x : Str} (i : Nat) (hN : X.N.Nodup) (hi : X.N[i]? = some x := by rfl) (hx : Loc X.env.scope x := by first | exact Or.inl rfl | exact Or.inr rfl) (hf : X.fn x = true ∨ X.env.scope.names.lookup x = some .local := by first | exact .inl rfl | exact .inr rfl) :
    DGq X (.Name x pos) (gSetQ i) := ⟨PG_imp (pg_name hN hi hx hf) fun v σ H Q ⟨B, Fz, m, x, h, r, q⟩ => by
  unfold gSetQ at q
  by_cases hl : i < m.length
  · rw [if_pos hl] at q
    exact q _ ((h.pushW r).put i hl)
  · rw [if_neg hl] at q
    exact q.elim⟩
theorem dgqs_nil : DGqs X [] gNil := ⟨PGs_imp pgs_nil fun v σ H Q ⟨B, Fz, m, x, h, r, q⟩ => by
  unfold gNil at q
  cases x with
  | nil => cases r; exact ⟨rfl, q σ h⟩
  | cons _ _ => exact q.elim⟩
theorem dgqs_cons {tg : Expr} {ts : List Expr} {s : PyData → Ms → Option Ms} {t : List PyData → Ms → Option Ms} (h1 : DGq X tg s) (h2 : DGqs X ts t)
    (hs : (assignEach (tg :: ts) X.env).map (·.2) = assign tg X.env :: (assignEach ts X.env).map (·.2) := by rfl) : DGqs X (tg :: ts) (gCons s t) := ⟨PGs_imp (pgs_cons h1.pg h2.pg hs) fun v σ H Q ⟨B, Fz, m, x, h, r, q⟩ => by
  unfold gCons at q
  cases x with
  | nil => exact q.elim
  | cons y ys =>
    cases r with
    | @cons u us _ _ r rs =>
      refine ⟨u, us, rfl, B, Fz, m, y, h, r, ?_⟩
      dsimp only at q
      cases hs : s y m with
      | none => rw [hs] at q; exact q
      | some m' =>
        rw [hs] at q
        intro σ' h'
        refine ⟨B, Fz, m', ys, h', rs, ?_⟩
        cases ht : t ys m' with
        | none => rw [Option.bind_some, ht] at q; exact q
        | some m2 =>
          rw [Option.bind_some, ht] at q
          exact fun σ2 h2 => q σ2 h2⟩
theorem dgq_tup {ts : List Expr} {k : Nat} {t : List PyData → Ms → Option Ms} {n : Nat} (h : DGqs X ts t) (hc : X.calm = true := by rfl) (hn : (assignEach ts X.env).length = n := by rfl)
    (hst : (assignEach ts X.env).findIdx? (·.1) = none := by rfl) : DGq X (.Tuple ts k pos) (gTup' n t) := ⟨PG_imp (pg_tup hc h.pg hn hst) fun v σ H Q ⟨B, Fz, m, x, h, r, q⟩ => by
  unfold gTup' at q
  cases x with
  | tuple xs =>
    dsimp only at q
    obtain ⟨a, us, rfl, s, r⟩ := r.tupE
    by_cases hl : xs.length = n
    · rw [if_pos hl] at q
      exact ⟨a, us, rfl, s, r.length.trans hl, B, Fz, m, xs, h, r, q⟩
    · rw [if_neg hl] at q
      exact q.elim
  | _ => exact q.elim⟩
theorem ds_asgQ {tg : Expr} {s : PyData → Ms → Option Ms} {f : Ms → Rz PyData} (he : DQ X ct Wx e f) (hg : DGq X tg s) (hs : swapsWithSole [tg] e pos.line X.env = pure false := by rfl) (hw : swappedStores [tg] e X.env = pure none := by rfl)
    (h1 : (assignEach [tg] X.env).map (·.2) = [assign tg X.env] := by rfl) : DS X ct Wx (.Assign [tg] e pos) (sAsg f s) :=
  ds_of (ps_asg he.pe hg.pg hs hw h1) fun D σ H B Fz m h q => by
    unfold sAsg at q
    refine tQ_end h q fun x v H' F' hf x1 r p q => ?_
    cases hs : s x m with
    | none => rw [hs] at q; exact q.elim
    | some m' =>
      rw [hs] at q
      exact ⟨B, F', m, x, r, p, by rw [hs]; exact fun σ' r' => q σ' H' F' .refl r'⟩
/-! ### name = e[xs.pop()] -/
def sPopIx (j i : Nat) (f : Ms → Rz PyData) : Ms → Fl := flE f fun x m => match lAt i m with
  | some ys => match ys.getLast? with
    | some (.int k) => match (itemsD x).bind fun xs => atI xs k with
      | some z => if j < m.length then .nx ((m.set i (some (.l ys.dropLast))).set j (some (.d z))) else .st
      | none => .st
    | _ => .st
  | none => .st
theorem ds_popIx {y z : Str} {p2 p3 p4 apos cpos : Pos} {f : Ms → Rz PyData} (j i : Nat) (hN : X.N.Nodup) (he : DV X ct Wx e f) (hNi : X.N[i]? = some y := by rfl) (hNj : X.N[j]? = some z := by rfl)
    (hv : Vis X.env.scope y := by first | exact Or.inl rfl | exact Or.inr (Or.inl rfl) | exact Or.inr (Or.inr rfl)) (hd : (y == ("__debug__" : Str)) = false := by decide) (hcd : (y == ("__classdict__" : Str)) = false := by decide)
    (hbase : attributeBase (.Name y p2) "pop" X.env (eval (.Name y p2) X.env) = eval (.Name y p2) X.env := by rfl) (hline : (apos.endLine == cpos.line) = true := by rfl)
    (hx : Loc X.env.scope z := by first | exact Or.inl rfl | exact Or.inr rfl) (hsl : PlainIx (.Call (.Attribute (.Name y p2) "pop" apos) [] [] cpos) := by exact fun _ _ => rfl)
    (hs : swapsWith (.Subscript e (.Call (.Attribute (.Name y p2) "pop" apos) [] [] cpos) p3) (some (.Name z p4)) pos.line X.env = pure false := by rfl) (hf : X.fn z = true ∨ X.env.scope.names.lookup z = some .local := by first | exact .inl rfl | exact .inr rfl) :
    DS X ct Wx (.Assign [.Name z p4] (.Subscript e (.Call (.Attribute (.Name y p2) "pop" apos) [] [] cpos) p3) pos) (sPopIx j i f) :=
  ds_of (ps_set hN hNj hx (pe_ix ix_seq he.pe (pe_bm0 PySem.F.plainAttrs_list PySem.F.slot_list_pop PySem.F.type_list_pop mt_pop (pe_var hNi hv hd hcd) hbase hline) hsl) hs hf) fun D σ H B Fz m h q => by
    unfold sPopIx at q
    refine tV_then h ?_
    unfold flE at q
    cases hx : f m with
    | st => rw [hx] at q; exact q
    | ex c => rw [hx] at q; exact fun H' F' x r => q σ H' F' x r
    | ok x =>
      rw [hx] at q
      intro v H1 F1 x1 r1 l1 p1
      dsimp only at q
      cases e1 : lAt i m with
      | none => rw [e1] at q; exact q.elim
      | some ys =>
        rw [e1] at q
        dsimp only at q
        obtain ⟨a, vs, g1, g2, g3, gw⟩ := r1.write i (lAt_some e1)
        refine ⟨_, g1, .inl ⟨rfl, vs, .inl (.inl g2)⟩, a, vs, ?_⟩
        split at q
        · rename_i k hk
          rw [List.getLast?_eq_getElem?] at hk
          obtain ⟨u, k1, k2⟩ := g3.get' hk
          cases k2
          split at q
          · rename_i w hw
            obtain ⟨xs, hi, hat⟩ := Option.bind_eq_some_iff.mp hw
            split at q
            · rename_i hj
              refine ⟨.int k, rfl, rfl, g2, by rw [g3.length]; exact k1, ?_⟩
              have dl : RpAll X.K F1 H1 vs.dropLast ys.dropLast := by
                rw [List.dropLast_eq_take, List.dropLast_eq_take, g3.length]
                exact g3.take _
              have r2 := gw _ _ dl
              obtain ⟨_, _, _, _, _, g5, g6⟩ := r1.getL (lAt_some e1)
              have na : ¬ F1 a := by
                obtain ⟨a', _, q1, _, _, _, q2⟩ := r1.getL (lAt_some e1)
                rw [g1] at q1; cases q1
                exact q2
              have l2 := le_own (us := vs.dropLast) g2 na
              have p2' := p1.mono l2
              have fin : ∀ (p : Addr) (us : List V), RpAll X.K F1 (upd H1 a (.lst vs.dropLast)) us xs → ∃ v', atI us k = some v' ∧ D.nx (σ.set j (some v')) (upd H1 a (.lst vs.dropLast)) := fun p us ru => by
                obtain ⟨v', e2, r'⟩ := rp_atI ru hat
                refine ⟨v', e2, q _ _ F1 x1 ?_⟩
                exact Rs.put j (r2.push r') (by simpa using hj)
              cases p2' with
              | lst f' eh ra =>
                cases hi
                obtain ⟨v', e2, nx⟩ := fin 0 _ ra
                exact .inl ⟨_, _, k, v', rfl, rfl, .inl (.inl eh), e2, nx⟩
              | tup eh ra =>
                cases hi
                obtain ⟨v', e2, nx⟩ := fin 0 _ ra
                exact .inr (.inl ⟨_, _, k, v', rfl, rfl, .inl (.inl eh), e2, nx⟩)
              | tupK eh _ ra =>
                cases hi
                obtain ⟨v', e2, nx⟩ := fin 0 _ ra
                exact .inr (.inl ⟨_, _, k, v', rfl, rfl, eh _, e2, nx⟩)
              | _ => cases hi
            · exact q.elim
          · exact q.elim
        · exact q.elim
end
end Dl
set_option Elab.async false
set_option linter.all false
set_option maxRecDepth 100000
/-! D26: several except clauses, the last one perhaps by a name. -/
namespace Dl
open PySem PySem.Spec PyProof.Rows L2
inductive Hm where
  | un (c : Value) (ts : Addr → Value → Option Addr → TS)
  | nm (c : Value) (i : Nat) (ts : Addr → Value → Option Addr → TS)
def mMany (K : PySem.W.Frag) (Wout : WX) (D : Ends) : List Hm → WX
  | [] => Wout
  | .un c ts :: r => fun cl d σ H => ∃ b, PySem.W.exmOne K cl c = some b ∧ (b = true → ∀ a, H a = none → ts a cl d D σ H) ∧ (b = false → mMany K Wout D r cl d σ H)
  | .nm c i ts :: r => fun cl d σ H => ∃ b, PySem.W.exmOne K cl c = some b ∧ (b = true → ∀ a, H a = none → ts a cl d { nx := fun σ' H' => D.nx (σ'.set i none) H', rt := D.rt, bk := fun σ' H' => D.bk (σ'.set i none) H', ct := fun σ' H' => D.ct (σ'.set i none) H' } (σ.set i (some (.ref a))) H) ∧ (b = false → mMany K Wout D r cl d σ H)
inductive HdsMix (X : Cx) : List ExceptHandler → List Hm → Prop
  | nil : HdsMix X [] []
  | last {x n : Str} {c : Value} {i : Nat} {ts : Addr → Value → Option Addr → TS} {b₀ : Stmt} {suite : List Stmt} {np pos' : Pos} (hN : X.N.Nodup) (hi : X.N[i]? = some n) (hln : X.env.kindOf n = some .local) (hc : Names X x c)
      (hsu : ∀ (a : Addr) (oe : Obj) (cl : Value) (d : Option Addr) (pn : List (Addr × Obj)), Zc cl d oe → (∃ vs, oe.data = .fields vs) → PSs (X.suite a ((a, oe) :: pn)) (b₀ :: suite) (ts a cl d)) : HdsMix X [.ExceptHandler (some (.Name x np)) (some n) (b₀ :: suite) pos'] [.nm c i ts]
  | cons {x : Str} {c : Value} {ts : Addr → Value → Option Addr → TS} {b₀ : Stmt} {suite : List Stmt} {np pos' : Pos} {hds : List ExceptHandler} {l : List Hm} (hc : Names X x c)
      (hsu : ∀ (a : Addr) (oe : Obj) (cl : Value) (d : Option Addr) (pn : List (Addr × Obj)), Zc cl d oe → (∃ vs, oe.data = .fields vs) → PSs (X.suite a ((a, oe) :: pn)) (b₀ :: suite) (ts a cl d)) (r : HdsMix X hds l) :
      HdsMix X (.ExceptHandler (some (.Name x np)) none (b₀ :: suite) pos' :: hds) (.un c ts :: l)
section
variable {X : Cx} {body : List Stmt} {h₀ : ExceptHandler} {hds : List ExceptHandler} {l : List Hm} {pos : Pos} {tb : WX → TS} {Wout : WX}
theorem ps_try_mix (hs : X.stack = X.env :: X.outer) (hf : X.env.frame = some X.env.locals) (tk : Takes X Wout)
    (hb : ∀ (W : WX) (pn : List (Addr × Obj)) (xe : Value → Shared → Prop), Takes (X.tr pn xe) W → PassesOwn (model X.prog X.w) X.A X.env xe → PSs (X.tr pn xe) body (tb W))
    (hh : HdsMix X (h₀ :: hds) l) : PS X (.Try body (h₀ :: hds) [] [] pos) (fun D σ H => tb (mMany X.K Wout D l) D σ H) := by
  refine ⟨fun pins s σ H D I h => ?_⟩
  have okI := I.ok
  have hfx : X.A.frames = some (X.env :: X.outer) := by rw [okI.frames, hs]
  refine wpAny_Try_except ?_
  refine wpAny_mono ((hb (mMany X.K Wout D l) (X.pn ++ pins) (fun e s₁ => wpAny (model X.prog X.w) X.A (noteFrame e X.env) (fun _ s₂ => wpAny (model X.prog X.w) X.A (setFlight e none) (fun _ s₃ =>
    wpAny (model X.prog X.w) X.A (handleBy e X.env (h₀ :: hds)) (SP X pins D) X.xe s₃) X.xe s₂) X.xe s₁) (fun u s' xz => ?_) PassesOwn.looking).run [] s σ H D (I.toTry _) h) (fun f s1 hq1 => ?_) (fun e s1 he => he)
  · -- the catch
    obtain ⟨a, B, sa, pins', σ', H', cl, d, rfl, Jz, nb, u0, sk, nn, os, ga, w⟩ := xz
    have Ja : Inv X pins σ' H' sa := Jz.ofTry okI
    have sky' : Sky B (X.env :: X.outer) a (Zc cl d) X.env.locals s'.heap := by rw [← hs]; exact sk
    show wpAny (model X.prog X.w) X.A (noteFrame (.ref a) X.env) _ _ _
    refine Sky.land Zc.steady hfx hf sky' fun h3 fa3 u3 => ?_
    have Jb : Inv X pins σ' H' { s' with heap := h3 } := Ja.landed nb fa3.1 (u0.trans u3) os ga
    obtain ⟨ob3, vb3, hb3, hc3, hx3⟩ := fa3.there
    have notQ : ∀ {h : Heap} {o : Obj} {vs : Array Value}, h.FunFrames B (X.env :: X.outer) → h.get? a = some o → o.data = .fields vs → a ∉ frs (X.env :: X.outer) := fun {h o vs} ff e dd hm => by
      obtain ⟨_, o', e', hnf⟩ := ff.mem hm
      rw [e] at e'; cases e'
      exact hnf _ dd
    have nq := notQ fa3.2.2.1 hb3 hx3
    have nl : a ≠ X.env.locals := fun z => nq (List.mem_filterMap.mpr ⟨X.env, List.mem_cons_self, by rw [hf, z]⟩)
    have nf2 : a ∉ X.fs := fun hm => by
      obtain ⟨e, he, q⟩ := List.mem_filterMap.mp hm
      exact nq (List.mem_filterMap.mpr ⟨e, List.mem_cons_of_mem _ he, q⟩)
    have Sa3 := Jb.suite hb3 hx3 nn nl nf2
    have goH : ∀ {hds' : List ExceptHandler} {l' : List Hm}, HdsMix X hds' l' → mMany X.K Wout D l' cl d σ' H' →
        wpAny (model X.prog X.w) X.A (handleBy (.ref a) X.env hds') (SP X pins D) X.xe { s' with heap := h3 } := by
      intro hds' l' hk
      induction hk with
      | nil =>
        intro w
        refine wpAny_handleBy_nil ?_
        obtain ⟨k1, k2, k3, oe, vs, T, oT, ts', he, hz, hd, h1, hr⟩ := id fa3
        unfold PySem.passOn
        refine wpAny_bind (wpAny_field he hd h1 ?_)
        rw [if_neg (show ¬ ((Value.ref T == Value.none) = true) from by simp)]
        have fin1 : wpAny (model X.prog X.w) X.A (setFlight (.ref a) X.env.frame) (fun _ s4 => wpAny (model X.prog X.w) X.A (throw (.ref a) : Sem Flow) (SP X pins D) X.xe s4) X.xe { s' with heap := h3 } := by
          rw [hf]
          refine HandSPX.setFlight_upZ fa3 fun h4 hh4 u4 => wpAny_throw (tk _ _ ?_)
          exact ⟨a, B, sa, pins, σ', H', cl, d, rfl, Ja, nb, (u0.trans u3).trans u4, .inr (.inr (by rw [hs]; exact hh4)), nn, os, ga, w⟩
        first
          | exact wpAny_bind (wpAny_pure (wpAny_bind fin1))
          | exact wpAny_bind fin1
      | @last x n c i ts b₀ suite np pos' hN hi hln hc hsu =>
        intro w
        have hloc : Loc X.env.scope n := .inl hln
        obtain ⟨b, hbb, hy1, hn1⟩ := w
        refine wpAny_handleBy_cons (codeAny_handlers_test ?_) (by intro q; cases q)
        have Lt : PySem.W.Looks (model X.prog X.w) h3 (typeOf (.ref a)) cl := fun A Q E s k q => wpAny_typeOf_ref (k _ _ hb3) (by rw [hc3.1]; exact q)
        have Lm := PySem.W.exm_one (M := model X.prog X.w) (Jb.kIn) Lt hbb
        have tst : ∀ {Q : Value → Shared → Prop} {E : Value → Shared → Prop}, Q c { s' with heap := h3 } → wpAny (model X.prog X.w) (X.A.mark (some (.ref a))) (eval (.Name x np) X.env) Q E { s' with heap := h3 } := fun {Q E} q => by
          obtain ⟨hg, hdg, hm | ⟨hm, hv, hno1⟩⟩ := hc
          · exact ld_glob (X := X.suite a ((a, ob3) :: (X.pn ++ pins))) Sa3 hg hm q hdg
          · exact ld_blt (X := X.suite a ((a, ob3) :: (X.pn ++ pins))) Sa3 hg hm hv q hno1 hdg
        refine tst (Lm.here ?_)
        cases b with
        | true =>
          refine codeAny_handlers_suite_as ?_
          refine HandSPX.lands_againZ fa3 fun h4 fa4 u4 => ?_
          have Jc : Inv X pins σ' H' { s' with heap := h4 } := Ja.landed nb fa4.1 ((u0.trans u3).trans u4) os ga
          obtain ⟨ob4, vb4, hb4, hc4, hx4⟩ := fa4.there
          have Sa4 := Jc.suite hb4 hx4 nn nl nf2
          refine store_ok (X := X.suite a ((a, ob4) :: (X.pn ++ pins))) (v := .ref a) Sa4 hN hi hloc rfl (fun s5 Sa5 => ?_) (.inr hln)
          refine wpAny_mono ((hsu a ob4 cl d (X.pn ++ pins) hc4 ⟨_, hx4⟩).run [] s5 _ H' _ Sa5 (hy1 rfl a nn)) (fun f se hq1 => ?_) (fun _ _ z => False.elim z)
          have endO : ∀ {σe : L2.St} {He : Hp} {Q : Shared → Prop}, Inv (X.suite a ((a, ob4) :: (X.pn ++ pins))) [] σe He se → (∀ s9, Inv X pins (σe.set i none) He s9 → Q s9) →
              wpAny (model X.prog X.w) X.A (do bindName X.env n .none; unbindBehindTheSuite X.env n pos') (fun _ s9 => Q s9) X.xe se := fun {σe He Q} Sa6 hq => gone_ok (Sa6.unsuite okI) hN hi hln hq
          cases f with
          | next =>
            obtain ⟨σe, He, Sa6, qe⟩ := hq1
            exact endO Sa6 fun s9 J9 => ⟨_, _, J9, qe⟩
          | brk =>
            obtain ⟨σe, He, Sa6, qe⟩ := hq1
            exact endO Sa6 fun s9 J9 => ⟨_, _, J9, qe⟩
          | cont =>
            obtain ⟨σe, He, Sa6, qe⟩ := hq1
            exact endO Sa6 fun s9 J9 => ⟨_, _, J9, qe⟩
          | ret u =>
            obtain ⟨v6, σe, He, Sa6, re, qe⟩ := hq1
            exact endO Sa6 fun s9 J9 => ⟨_, _, _, J9, re, qe⟩
        | false =>
          show wpAny _ X.A (handleBy (.ref a) X.env []) _ _ _
          refine wpAny_handleBy_nil ?_
          obtain ⟨k1, k2, k3, oe, vs, T, oT, ts', he, hz, hd, h1, hr⟩ := id fa3
          unfold PySem.passOn
          refine wpAny_bind (wpAny_field he hd h1 ?_)
          rw [if_neg (show ¬ ((Value.ref T == Value.none) = true) from by simp)]
          have fin1 : wpAny (model X.prog X.w) X.A (setFlight (.ref a) X.env.frame) (fun _ s4 => wpAny (model X.prog X.w) X.A (throw (.ref a) : Sem Flow) (SP X pins D) X.xe s4) X.xe { s' with heap := h3 } := by
            rw [hf]
            refine HandSPX.setFlight_upZ fa3 fun h4 hh4 u4 => wpAny_throw (tk _ _ ?_)
            exact ⟨a, B, sa, pins, σ', H', cl, d, rfl, Ja, nb, (u0.trans u3).trans u4, .inr (.inr (by rw [hs]; exact hh4)), nn, os, ga, hn1 rfl⟩
          first
            | exact wpAny_bind (wpAny_pure (wpAny_bind fin1))
            | exact wpAny_bind fin1
      | @cons x c ts b₀ suite np pos' hds2 l2 hc hsu r iha =>
        intro w
        obtain ⟨b, hbb, hy1, hn1⟩ := w
        refine wpAny_handleBy_cons (codeAny_handlers_test ?_) (by intro q; cases q)
        have Lt : PySem.W.Looks (model X.prog X.w) h3 (typeOf (.ref a)) cl := fun A Q E s k q => wpAny_typeOf_ref (k _ _ hb3) (by rw [hc3.1]; exact q)
        have Lm := PySem.W.exm_one (M := model X.prog X.w) (Jb.kIn) Lt hbb
        have tst : ∀ {Q : Value → Shared → Prop} {E : Value → Shared → Prop}, Q c { s' with heap := h3 } → wpAny (model X.prog X.w) (X.A.mark (some (.ref a))) (eval (.Name x np) X.env) Q E { s' with heap := h3 } := fun {Q E} q => by
          obtain ⟨hg, hdg, hm | ⟨hm, hv, hno1⟩⟩ := hc
          · exact ld_glob (X := X.suite a ((a, ob3) :: (X.pn ++ pins))) Sa3 hg hm q hdg
          · exact ld_blt (X := X.suite a ((a, ob3) :: (X.pn ++ pins))) Sa3 hg hm hv q hno1 hdg
        refine tst (Lm.here ?_)
        cases b with
        | true =>
          refine codeAny_handlers_suite ?_
          refine HandSPX.lands_againZ fa3 fun h4 fa4 u4 => ?_
          have Jc : Inv X pins σ' H' { s' with heap := h4 } := Ja.landed nb fa4.1 ((u0.trans u3).trans u4) os ga
          obtain ⟨ob4, vb4, hb4, hc4, hx4⟩ := fa4.there
          have Sa4 := Jc.suite hb4 hx4 nn nl nf2
          refine wpAny_mono ((hsu a ob4 cl d (X.pn ++ pins) hc4 ⟨_, hx4⟩).run [] _ _ H' _ Sa4 (hy1 rfl a nn)) (fun f se hq1 => ?_) (fun _ _ z => False.elim z)
          cases f with
          | next =>
            obtain ⟨σe, He, Sa6, qe⟩ := hq1
            exact ⟨_, _, Sa6.unsuite okI, qe⟩
          | brk =>
            obtain ⟨σe, He, Sa6, qe⟩ := hq1
            exact ⟨_, _, Sa6.unsuite okI, qe⟩
          | cont =>
            obtain ⟨σe, He, Sa6, qe⟩ := hq1
            exact ⟨_, _, Sa6.unsuite okI, qe⟩
          | ret u =>
            obtain ⟨v6, σe, He, Sa6, re, qe⟩ := hq1
            exact ⟨_, _, _, Sa6.unsuite okI, re, qe⟩
        | false =>
          show wpAny _ X.A (handleBy (.ref a) X.env hds2) _ _ _
          exact iha (hn1 rfl)
    exact goH hh w
  · cases f with
    | next =>
      obtain ⟨σ', H', Jz, q⟩ := hq1
      exact wpAny_execs_nil ⟨σ', H', Jz.ofTry okI, q⟩
    | brk =>
      obtain ⟨σ', H', Jz, q⟩ := hq1
      exact ⟨σ', H', Jz.ofTry okI, q⟩
    | cont =>
      obtain ⟨σ', H', Jz, q⟩ := hq1
      exact ⟨σ', H', Jz.ofTry okI, q⟩
    | ret u =>
      obtain ⟨v, σ', H', Jz, r, q⟩ := hq1
      exact ⟨v, σ', H', Jz.ofTry okI, r, q⟩
end
end Dl
set_option Elab.async false
set_option linter.all false
set_option maxRecDepth 100000
/-! D27: try with several clauses, the last one perhaps by a name; e if isinstance(..) else e; {k: v}. -/
namespace Dl
open PySem PySem.Spec PyProof.Rows L2
section
variable {X : Cx} {ct : CT} {Wx : WX} {x : Str} {p p2 pos pos' : Pos}
theorem dis_if {i : Nat} {c : Expr} {isT : Nat → Option Bool} {s1 s2 : Str} {j1 j2 q1 q2} (h : DIs X ct i c (fun k => (isT k).map .bool)) (he : ∀ (a : Addr) (oe : Obj) (pn : List (Addr × Obj)) whole, isTrue c (X.suite a ((a, oe) :: pn)).env whole = (do let v ← whole; standAt c.pos; holding [v] (truthy v)) := by intros; rfl) :
    DIs X ct i (.IfExp c (.Constant (.str s1) j1 q1) (.Constant (.str s2) j2 q2) pos) (fun k => (isT k).map fun b => .str (if b = true then s1 else s2)) := ⟨fun a oe cls d pn hz hf => PE_imp (pe_ifExp (pt_val (h.pe a oe cls d pn hz hf) (he a oe pn)) pe_str pe_str) fun σ H Q ⟨e1, k, y, u, e2, e3, e4, e5, q⟩ => by
  cases hb : isT k with
  | none => rw [hb] at e4; cases e4
  | some b =>
    rw [hb] at e4
    cases e4
    cases e5
    refine ⟨e1, k, _, _, e2, e3, by rw [hb]; rfl, rfl, b, rfl, ?_⟩
    cases b <;> exact q⟩
/-- the clauses, each with its class -/
inductive Hc where
  | un (c : Value) (p : Nat → Option Bool) (s : Ms → Fl)
  | nm (c : Value) (p : Nat → Option Bool) (i : Nat) (v : Nat → Option PyData)
inductive Hz where
  | un (p : Nat → Option Bool) (s : Ms → Fl)
  | nm (p : Nat → Option Bool) (i : Nat) (v : Nat → Option PyData)
def Hc.z : Hc → Hz
  | .un _ p s => .un p s
  | .nm _ p i v => .nm p i v
def goTryM : List Hz → Nat → Ms → Fl
  | [], c, m => .ex c m
  | .un p s :: r, c, m => match p c with
    | some true => noEx (s m)
    | some false => goTryM r c m
    | none => .st
  | .nm p i v :: r, c, m => match p c with
    | some true => match v c with
      | some y => if i < m.length ∧ (constV y).isSome = true then .rt y else .st
      | none => .st
    | some false => goTryM r c m
    | none => .st
def sTryM (g : Ms → Fl) (hs : List Hz) : Ms → Fl := fun m => match g m with
  | .ex c m' => goTryM hs c m'
  | o => o
inductive DHm (X : Cx) (ct : CT) : List ExceptHandler → List Hc → Prop
  | nil : DHm X ct [] []
  | cons {x : Str} {c : Value} {pt : Nat → Option Bool} {s : Ms → Fl} {b₀ : Stmt} {suite : List Stmt} {np pos' : Pos} {hds : List ExceptHandler} {l : List Hc} (hc : Names X x c)
      (hp : ∀ n b, pt n = some b → PySem.W.exmOne X.K (ct n) c = some b) (hs : ∀ (a : Addr) (oe : Obj) (pn : List (Addr × Obj)), DSs (X.suite a ((a, oe) :: pn)) ct W0 (b₀ :: suite) s) (r : DHm X ct hds l) :
      DHm X ct (.ExceptHandler (some (.Name x np)) none (b₀ :: suite) pos' :: hds) (.un c pt s :: l)
  | last {x n : Str} {c : Value} {pt : Nat → Option Bool} {i : Nat} {v : Nat → Option PyData} {ex : Expr} {np pos' rpos : Pos} (hN : X.N.Nodup) (hc : Names X x c) (hp : ∀ n b, pt n = some b → PySem.W.exmOne X.K (ct n) c = some b)
      (hx : DIs X ct i ex v) (hi : X.N[i]? = some n) (hln : X.env.kindOf n = some .local) : DHm X ct [.ExceptHandler (some (.Name x np)) (some n) [.Return (some ex) rpos] pos'] [.nm c pt i v]
def hmT (K : PySem.W.Frag) (ct : CT) : List Hc → List Hm
  | [] => []
  | .un c _ s :: l => .un c (fun _ _ _ => tS K ct W0 s) :: hmT K ct l
  | .nm c _ i v :: l => .nm c i (fun a cls d D σ H => d = none ∧ ∃ k y u, cls = ct k ∧ σ[i]? = some (some (V.ref a)) ∧ v k = some y ∧ constV y = some u ∧ D.rt u H) :: hmT K ct l
theorem DHm.ok {hds : List ExceptHandler} {l : List Hc} (h : DHm X ct hds l) : HdsMix X hds (hmT X.K ct l) := by
  induction h with
  | nil => exact .nil
  | cons hc hp hs r ih => exact .cons hc (fun a oe cls d pn _ _ => (hs a oe pn).ps) ih
  | last hN hc hp hx hi hln => exact .last hN hi hln hc fun a oe cls d pn hz hf => pss_one (ps_ret (hx.pe a oe cls d pn hz hf))
theorem DHm.many {hds : List ExceptHandler} {l : List Hc} (h : DHm X ct hds l) {c : Nat} {m : Ms} {D : Ends} {σ : L2.St} {H B : Hp} {Fz : Addr → Prop} (r : Rs X.K B Fz H σ m)
    (q : EndS X.K ct Wx B Fz D (goTryM (l.map Hc.z) c m)) : mMany X.K Wx D (hmT X.K ct l) (ct c) none σ H := by
  induction h with
  | nil => exact q σ H Fz .refl r
  | @cons x cv pt s b₀ suite np pos' hds l hc hp hs r' ih =>
    rw [List.map_cons] at q
    unfold Hc.z goTryM at q
    cases hb : pt c with
    | none => rw [hb] at q; exact q.elim
    | some b =>
      rw [hb] at q
      refine ⟨b, hp c b hb, fun e a na => ?_, fun e => ?_⟩
      · subst e
        exact tS_iff.mpr ⟨B, Fz, m, r, noEx_end q⟩
      · subst e
        exact ih q
  | @last x n cv pt i v ex np pos' rpos hN hc hp hx hi hln =>
    rw [List.map_cons, List.map_nil] at q
    unfold Hc.z goTryM at q
    cases hb : pt c with
    | none => rw [hb] at q; exact q.elim
    | some b =>
      rw [hb] at q
      refine ⟨b, hp c b hb, fun e a na => ?_, fun e => ?_⟩
      · subst e
        dsimp only at q
        cases hv : v c with
        | none => rw [hv] at q; exact q.elim
        | some y =>
          rw [hv] at q
          dsimp only at q
          split at q
          · rename_i hl
            have q : ∀ v H' Fz', Ext B Fz Fz' → (∃ σ' m', Rs X.K B Fz' H' σ' m') → Rp X.K Fz' H' v y → D.rt v H' := q
            obtain ⟨hl, hy⟩ := hl
            cases hcu : constV y with
            | none => rw [hcu] at hy; cases hy
            | some u =>
              refine ⟨rfl, c, y, u, rfl, ?_, hv, hcu, q u H Fz .refl ⟨σ, m, r⟩ (constV_rp hcu)⟩
              rw [List.getElem?_set_self (by rw [r.lsz]; exact hl)]
          · exact q.elim
      · subst e
        exact q σ H Fz .refl r
theorem ds_tryM {body : List Stmt} {h₀ : ExceptHandler} {hds : List ExceptHandler} {l : List Hc} {zs : List Hz} {g : Ms → Fl} (tk : Takes X Wx)
    (hb : ∀ (W : WX) (pn : List (Addr × Obj)) (xe : Value → Shared → Prop), Takes (X.tr pn xe) W → PassesOwn (model X.prog X.w) X.A X.env xe → DSs (X.tr pn xe) ct W body g)
    (hh : DHm X ct (h₀ :: hds) l) (hz : l.map Hc.z = zs := by rfl) (hs : X.stack = X.env :: X.outer := by rfl) (hf : X.env.frame = some X.env.locals := by rfl) : DS X ct Wx (.Try body (h₀ :: hds) [] [] pos) (sTryM g zs) := by
  subst hz
  exact ds_of (ps_try_mix (tb := fun W => tS X.K ct W g) hs hf tk (fun W pn xe tk hp => (hb W pn xe tk hp).ps) hh.ok) fun D σ H B Fz m h q => by
    refine tS_iff.mpr ⟨B, Fz, m, h, ?_⟩
    unfold sTryM at q
    cases hg : g m with
    | ex c m' =>
      rw [hg] at q
      exact fun σ' H' F' x r => hh.many r (EndS.ext x q)
    | _ => rw [hg] at q; exact q
/-! ### {k: v}, k an int -/
def eDisp1 (f g : Ms → Rz PyData) : Ms → Rz W := fun m => (f m).bind fun k => (g m).bind fun x => match k with
  | .int i => .ok (.m false [(.int i, x)])
  | _ => .st
theorem de_disp1 {k v : Expr} {f g : Ms → Rz PyData} (hf : DV X ct Wx k f) (hg : DV X ct Wx v g) (hall : ([some k] : List (Option Expr)).all (·.isSome) = true := by rfl) :
    DE X ct Wx (.Dict [some k] [v] pos) (eDisp1 f g) := ⟨PE_imp (pe_disp (pps_cons hf.pe hg.pe pps_nil) hall rfl (by simp) (by simp)) fun σ H Q ⟨B, Fz, m, h, q⟩ p hp => by
  unfold eDisp1 at q
  have h0 : Rs X.K B Fz (upd H p (.dK [])) (some (.ref p) :: σ) (some (.m false []) :: m) := h.newOwn hp (.mK upd_same .nil)
  obtain ⟨B2, r0, hB, hE, hK⟩ := Rs.hold (τ := [some (.ref p)]) (n := [some (.m false [])]) (by simpa using h0) rfl
  have hp0 : B2 p = some (.dK []) ∨ True := .inr trivial
  refine tV_then r0 ?_
  cases hx : f m with
  | st => rw [hx] at q; exact q
  | ex c =>
    rw [hx] at q
    intro H' F' x r
    have z := hK (ρ := []) (r := []) x (by simpa using r) rfl
    exact q H' F' (hE _ x) (by simpa using Rs.pop (by simpa using z.1))
  | ok kd =>
    rw [hx, Rz.bind_ok] at q
    intro u H1 F1 x1 r1 l1 p1
    refine tV_then r1 ?_
    cases hy : g m with
    | st => rw [hy] at q; exact q
    | ex c =>
      rw [hy] at q
      intro H' F' x r
      have z := hK (ρ := []) (r := []) (x1.trans x) (by simpa using r) rfl
      exact q H' F' (hE _ (x1.trans x)) (by simpa using Rs.pop (by simpa using z.1))
    | ok xd =>
      rw [hy, Rz.bind_ok] at q
      intro w H2 F2 x2 r2 l2 p2
      have z := (hK (ρ := []) (r := []) (x1.trans x2) (by simpa using r2) rfl).1
      have z : Rs X.K B F2 H2 (some (.ref p) :: σ) (some (.m false []) :: m) := by simpa using z
      cases kd with
      | int i =>
        obtain ⟨a, o, g1, g2, g3, g4, g5, g6⟩ := z.writeM 0 (T := false) (kvs := []) rfl
        cases g1
        obtain ⟨a', g1', _, hh⟩ := z.getM (i := 0) (T := false) (kvs := []) rfl
        cases g1'
        rcases hh with ⟨_, ks, hd, en⟩ | ⟨hh, _⟩
        · rw [g2] at hd; cases hd
          rcases en.cases with ⟨rfl, _⟩ | ⟨_, _, _, _, _, _, e, _⟩
          · cases p1
            refine ⟨g2, [(.inl i, w)], rfl, by simp, ?_⟩
            have en' : DEnt X.K F2 (upd H2 p (.dK [(Sum.inl i, w)])) keyD [(Sum.inl i, w)] [(.int i, xd)] := DEnt.cons (kd := keyD) (k := .inl i) (p2.mono (le_ownG g2 g3 g4)) .nil
            have := g6 _ _ (.mK upd_same en')
            exact q _ _ F2 (hE _ (x1.trans x2)) this
          · cases e
        · cases hh
      | _ => exact q.elim⟩
end
end Dl
set_option Elab.async false
set_option linter.all false
set_option maxRecDepth 100000
/-! D28: reckoning with the mirror, more. -/
namespace Dl
open PySem PySem.Spec PyProof.Rows L2
section
variable {m : Ms} {f g h : Ms → Rz PyData} {s : Ms → Fl} {i j : Int} {x y z : PyData} {xs ys : List PyData} {n : Nat} {vs : List Nat}
@[simp] theorem wipeM_nil : wipeM m [] = m := rfl
@[simp] theorem wipeM_cons : wipeM m (n :: vs) = (wipeM m vs).set n none := rfl
@[simp] theorem sCut_s : sCut vs s m = match s m with | .nx m' => .nx (wipeM m' vs) | .ct m' => .ct (wipeM m' vs) | .bk m' => .bk (wipeM m' vs) | o => o := by simp only [sCut] <;> cases s m <;> rfl
@[simp] theorem sPre_s : sPre vs s m = s (wipeM m vs) := rfl
@[simp] theorem sGive_s : sGive n s m = s (giveAt n m) := rfl
theorem giveAt_m {T : Bool} {kvs : List (PyData × PyData)} (h : m[n]? = some (some (.m T kvs))) : giveAt n m = m.set n (some (.q (.dict kvs))) := by unfold giveAt; rw [h]
theorem giveAt_no (h : ∀ T kvs, m[n]? ≠ some (some (.m T kvs))) : giveAt n m = m := by
  unfold giveAt
  split
  · rename_i e; exact absurd e (h _ _)
  · rfl
@[simp] theorem eDnew_s {T : Bool} : eDnew T m = .ok (.m T []) := rfl
@[simp] theorem eDisp1_s : eDisp1 f g m = (f m).bind fun k => (g m).bind fun x => match k with | .int i => .ok (.m false [(.int i, x)]) | _ => .st := rfl
@[simp] theorem sDput_s : sDput n g f m = match f m with | .st => .st | .ok x => (match mAt n m with | some (T, kvs) => (match g m with | .st => .st | .ok k => (match dputD T kvs k x with | some kvs' => if kvs.length < 10000000 then .nx (m.set n (some (.m T kvs'))) else .st | none => .st) | .ex c => .ex c m) | none => .st) | .ex c => .ex c m := by
  simp only [sDput, flE]
  cases f m with
  | ok x => dsimp only; cases mAt n m with
    | none => rfl
    | some Tk => obtain ⟨T, k⟩ := Tk; dsimp only; cases g m <;> rfl
  | _ => rfl
@[simp] theorem eDget_s : eDget n g m = match dAt n m with | some (T, kvs) => (g m).bind fun k => (match dgetD T kvs k with | some (some x) => .ok x | _ => .st) | none => .st := by
  simp only [eDget] <;> cases dAt n m <;> rfl
theorem tDin_s {b : Bool} {k : PyData} {T : Bool} {kvs : List (PyData × PyData)} {o : Option PyData} (h1 : g m = .ok k) (h2 : dAt n m = some (T, kvs)) (h3 : dgetD T kvs k = some o) : tDin b n g m = .ok (if b = true then o.isSome else !o.isSome) := by
  unfold tDin
  rw [h1, Rz.bind_ok, h2]
  dsimp only
  rw [h3]
@[simp] theorem vDin_s {b : Bool} : vDin b n g m = (tDin b n g m).map .bool := rfl
@[simp] theorem qVar_s : qVar n m = match m[n]? with | some (some (.q x)) => .ok x | some (some (.d x)) => .ok x | _ => .st := rfl
@[simp] theorem vFnM_s {F : Ms → Rz PyData} {fs : List (Ms → Rz PyData)} : vFnM F fs m = (evalAllD fs m).bind fun xs => F (xs.map fun x => some (qW x)) := rfl
@[simp] theorem sRetQ_s : sRetQ f m = match f m with | .st => .st | .ok x => .rq x | .ex c => .ex c m := by simp only [sRetQ, flE] <;> cases f m <;> rfl
@[simp] theorem fnQ_s {N : Nat} : fnQ N s m = match s (m ++ List.replicate (N - m.length) none) with | .nx _ => .ok .none | .rt x => .ok x | .rq x => .ok x | .ex c _ => .ex c | _ => .st := by simp only [fnQ] <;> cases s (m ++ List.replicate (N - m.length) none) <;> rfl
@[simp] theorem qIx_s : qIx n f m = (f m).bind fun x => match x with | .tuple xs => ofO xs[n]? | _ => .st := rfl
@[simp] theorem gSetQ_s : gSetQ n x m = if n < m.length then some (m.set n (some (qW x))) else none := rfl
@[simp] theorem eSsetG_s : eSsetG f m = (f m).bind fun x => ofO (ssetG x) := rfl
@[simp] theorem eML_s {k : List PyData → PyData → Option Int} : eML k f g m = (f m).bind fun x => match x with | .list ds => (g m).bind fun y => ofO ((k ds y).map fun i => .d (.int i)) | _ => .st := rfl
@[simp] theorem sLput_s : sLput n g f m = match f m with | .st => .st | .ok x => (match lAt n m with | some ys => (match g m with | .st => .st | .ok k => putLK n x ys k m | .ex c => .ex c m) | none => .st) | .ex c => .ex c m := by
  simp only [sLput, putL, flE]
  cases f m with
  | ok x => dsimp only; cases lAt n m with
    | none => rfl
    | some ys => dsimp only; cases g m <;> rfl
  | _ => rfl
@[simp] theorem sLaug_s {o : Int → Int → Int} : sLaug n g o f m = match lAt n m with | some ys => (match g m with | .st => .st | .ok k => augK n o f ys k m | .ex c => .ex c m) | none => .st := by
  simp only [sLaug, flE]
  cases lAt n m with
  | none => rfl
  | some ys => dsimp only; cases g m <;> rfl
@[simp] theorem augK_s {o : Int → Int → Int} : augK n o f ys (.int i) m = match ixN ys.length i with | some j => (match ys[j]? with | some x => (match f m with | .st => .st | .ok y => (match ipD o x y with | some z => .nx (m.set n (some (.l (ys.set j z)))) | none => .st) | .ex c => .ex c m) | none => .st) | none => .st := by
  simp only [augK, flE]
  cases ixN ys.length i with
  | none => rfl
  | some j => dsimp only; cases ys[j]? with
    | none => rfl
    | some x => dsimp only; cases f m <;> rfl
theorem putLK_s {j : Nat} (h : ixN ys.length i = some j) : putLK n x ys (.int i) m = .nx (m.set n (some (.l (ys.set j x)))) := by
  unfold putLK
  dsimp only
  rw [h]
@[simp] theorem sAug_s {o : Int → Int → Int} : sAug n o f m = match vVar n m with | .ok x => (match f m with | .st => .st | .ok y => (match ipD o x y with | some z => if n < m.length then .nx (m.set n (some (.d z))) else .st | none => .st) | .ex c => .ex c m) | _ => .st := by
  simp only [sAug, flE]
  cases vVar n m with
  | ok x => dsimp only; cases f m <;> rfl
  | _ => rfl
@[simp] theorem ipD_i {o : Int → Int → Int} : ipD o (.int i) (.int j) = some (.int (o i j)) := rfl
theorem sTryM_s {hs : List Hz} : sTryM s hs m = match s m with | .ex c m' => goTryM hs c m' | o => o := rfl
theorem ixN_nat {n k : Nat} (h : k < n) : ixN n (k : Int) = some k := by
  unfold ixN
  rw [if_pos (by omega), if_pos (by omega)]
  simp
end
/-! ### comprehensions -/
theorem eLc_s {vs : List Nat} {f : Ms → Rz (List PyData)} {s : PyData → Ms → Option Ms} {t : Ms → Rz Bool} {e : Ms → Rz PyData} {m : Ms} : eLc vs f s t e m = if wipeOk vs m = true then (f m).bind fun xs => (goLc s t e (wipeM m vs) xs).map .l else .st := rfl
theorem goLc_t {s : PyData → Ms → Option Ms} {t : Ms → Rz Bool} {e : Ms → Rz PyData} {m m1 : Ms} {x z : PyData} {r : List PyData} (h1 : s x m = some m1) (h2 : t m1 = .ok true) (h3 : e m1 = .ok z) : goLc s t e m (x :: r) = (goLc s t e m r).map (z :: ·) := by
  rw [goLc, h1]; dsimp only; rw [h2]; dsimp only; rw [h3]
theorem goLc_f {s : PyData → Ms → Option Ms} {t : Ms → Rz Bool} {e : Ms → Rz PyData} {m m1 : Ms} {x : PyData} {r : List PyData} (h1 : s x m = some m1) (h2 : t m1 = .ok false) : goLc s t e m (x :: r) = goLc s t e m r := by
  rw [goLc, h1]; dsimp only; rw [h2]
theorem goLc_nil {s : PyData → Ms → Option Ms} {t : Ms → Rz Bool} {e : Ms → Rz PyData} {m : Ms} : goLc s t e m [] = .ok [] := rfl
/-- each of them -/
theorem lc_map {α : Type} {vs : List Nat} {f : Ms → Rz (List PyData)} {s : PyData → Ms → Option Ms} {e : Ms → Rz PyData} {m : Ms} (ys : List α) (ex : α → PyData) (g : α → PyData) (hw : wipeOk vs m = true) (hf : f m = .ok (ys.map ex))
    (h : ∀ y ∈ ys, ∃ m1, s (ex y) (wipeM m vs) = some m1 ∧ e m1 = .ok (g y)) : eLc vs f s (fun _ => .ok true) e m = .ok (.l (ys.map g)) := by
  refine eLc_ok hw hf ?_
  clear hf
  induction ys with
  | nil => rfl
  | cons y r ih =>
    obtain ⟨m1, h1, h2⟩ := h y (by simp)
    rw [List.map_cons, goLc_t h1 rfl h2, ih fun z hz => h z (List.mem_cons_of_mem _ hz)]
    rfl
theorem lc_fil {α : Type} {vs : List Nat} {f : Ms → Rz (List PyData)} {s : PyData → Ms → Option Ms} {t : Ms → Rz Bool} {e : Ms → Rz PyData} {m : Ms} (ys : List α) (ex : α → PyData) (p : α → Bool) (g : α → PyData) (hw : wipeOk vs m = true) (hf : f m = .ok (ys.map ex))
    (h : ∀ y ∈ ys, ∃ m1, s (ex y) (wipeM m vs) = some m1 ∧ t m1 = .ok (p y) ∧ (p y = true → e m1 = .ok (g y))) : eLc vs f s t e m = .ok (.l ((ys.filter p).map g)) := by
  refine eLc_ok hw hf ?_
  clear hf
  induction ys with
  | nil => rfl
  | cons y r ih =>
    obtain ⟨m1, h1, h2, h3⟩ := h y (by simp)
    have ih' := ih fun z hz => h z (List.mem_cons_of_mem _ hz)
    cases hp : p y with
    | false => rw [List.map_cons, goLc_f h1 (by rw [h2, hp]), List.filter_cons_of_neg (by simp [hp]), ih']
    | true => rw [List.map_cons, goLc_t h1 (by rw [h2, hp]) (h3 hp), List.filter_cons_of_pos hp, ih']; rfl
/-- some values, each with Q -/
theorem lc_ex {vs : List Nat} {f : Ms → Rz (List PyData)} {s : PyData → Ms → Option Ms} {t : Ms → Rz Bool} {e : Ms → Rz PyData} {m : Ms} {xs : List PyData} (Q : PyData → Prop) (hw : wipeOk vs m = true) (hf : f m = .ok xs)
    (h : ∀ x ∈ xs, ∃ m1 b, s x (wipeM m vs) = some m1 ∧ t m1 = .ok b ∧ (b = true → ∃ z, e m1 = .ok z ∧ Q z)) : ∃ L, eLc vs f s t e m = .ok (.l L) ∧ L.length ≤ xs.length ∧ ∀ z ∈ L, Q z := by
  suffices z : ∃ L, goLc s t e (wipeM m vs) xs = .ok L ∧ L.length ≤ xs.length ∧ ∀ z ∈ L, Q z by
    obtain ⟨L, h1, h2⟩ := z
    exact ⟨L, eLc_ok hw hf h1, h2⟩
  clear hf
  induction xs with
  | nil => exact ⟨[], rfl, Nat.le_refl _, fun _ h => absurd h List.not_mem_nil⟩
  | cons x r ih =>
    obtain ⟨m1, b, h1, h2, h3⟩ := h x (by simp)
    obtain ⟨L, h4, h5, h6⟩ := ih fun z hz => h z (List.mem_cons_of_mem _ hz)
    cases b with
    | false => exact ⟨L, (goLc_f h1 h2).trans h4, by rw [List.length_cons]; omega, h6⟩
    | true =>
      obtain ⟨z, h7, h8⟩ := h3 rfl
      refine ⟨z :: L, by rw [goLc_t h1 h2 h7, h4]; rfl, by rw [List.length_cons, List.length_cons]; omega, fun w hw => ?_⟩
      rcases List.mem_cons.mp hw with rfl | hw
      · exact h8
      · exact h6 w hw
/-! ### loops -/
theorem goFor_const {s : PyData → Ms → Option Ms} {b : Ms → Fl} {m : Ms} : ∀ {xs : List PyData}, (∀ x ∈ xs, ∃ m1, s x m = some m1 ∧ b m1 = .nx m) → goFor s b xs m = .nx m
  | [], _ => rfl
  | x :: r, h => by
    obtain ⟨m1, h1, h2⟩ := h x (by simp)
    rw [goFor, h1]
    dsimp only
    rw [h2]
    exact goFor_const fun z hz => h z (List.mem_cons_of_mem _ hz)
theorem goFor_P {s : PyData → Ms → Option Ms} {b : Ms → Fl} (P : Ms → Prop) : ∀ {xs : List PyData} {m : Ms}, P m → (∀ x ∈ xs, ∀ m, P m → ∃ m1, s x m = some m1 ∧ ∃ m2, b m1 = .nx m2 ∧ P m2) → ∃ m', goFor s b xs m = .nx m' ∧ P m'
  | [], m, h, _ => ⟨m, rfl, h⟩
  | x :: r, m, h, st => by
    obtain ⟨m1, h1, m2, h2, h3⟩ := st x (by simp) m h
    obtain ⟨m', h4, h5⟩ := goFor_P P (xs := r) h3 fun y hy => st y (List.mem_cons_of_mem _ hy)
    refine ⟨m', ?_, h5⟩
    rw [goFor, h1]
    dsimp only
    rw [h2]
    exact h4
theorem goWhile_P {t : Ms → Rz Bool} {b : Ms → Fl} (P : Ms → Prop) (μ : Ms → Nat) (st : ∀ m, P m → t m = .ok false ∨ (t m = .ok true ∧ ∃ m2, b m = .nx m2 ∧ P m2 ∧ μ m2 < μ m)) : ∀ (k : Nat) (m : Ms), P m → μ m < k → ∃ m', goWhile t b k m = .nx m' ∧ P m'
  | 0, _, _, h => by omega
  | k + 1, m, hP, h => by
    rcases st m hP with h1 | ⟨h1, m2, h2, h3, h4⟩
    · exact ⟨m, by rw [goWhile, h1], hP⟩
    · obtain ⟨m', h5, h6⟩ := goWhile_P P μ st k m2 h3 (by omega)
      exact ⟨m', by rw [goWhile, h1]; dsimp only; rw [h2]; exact h5, h6⟩
/-! ### rows of ints -/
theorem lt_rowT (xs ys : List Int) : ltD (rowT xs) (rowT ys) = some (decide (xs < ys)) := by
  have h : canLt (rowT xs) (rowT ys) = true := by
    have d := PySem.W.depth_ints xs
    unfold rowT canLt
    simp only [PySem.W.alike, PySem.W.alike_ints, isNoneD, PyData.depth, d, Bool.not_false, Bool.and_true, Bool.true_and, decide_eq_true_eq]
    omega
  unfold ltD
  rw [if_pos h]
  show some (PySem.W.dataLt (.tuple (xs.map .int)) (.tuple (ys.map .int))) = _
  rw [PySem.W.dataLt_tuple]
  exact congrArg some (PySem.W.dataLt_ints xs ys)
theorem code_cons (B d : Int) (r : List Int) : TS.code B (d :: r) = d * B ^ r.length + TS.code B r := rfl
theorem code_lt {B : Int} (hB : 0 < B) : ∀ {r t : List Int}, TS.Bd B r → TS.Bd B t → r.length = t.length → (TS.code B r < TS.code B t ↔ r < t)
  | [], [], _, _, _ => by simp [TS.code]
  | [], _ :: _, _, _, h => by simp at h
  | _ :: _, [], _, _, h => by simp at h
  | d :: r, e :: t, h1, h2, h => by
    have hl : r.length = t.length := by simpa using h
    have b1 : TS.Bd B r := fun m hm => h1 m (List.mem_cons_of_mem _ hm)
    have b2 : TS.Bd B t := fun m hm => h2 m (List.mem_cons_of_mem _ hm)
    have ih := code_lt hB b1 b2 hl
    have c1 := code_bd hB b1
    have c2 := code_bd hB b2
    rw [code_cons, code_cons, List.cons_lt_cons_iff, ← ih, hl]
    rw [hl] at c1
    have hp : 0 < B ^ t.length := Int.pow_pos hB
    constructor
    · intro z
      rcases Int.lt_trichotomy d e with w | w | w
      · exact .inl w
      · subst w; exact .inr ⟨rfl, by omega⟩
      · have : (e + 1) * B ^ t.length ≤ d * B ^ t.length := Int.mul_le_mul_of_nonneg_right (by omega) (by omega)
        rw [Int.add_mul] at this; omega
    · rintro (w | ⟨rfl, w⟩)
      · have : (d + 1) * B ^ t.length ≤ e * B ^ t.length := Int.mul_le_mul_of_nonneg_right (by omega) (by omega)
        rw [Int.add_mul] at this; omega
      · omega
def AllR (B : Int) (d : Nat) (R : List (List Int)) : Prop := ∀ r ∈ R, r.length = d ∧ TS.Bd B r
theorem ssort_iff {d : Nat} {R : List (List Int)} (h : AllR ssetB d R) : R = ssort ssetB R ↔ R.Pairwise (· < ·) := by
  have inj : ∀ x ∈ R, ∀ y ∈ R, TS.code ssetB x = TS.code ssetB y → x = y := fun x hx y hy e => code_inj (by decide) (h x hx).2 (h y hy).2 ((h x hx).1.trans (h y hy).1.symm) e
  constructor
  · intro e
    have p := ssort_pw inj
    rw [← e] at p
    exact p.imp_of_mem fun {a b} ha hb z => (code_lt (by decide) (h a ha).2 (h b hb).2 ((h a ha).1.trans (h b hb).1.symm)).mp z
  · intro p
    refine strict_uniq (f := TS.code ssetB) (p.imp_of_mem fun {a b} ha hb z => (code_lt (by decide) (h a ha).2 (h b hb).2 ((h a ha).1.trans (h b hb).1.symm)).mpr z) (ssort_pw inj) fun z => ssort_mem.symm
theorem rowsD_map' : ∀ R : List (List Int), rowsD (R.map rowT) = some R
  | [] => rfl
  | r :: R => by
    show (intsOf (r.map .int)).bind _ = _
    have : ∀ l : List Int, intsOf (l.map .int) = some l := fun l => by
      induction l with
      | nil => rfl
      | cons a l ih => rw [List.map_cons, intsOf, ih]; rfl
    rw [this, Option.bind_some, rowsD_map' R]; rfl
theorem ssetG_rows {d : Nat} {R : List (List Int)} {x : PyData} (hx : itemsD x = some (R.map rowT)) (hd : 1 ≤ d) (hl : R.length < 64) (h : AllR ssetB d R) : ssetG x = some (.l ((ssort ssetB R).map rowT)) := by
  have hD : ssetD x = some (.l ((ssort ssetB R).map rowT)) := by
    unfold ssetD
    rw [hx, Option.bind_some, rowsD_map', Option.bind_some, if_pos]
    unfold rowsOk
    rw [Bool.and_eq_true, decide_eq_true_eq, List.all_eq_true]
    refine ⟨hl, fun r hr => ?_⟩
    have hd' : (R.headD [0]).length = d := by
      cases R with
      | nil => simp at hr
      | cons y t => exact (h y (by simp)).1
    have z := h r hr
    simp only [Bool.and_eq_true, decide_eq_true_eq, List.all_eq_true]
    exact ⟨⟨by rw [z.1, hd'], by omega⟩, fun m hm => z.2 m hm⟩
  unfold ssetG
  cases R with
  | nil =>
    have : ssetI x = some (.l []) := by
      unfold ssetI
      rw [hx]; rfl
    rw [this]; rfl
  | cons y t =>
    have : ssetI x = none := by
      unfold ssetI
      rw [hx]; rfl
    rw [this, hD]
end Dl
set_option Elab.async false
set_option linter.all false
set_option maxRecDepth 100000
/-! D29: rows of ints and small things for the plain laws. -/
namespace Dl
open PySem PySem.Spec PyProof.Rows L2
theorem eqv_ints : ∀ xs ys : List Int, PyData.eqvAll (xs.map .int) (ys.map .int) = decide (xs = ys)
  | [], [] => by simp [PyData.eqvAll]
  | [], _ :: _ => by simp [PyData.eqvAll]
  | _ :: _, [] => by simp [PyData.eqvAll]
  | x :: xs, y :: ys => by
    simp only [List.map_cons, PyData.eqvAll, PyData.eqv, eqv_ints xs ys]
    by_cases h : x = y <;> by_cases h2 : xs = ys <;> simp [h, h2]
theorem eqv_rows : ∀ xs ys : List (List Int), PyData.eqvAll (xs.map rowT) (ys.map rowT) = decide (xs = ys)
  | [], [] => by simp [PyData.eqvAll]
  | [], _ :: _ => by simp [PyData.eqvAll]
  | _ :: _, [] => by simp [PyData.eqvAll]
  | x :: xs, y :: ys => by
    simp only [List.map_cons, PyData.eqvAll, rowT, PyData.eqv, eqv_ints]
    rw [eqv_rows xs ys]
    by_cases h : x = y <;> by_cases h2 : xs = ys <;> simp [h, h2]
theorem depth_rows : ∀ xs : List (List Int), PyData.depthAll (xs.map rowT) ≤ 1
  | [] => by simp [PyData.depthAll]
  | x :: xs => by
    have h1 := depth_rows xs
    have h2 := PySem.W.depth_ints x
    simp only [List.map_cons, PyData.depthAll, rowT, PyData.depth]
    omega
theorem eq_rows (xs ys : List (List Int)) : eqD (.list (xs.map rowT)) (.list (ys.map rowT)) = some (decide (xs = ys)) := by
  unfold eqD
  have h1 := depth_rows xs
  rw [if_pos (by simp only [PyData.depth]; omega)]
  simp only [PyData.eqv, eqv_rows]
theorem goFor_all {s : PyData → Ms → Option Ms} {b : Ms → Fl} (P : Ms → Prop) (p : PyData → Bool) (r : PyData) : ∀ (xs : List PyData) (m : Ms), P m → (∀ x ∈ xs, ∀ m, P m → ∃ m1, s x m = some m1 ∧ (p x = true → ∃ m2, b m1 = .nx m2 ∧ P m2) ∧ (p x = false → b m1 = .rt r)) →
    (xs.all p = true → ∃ m', goFor s b xs m = .nx m' ∧ P m') ∧ (xs.all p = false → goFor s b xs m = .rt r)
  | [], m, h, _ => ⟨fun _ => ⟨m, rfl, h⟩, fun z => by simp at z⟩
  | x :: t, m, h, st => by
    obtain ⟨m1, h1, h2, h3⟩ := st x (by simp) m h
    cases hp : p x with
    | true =>
      obtain ⟨m2, h4, h5⟩ := h2 hp
      have ih := goFor_all P p r t m2 h5 fun y hy => st y (List.mem_cons_of_mem _ hy)
      have e : goFor s b (x :: t) m = goFor s b t m2 := by
        rw [goFor, h1]
        dsimp only
        rw [h4]
      rw [e, List.all_cons, hp, Bool.true_and]
      exact ih
    | false =>
      refine ⟨fun z => by simp [hp] at z, fun _ => ?_⟩
      rw [goFor, h1]
      dsimp only
      rw [h3 hp]
theorem enumFrom_mem : ∀ {xs : List PyData} {i : Nat} {z : PyData}, z ∈ enumFrom i xs → ∃ j x, xs[j]? = some x ∧ z = .tuple [.int ((i + j : Nat) : Int), x]
  | [], _, z, h => by simp [enumFrom] at h
  | x :: r, i, z, h => by
    rw [enumFrom, List.mem_cons] at h
    rcases h with h | h
    · exact ⟨0, x, rfl, h⟩
    · obtain ⟨j, y, h1, h2⟩ := enumFrom_mem h
      refine ⟨j + 1, y, by simpa using h1, ?_⟩
      rw [h2]
      have : i + 1 + j = i + (j + 1) := by omega
      rw [this]
theorem rngN {n : Nat} (h : n ≤ 1000) : rng1 [.int (n : Nat)] = .ok (rngL 0 n) := by
  have ok : rngOk 0 n = true := by rw [rngOk_iff]; omega
  simp only [rng1, ok, if_true, Int.toNat_natCast]
theorem rngL_mem {n : Nat} {x : PyData} (h : x ∈ rngL 0 n) : ∃ i : Nat, i < n ∧ x = .int (i : Nat) := by
  unfold rngL at h
  obtain ⟨i, hi, rfl⟩ := List.mem_map.mp h
  exact ⟨i, List.mem_range.mp hi, by rw [Int.zero_add]⟩
theorem dropN {α : Type} (xs : List α) (n : Nat) : cutL xs (some (n : Int)) none = xs.drop n := by
  unfold cutL
  rw [show HT.sIx xs.length 0 (some (n : Int)) = min n xs.length from HT.sIx_nat _ _ n, HT.sIx_none]
  by_cases h : n ≤ xs.length
  · rw [Nat.min_eq_left h, List.take_of_length_le (by rw [List.length_drop]; omega)]
  · rw [Nat.min_eq_right (by omega), List.drop_of_length_le (Nat.le_refl _), List.drop_of_length_le (by omega)]
    simp
theorem takeN {α : Type} (xs : List α) (n : Nat) : cutL xs none (some (n : Int)) = xs.take n := by
  unfold cutL
  rw [HT.sIx_none, show HT.sIx xs.length xs.length (some (n : Int)) = min n xs.length from HT.sIx_nat _ _ n]
  by_cases h : n ≤ xs.length
  · rw [Nat.min_eq_left h, List.drop_zero, Nat.sub_zero]
  · rw [Nat.min_eq_right (by omega), List.drop_zero, Nat.sub_zero, List.take_of_length_le (Nat.le_refl _), List.take_of_length_le (by omega)]
theorem cutlen {α : Type} (xs : List α) (lo hi : Option Int) : (cutL xs lo hi).length ≤ xs.length := by
  unfold cutL
  rw [List.length_take, List.length_drop]
  omega
theorem cutL_map {α β : Type} (f : α → β) (xs : List α) (lo hi : Option Int) : cutL (xs.map f) lo hi = (cutL xs lo hi).map f := by
  unfold cutL
  rw [List.length_map, List.map_take, List.map_drop]
theorem seq_nx {s u : Ms → Fl} {m m' : Ms} (h : s m = .nx m') : sSeq s u m = u m' := by rw [sSeq_s, h]
section
variable {s t : Ms → Fl} {u : Ms → Rz Bool} {m m' : Ms} {c N : Nat} {x : PyData} {M : Ms}
theorem sIf_t (h : u m = .ok true) : sIf u s t m = s m := by rw [sIf_s, h]; rfl
theorem sIf_f (h : u m = .ok false) : sIf u s t m = t m := by rw [sIf_s, h]; rfl
theorem seq_ex (h : s m = .ex c m') : sSeq s t m = .ex c m' := by rw [sSeq_s, h]
theorem seq_rt (h : s m = .rt x) : sSeq s t m = .rt x := by rw [sSeq_s, h]
theorem fn_rt (e : m ++ List.replicate (N - m.length) none = M) (h : s M = .rt x) : fnW N s m = .ok x := by rw [fnW_s, e, h]
theorem fn_ex (e : m ++ List.replicate (N - m.length) none = M) (h : s M = .ex c m') : fnW N s m = .ex c := by rw [fnW_s, e, h]
theorem fn_nx (e : m ++ List.replicate (N - m.length) none = M) (h : s M = .nx m') : fnW N s m = .ok .none := by rw [fnW_s, e, h]
theorem cut_nx {vs : List Nat} (h : s m = .nx m') : sCut vs s m = .nx (wipeM m' vs) := by rw [sCut_s, h]
theorem cut_rt {vs : List Nat} (h : s m = .rt x) : sCut vs s m = .rt x := by rw [sCut_s, h]
theorem ret_rt {f : Ms → Rz PyData} (h : f m = .ok x) : sRet f m = .rt x := by rw [sRet_s, h]
theorem expr_nx {f : Ms → Rz PyData} (h : f m = .ok x) : sExpr f m = .nx m := by rw [sExpr_s, h]
theorem expr_ex {f : Ms → Rz PyData} (h : f m = .ex c) : sExpr f m = .ex c m := by rw [sExpr_s, h]
theorem set_nx {f : Ms → Rz W} {i : Nat} {w : W} (h : f m = .ok w) (hi : i < m.length) : sSet i f m = .nx (m.set i (some w)) := by rw [sSet_s, h]; exact if_pos hi
theorem or_f {v : Ms → Rz Bool} (h : u m = .ok false) : tOr' u v m = v m := by rw [tOr_s, h, Rz.bind_ok]; rfl
theorem or_t {v : Ms → Rz Bool} (h : u m = .ok true) : tOr' u v m = .ok true := by rw [tOr_s, h, Rz.bind_ok]; rfl
end
def nn (D : List Int) : Prop := ∀ d ∈ D, 0 ≤ d
structure Drw (E : List Int) : Prop where
  n : 60 ≤ E.length
  p : nn E
theorem at_map {E : List Int} {i : Nat} (h : i < E.length) (p : nn E) : ∃ x, atI (E.map PyData.int) ((i : Nat) : Int) = some (.int x) ∧ 0 ≤ x := by
  refine ⟨E[i], ?_, p _ (List.getElem_mem h)⟩
  rw [atI_nat, List.getElem?_map, List.getElem?_eq_getElem h]
  rfl
theorem len2 {α : Type} {xs : List α} (h : xs.length = 2) : ∃ x y, xs = [x, y] := by
  match xs, h with
  | [x, y], _ => exact ⟨x, y, rfl⟩
theorem len3 {α : Type} {xs : List α} (h : xs.length = 3) : ∃ x y z, xs = [x, y, z] := by
  match xs, h with
  | [x, y, z], _ => exact ⟨x, y, z, rfl⟩
theorem len4 {α : Type} {xs : List α} (h : xs.length = 4) : ∃ x y z w, xs = [x, y, z, w] := by
  match xs, h with
  | [x, y, z, w], _ => exact ⟨x, y, z, w, rfl⟩
def numB (v : PyData) (a b : Int) : Bool := match v with
  | .int i => !decide (i < a) && !decide (b < i)
  | _ => false
theorem numB_int {v : PyData} {a b : Int} (h : numB v a b = true) : ∃ i, v = .int i ∧ a ≤ i ∧ i ≤ b := by
  cases v <;> simp [numB] at h
  exact ⟨_, rfl, h.1, h.2⟩
theorem numB_of {i a b : Int} (h : a ≤ i) (h2 : i ≤ b) : numB (.int i) a b = true := by simp [numB, h, h2]
def isLen (n : Nat) (z : PyData) : Bool := match z with
  | .tuple xs => decide (xs.length = n)
  | _ => false
theorem isLen_eq {n : Nat} {z : PyData} (h : isLen n z = true) : ∃ xs, z = .tuple xs ∧ xs.length = n := by
  cases z with
  | tuple xs => exact ⟨xs, rfl, of_decide_eq_true h⟩
  | _ => cases h
/-! ### rows that ascend -/
def ascR (R : List (List Int)) : Bool := (R.zip R.tail).all fun p => decide (p.1 < p.2)
theorem ascR_iff : ∀ {R : List (List Int)}, ascR R = true ↔ R.Pairwise (· < ·)
  | [] => by simp [ascR]
  | [x] => by simp [ascR]
  | x :: y :: r => by
    have ih := ascR_iff (R := y :: r)
    have e : ascR (x :: y :: r) = (decide (x < y) && ascR (y :: r)) := rfl
    rw [e, Bool.and_eq_true, ih, decide_eq_true_eq]
    constructor
    · rintro ⟨h1, h2⟩
      refine List.pairwise_cons.mpr ⟨fun z hz => ?_, h2⟩
      rcases List.mem_cons.mp hz with rfl | hz
      · exact h1
      · exact List.lt_trans h1 ((List.pairwise_cons.mp h2).1 z hz)
    · intro h
      obtain ⟨h1, h2⟩ := List.pairwise_cons.mp h
      exact ⟨h1 y (by simp), h2⟩
theorem zip_rows : ∀ {R S : List (List Int)}, zipL (R.map rowT) (S.map rowT) = (R.zip S).map fun p => .tuple [rowT p.1, rowT p.2]
  | [], _ => by simp [zipL]
  | _ :: _, [] => by simp [zipL]
  | x :: R, y :: S => by rw [List.map_cons, List.map_cons, zipL, zip_rows]; rfl
theorem drop1 {α : Type} (xs : List α) : cutL xs (some 1) none = xs.tail := by
  rw [show (1 : Int) = ((1 : Nat) : Int) from rfl, dropN, List.drop_one]
theorem rowT_inj {r s : List Int} (h : rowT r = rowT s) : r = s := by
  have : r.map PyData.int = s.map PyData.int := by simpa [rowT] using h
  have e := congrArg intsOf this
  rw [intsOf_map, intsOf_map] at e
  exact Option.some.inj e
theorem sortD_rows {R : List (List Int)} {x : PyData} (hx : itemsD x = some (R.map rowT)) (hd : R.length < 64) (h : ∃ d, 1 ≤ d ∧ AllR ssetB d R) : ∃ S, ssetG x = some (.l (S.map rowT)) ∧ (R = S ↔ ascR R = true) := by
  obtain ⟨d, h1, h2⟩ := h
  exact ⟨_, ssetG_rows hx h1 hd h2, (ssort_iff h2).trans ascR_iff.symm⟩
end Dl
set_option Elab.async false
set_option linter.all false
set_option maxRecDepth 100000
/-! D30: sorted rows, numbered lists. -/
namespace Dl
open PySem PySem.Spec PyProof.Rows L2
def leR (x y : List Int) : Bool := !decide (y < x)
theorem dataLe_rowT (x y : List Int) : PySem.W.dataLe false id (rowT x) (rowT y) = leR x y := by
  show (!PySem.W.dataLt (rowT y) (rowT x)) = _
  unfold leR
  have : PySem.W.dataLt (rowT y) (rowT x) = decide (y < x) := by
    show PySem.W.dataLt (.tuple (y.map .int)) (.tuple (x.map .int)) = _
    rw [PySem.W.dataLt_tuple]
    exact PySem.W.dataLt_ints y x
  rw [this]
theorem dsort_rows (R : List (List Int)) : dsort (R.map rowT) = (R.mergeSort leR).map rowT := by
  unfold dsort
  exact (List.map_mergeSort fun a _ b _ => (dataLe_rowT a b).symm).symm
theorem alike_rowT (x y : List Int) : PySem.W.alike (rowT x) (rowT y) = true := by
  simp only [rowT, PySem.W.alike, PySem.W.alike_ints]
theorem sortD_rowsL {R : List (List Int)} (hl : R.length ≤ 10000000) (hne : ∀ r ∈ R, r ≠ []) : sortD (.list (R.map rowT)) = some (.l ((R.mergeSort leR).map rowT)) := by
  unfold sortD
  dsimp only
  rw [if_pos, dsort_rows]
  refine ⟨.of fun b b' => alike_rowT b b', .inl fun d hd => ?_, by rw [List.length_map]; exact hl, by have := depth_rows R; omega⟩
  obtain ⟨r, hr, rfl⟩ := List.mem_map.mp hd
  cases r with
  | nil => exact absurd rfl (hne _ hr)
  | cons a r => exact ⟨.int a, r.map .int, rfl⟩
def leI (x y : Int) : Bool := decide (x ≤ y)
theorem dsort_ints (l : List Int) : dsort (l.map .int) = (l.mergeSort leI).map .int := by
  unfold dsort
  refine (List.map_mergeSort fun a _ b _ => ?_).symm
  have := congrFun (congrFun (PySem.W.dataLe_int (fun x : Int => x)) a) b
  exact this.symm
theorem sortD_intsL {l : List Int} (hl : l.length ≤ 10000000) : sortD (.list (l.map .int)) = some (.l ((l.mergeSort leI).map .int)) := by
  unfold sortD
  dsimp only
  rw [if_pos, dsort_ints]
  refine ⟨.of fun b b' => by simp [PySem.W.alike], .inr fun d hd => ?_, by rw [List.length_map]; exact hl, by rw [PySem.W.depth_ints]; omega⟩
  obtain ⟨r, hr, rfl⟩ := List.mem_map.mp hd
  exact ⟨by simp, by simp⟩
theorem enum_zip {α : Type} (f : α → PyData) : ∀ (xs : List α) (i : Nat), enumFrom i (xs.map f) = (xs.zipIdx i).map fun p => .tuple [.int ((p.2 : Nat) : Int), f p.1]
  | [], _ => rfl
  | x :: r, i => by rw [List.map_cons, enumFrom, enum_zip f r (i + 1), List.zipIdx_cons, List.map_cons]
/-! ### dicts with pairs of numbers for keys -/
def kvP (M : List ((Nat × Nat) × Int)) : List (PyData × PyData) := M.map fun p => (.tuple [.int p.1.1, .int p.1.2], .int p.2)
theorem kP_eq {a b : Nat} {k : PyData × PyData} {p : (Nat × Nat) × Int} (h : k = (.tuple [.int p.1.1, .int p.1.2], .int p.2)) : (keysOfD k.1 = some [.inl (a : Int), .inl (b : Int)]) ↔ p.1 = (a, b) := by
  subst h
  obtain ⟨⟨x, y⟩, z⟩ := p
  simp only [keysOfD, keysOf, keyOfD, Option.bind_some, Option.map_some, Option.some.injEq, List.cons.injEq, Sum.inl.injEq, and_true, Prod.mk.injEq]
  omega
theorem dputP {M : List ((Nat × Nat) × Int)} {a b : Nat} {x : Int} (h : (a, b) ∉ M.map (·.1)) : dputD true (kvP M) (.tuple [.int (a : Nat), .int (b : Nat)]) (.int x) = some (kvP (M ++ [((a, b), x)])) := by
  unfold dputD
  rw [if_pos rfl]
  show (some [Sum.inl (a : Int), Sum.inl (b : Int)]).map _ = _
  rw [Option.map_some]
  unfold dset
  rw [if_neg]
  · unfold kvP; rw [List.map_append]; rfl
  · rw [Bool.not_eq_true, List.any_eq_false]
    intro k hk
    unfold kvP at hk
    obtain ⟨p, hp, rfl⟩ := List.mem_map.mp hk
    rw [decide_eq_true_eq]
    intro z
    have := (kP_eq (p := p) (a := a) (b := b) rfl).mp z
    exact h (this ▸ List.mem_map_of_mem hp)
theorem dgetP {M : List ((Nat × Nat) × Int)} {a b : Nat} {x : Int} (h : ((a, b), x) ∈ M) (nd : (M.map (·.1)).Nodup) : dgetD true (kvP M) (.tuple [.int (a : Nat), .int (b : Nat)]) = some (some (.int x)) := by
  unfold dgetD
  rw [if_pos rfl]
  show (some [Sum.inl (a : Int), Sum.inl (b : Int)]).map _ = _
  rw [Option.map_some]
  congr 1
  unfold dfind
  induction M with
  | nil => simp at h
  | cons p M ih =>
    rw [List.map_cons, List.nodup_cons] at nd
    unfold kvP
    rw [List.map_cons, List.find?_cons]
    by_cases hp : p.1 = (a, b)
    · have e : p = ((a, b), x) := by
        rcases List.mem_cons.mp h with e | h
        · exact e.symm
        · exact absurd (hp ▸ List.mem_map_of_mem (f := (·.1)) h) nd.1
      rw [decide_eq_true ((kP_eq (p := p) rfl).mpr hp)]
      rw [e]; rfl
    · rw [decide_eq_false fun z => hp ((kP_eq (p := p) rfl).mp z)]
      refine ih ?_ nd.2
      rcases List.mem_cons.mp h with e | h
      · rw [← e] at hp; exact absurd rfl hp
      · exact h
end Dl
set_option Elab.async false
set_option linter.all false
set_option maxRecDepth 100000
/-! D31: t[::2] of a tuple. -/
namespace Dl
open PySem PySem.Spec PyProof.Rows L2
def evens {α : Type} : List α → List α
  | [] => []
  | [a] => [a]
  | a :: _ :: r => a :: evens r
theorem evens_map {α β : Type} (f : α → β) : ∀ l : List α, evens (l.map f) = (evens l).map f
  | [] => rfl
  | [_] => rfl
  | a :: b :: r => by simp only [List.map_cons, evens]; rw [evens_map f r]
theorem evens_len {α : Type} : ∀ l : List α, (evens l).length ≤ l.length
  | [] => Nat.le_refl _
  | [_] => Nat.le_refl _
  | a :: b :: r => by
    have := evens_len r
    simp only [evens, List.length_cons]; omega
theorem evens_sub {α : Type} : ∀ l : List α, (evens l).Sublist l
  | [] => .slnil
  | [_] => List.Sublist.refl _
  | a :: b :: r => .cons_cons a (.cons b (evens_sub r))
theorem pick_ev {α : Type} : ∀ l : List α, (List.range ((l.length + 1) / 2)).filterMap (fun m => l[2 * m]?) = evens l
  | [] => by simp [evens]
  | [a] => by simp [evens, List.range_succ]
  | a :: b :: r => by
    have e : ((a :: b :: r).length + 1) / 2 = (r.length + 1) / 2 + 1 := by simp only [List.length_cons]; omega
    rw [e, List.range_succ_eq_map, List.filterMap_cons, List.filterMap_map]
    show a :: (List.range ((r.length + 1) / 2)).filterMap ((fun m => (a :: b :: r)[2 * m]?) ∘ Nat.succ) = a :: evens r
    rw [← pick_ev r]
    refine congrArg (a :: ·) (filterMap_eq fun m _ => ?_)
    show (a :: b :: r)[2 * (m + 1)]? = _
    rw [show 2 * (m + 1) = 2 * m + 1 + 1 by omega, List.getElem?_cons_succ, List.getElem?_cons_succ]
section
variable {prog : Program} {w : World} {A : Around} {E : Value → Shared → Prop} {s : Shared}
theorem adjust_2 (n : Nat) : Builtin.Slice.sliceAdjust none none 2 (n : Int) = (0, (n : Int)) := by
  unfold Builtin.Slice.sliceAdjust
  have h1 : ¬ ((2 : Int) < 0) := by omega
  simp only [h1, if_false]
  try rfl
theorem places_2 (n : Nat) : Builtin.Slice.slicePlaces 0 (n : Int) 2 = (n + 1) / 2 := by
  unfold Builtin.Slice.slicePlaces
  have h1 : ((2 : Int) > 0) := by omega
  simp only [h1, if_true]
  split <;> simp <;> omega
theorem sliceApplied_2 {sl : Addr} {vl vu vs : Value} {n : Nat} {Q : Int × Int × Nat → Shared → Prop} (hs : s.heap.IsSliceOf sl vl vu vs) (pl : IsPart vl none) (pu : IsPart vu none) (ps : IsPart vs (some 2))
    (h : Q (0, 2, (n + 1) / 2) s) : wpAny (model prog w) A (Builtin.Slice.sliceApplied (.ref sl) (pure (n : Int))) Q E s := by
  obtain ⟨os, hos, hcs, hds⟩ := id hs
  unfold Builtin.Slice.sliceApplied Builtin.Slice.sliceFields
  refine wpAny_bind (wpAny_bind (wpAny_field hos hds (x := vl) rfl (wpAny_bind (wpAny_field hos hds (x := vu) rfl (wpAny_bind (wpAny_field hos hds (x := vs) rfl (wpAny_pure ?_)))))))
  refine wpAny_bind (HT.slicePart_ ps ?_)
  show wpAny _ _ (if ((2 : Int) == 0) = true then _ else _) _ _ s
  rw [if_neg (by decide)]
  refine wpAny_bind (HT.slicePart_ pl (wpAny_bind (HT.slicePart_ pu (wpAny_bind (wpAny_pure ?_)))))
  show wpAny _ _ (match Builtin.Slice.sliceAdjust none none 2 (n : Int) with | (lo, hi) => pure (lo, (2 : Int), Builtin.Slice.slicePlaces lo hi 2)) _ _ s
  rw [adjust_2 n]
  show wpAny _ _ (pure ((0 : Int), (2 : Int), Builtin.Slice.slicePlaces 0 (n : Int) 2)) _ _ s
  rw [places_2]
  exact wpAny_pure h
theorem pick_2 (xs : Array Value) : ((List.range ((xs.size + 1) / 2)).filterMap fun (m : Nat) => xs[((0 : Int) + (m : Int) * 2).toNat]?).toArray = (evens xs.toList).toArray := by
  have h1 : ((List.range ((xs.size + 1) / 2)).filterMap fun (m : Nat) => xs[((0 : Int) + (m : Int) * 2).toNat]?) = (List.range ((xs.toList.length + 1) / 2)).filterMap fun m => xs.toList[2 * m]? := by
    rw [Array.length_toList]
    apply filterMap_eq
    intro m hm
    rw [Array.getElem?_toList]
    congr 1
    omega
  rw [h1, pick_ev]
theorem getItem_tuple_2 {t sl : Addr} {items : Array Value} {vl vu vs : Value} {Q : Value → Shared → Prop} (ht : IsTup s.heap t items) (hs : s.heap.IsSliceOf sl vl vu vs) (pl : IsPart vl none) (pu : IsPart vu none) (ps : IsPart vs (some 2))
    (h : Q (.ref s.heap.objs.size) { s with heap := s.heap.push { cls := .type "tuple", data := .seq (evens items.toList).toArray } }) (hsz : items.size ≤ sizeLine) : wpAny (model prog w) A (getItem (.ref t) (.ref sl)) Q E s := by
  have ok : sizeOk (.seq (evens items.toList).toArray) := by
    show (evens items.toList).toArray.size ≤ sizeLine
    rw [List.size_toArray]
    have := evens_len items.toList
    rw [Array.length_toList] at this
    exact Nat.le_trans this hsz
  obtain ⟨os, hos, hcs, hds⟩ := id hs
  have ty : s.TypeIs (.ref sl) "slice" := ⟨os, hos, hcs⟩
  unfold getItem
  try with_reducible refine wpAny_holding ?_
  first | refine wpAny_bind (wpAny_pure ?_) | skip
  refine wpAny_bind (wpAny_sequenceKey ht.typeIs (by decide) (wpAny_bind (wpAny_callSpecial?_slot (name := Str.ofString "__getitem__") ht.typeIs PyProof.Rows.slot_tuple_getitem (wpAny_call_entry PyProof.Rows.slot_tuple_getitem ht.typeIs entry_tuple_getitem ?_ (args_tuple_getitem _ _)))))
  show wpAny _ _ (Builtin.Tuple.tupleItemsOf (.ref t) >>= _) _ _ s
  refine wpAny_bind (tupleItemsOf_ ht (wpAny_bind (wpAny_typeOf ty ?_)))
  rw [if_pos (by decide)]
  refine wpAny_bind (sliceApplied_2 hs pl pu ps ?_)
  show wpAny _ _ (if ((0 : Int) == 0 && (2 : Int) == 1 && (items.size + 1) / 2 == items.size) = true then _ else _) _ _ s
  rw [if_neg (by simp), pick_2]
  first
    | exact wpAny_bind (m := Builtin.Tuple.tupleExact _) (wpAny_newObj_type (wpAny_pure ⟨_, rfl, wpAny_pure h⟩) ok)
    | exact wpAny_bind (m := Builtin.Tuple.tupleExact _) (wpAny_newObj_type (wpAny_bind (wpAny_pure (wpAny_pure ⟨_, rfl, wpAny_pure h⟩))) ok)
    | exact wpAny_bind (wpAny_bind (m := Builtin.Tuple.tupleExact _) (wpAny_newObj_type (wpAny_pure (wpAny_pure ⟨_, rfl, wpAny_pure h⟩)) ok))
    | exact wpAny_bind (wpAny_bind (m := Builtin.Tuple.tupleExact _) (wpAny_newObj_type (wpAny_pure ⟨_, rfl, wpAny_pure h⟩) ok))
end
theorem vals_evens : ∀ {vs : List V} {its : List Value}, Vals vs its → Vals (evens vs) (evens its)
  | [], [], .nil => .nil
  | [_], [_], .cons a .nil => .cons a .nil
  | _ :: _ :: _, _ :: _ :: _, .cons a (.cons _ r) => .cons a (vals_evens r)
theorem rp_evens {K : PySem.W.Frag} {Fz : Addr → Prop} {H : Hp} : ∀ {vs : List V} {ds : List PyData}, RpAll K Fz H vs ds → RpAll K Fz H (evens vs) (evens ds)
  | [], [], .nil => .nil
  | [_], [_], .cons a .nil => .cons a .nil
  | _ :: _ :: _, _ :: _ :: _, .cons a (.cons _ r) => .cons a (rp_evens r)
section
variable {X : Cx} {ct : CT} {Wx : WX} {e a b : Expr} {p p2 pos pos2 : Pos}
/-- e[::2] -/
def tEvA (K : PySem.W.Frag) (te : TE) : TE := fun σ H Q => te σ H fun x H1 => ∃ a xs, x = .ref a ∧ (SqT K H1 a xs ∧ ∀ p, H1 p = none → Q (.ref p) (upd H1 p (.tup (evens xs))))
theorem pe_evA {te : TE} {k : Nat} {p1 p3 : Pos} (he : PE X e te) : PE X (.Subscript e (.Slice none none (some (.Constant (.int 2) k p1)) p3) pos) (tEvA X.K te) := by
  refine ⟨fun pins s σ H Q I h => ?_⟩
  refine Subscript_ (thn (he.run pins s σ H _ I h) fun v s1 ⟨x, H1, I1, r1, a, xs, ex, q⟩ => ?_)
  subst ex
  cases r1
  refine wpAny_Slice (thn (po_none.run pins s1 σ H1 (fun o H2 => o = none ∧ H2 = H1) I1 ⟨rfl, rfl⟩) fun vl s2 ⟨l, H2, I2, pl, el, e2⟩ => ?_)
  subst el e2
  refine thn (po_none.run pins s2 σ H2 (fun o H3 => o = none ∧ H3 = H2) I2 ⟨rfl, rfl⟩) fun vu s3 ⟨u, H3, I3, pu, eu, e3⟩ => ?_
  subst eu e3
  refine thn ((po_some pe_int).run pins s3 σ H3 (fun o H4 => o = some 2 ∧ H4 = H3) I3 ⟨2, rfl, rfl, rfl⟩) fun vs s4 ⟨o, H4, I4, ps, eo, e4⟩ => ?_
  subst eo e4
  have I5 : Inv X pins σ H4 { s4 with heap := s4.heap.push { cls := .type "slice", data := .fields #[vl, vu, vs] } } := I4.kept (t' := s4.toks) fun b ob q => Heap.get?_push_of_some _ q
  show wpAny (model X.prog X.w) X.A (subscriptTail e (.Slice none none (some (.Constant (.int 2) k p1)) p3) (.ref a) (.ref s4.heap.objs.size)) (EP X pins σ Q) X.xe { s4 with heap := s4.heap.push { cls := .type "slice", data := .fields #[vl, vu, vs] } }
  obtain ⟨hx, q⟩ := q
  obtain ⟨its, r, ht, hz⟩ := I5.tuple hx
  have hlen := r.length
  refine tail_any (ops := [.ref a, .ref s4.heap.objs.size]) ht.typeIs (PyProof.Rows.slot_tuple_getitem.lookup) ?_ (by with_unfolding_all rfl)
  refine getItem_tuple_2 ht (Heap.IsSliceOf.new _ vl vu vs) pl pu ps ?_ (by rw [List.size_toArray]; omega)
  exact ⟨.ref _, _, I5.laid (t' := s4.toks) (o := .tup (evens xs)) (fun b ob q => Heap.get?_push_of_some _ q) (Nat.le_refl _) ⟨Nat.le_trans (evens_len xs) hz, _, vals_evens r, ⟨_, Heap.get?_push_size _ rfl, rfl, _, rfl⟩⟩, rfl, q _ (I5.hok.fresh (Nat.le_refl _))⟩
def evD (x : PyData) : Option W := match x with
  | .tuple xs => some (.d (.tuple (evens xs)))
  | _ => none
def eEv (f : Ms → Rz PyData) : Ms → Rz W := fun m => (f m).bind fun x => ofO (evD x)
theorem de_ev {f : Ms → Rz PyData} {k : Nat} {p1 p3 : Pos} (he : DR X ct Wx e f) : DE X ct Wx (.Subscript e (.Slice none none (some (.Constant (.int 2) k p1)) p3) pos) (eEv f) := ⟨PE_imp (pe_evA he.pe) fun σ H Q ⟨B, Fz, m, h, q⟩ => by
  unfold eEv at q
  refine tR_then h ?_
  cases hf : f m with
  | st => rw [hf] at q; exact q
  | ex c => rw [hf] at q; exact q
  | ok x =>
    intro v H1 F1 x1 r1 l1 s1
    rw [hf, Rz.bind_ok] at q
    have vw := s1.vw r1
    cases x with
    | tuple xs =>
      obtain ⟨a, vs, rfl, h1, h2⟩ := vw.tup
      exact ⟨a, vs, rfl, h1, fun p hp => q _ _ F1 x1 (r1.newTup hp (rp_evens h2))⟩
    | _ => exact q.elim⟩
end
@[simp] theorem eEv_s {f : Ms → Rz PyData} {m : Ms} : eEv f m = (f m).bind fun x => ofO (evD x) := rfl
@[simp] theorem evD_t {xs : List PyData} : evD (.tuple xs) = some (.d (.tuple (evens xs))) := rfl
end Dl
set_option Elab.async false
set_option linter.all false
set_option maxRecDepth 100000
namespace Dl
open PySem PySem.Spec PyProof.Rows L2
/-! printed by gen.py -/
noncomputable section
def topS (i : Nat) : Stmt := PySem.Challenge.pw_bakewright_k54_rows_and_days_of_weeks.main.body.getD i (.Pass ⟨0, 0, 0, 0⟩)
abbrev s__law_draws : Stmt := topS 27
abbrev N__law_draws : List Str := ["script", "many", "draws", "seed", "cell", "k", "number"]
theorem sc__law_draws : FnScope N__law_draws ["script", "many"] (defScope s__law_draws) := ⟨rfl, rfl, rfl, by decide +kernel, rfl, by decide +kernel, by decide +kernel⟩
abbrev s__law_trays : Stmt := topS 28
abbrev N__law_trays : List Str := ["draws", "found", "k", "draw"]
theorem sc__law_trays : FnScope N__law_trays ["draws"] (defScope s__law_trays) := ⟨rfl, rfl, rfl, by decide +kernel, rfl, by decide +kernel, by decide +kernel⟩
abbrev s__law_wishes : Stmt := topS 29
abbrev N__law_wishes : List Str := ["draws", "found", "k", "draw", "pair"]
theorem sc__law_wishes : FnScope N__law_wishes ["draws"] (defScope s__law_wishes) := ⟨rfl, rfl, rfl, by decide +kernel, rfl, by decide +kernel, by decide +kernel⟩
abbrev s_is_whole : Stmt := topS 6
abbrev N_is_whole : List Str := ["value", "least", "most"]
theorem sc_is_whole : FnScope N_is_whole ["value", "least", "most"] (defScope s_is_whole) := ⟨rfl, rfl, rfl, by decide +kernel, rfl, by decide +kernel, by decide +kernel⟩
abbrev s__is_tray : Stmt := topS 14
abbrev N__is_tray : List Str := ["value"]
theorem sc__is_tray : FnScope N__is_tray ["value"] (defScope s__is_tray) := ⟨rfl, rfl, rfl, by decide +kernel, rfl, by decide +kernel, by decide +kernel⟩
abbrev s_ascends : Stmt := topS 7
abbrev N_ascends : List Str := ["values", "one", "later"]
theorem sc_ascends : FnScope N_ascends ["values"] (defScope s_ascends) := ⟨rfl, rfl, rfl, by decide +kernel, rfl, by decide +kernel, by decide +kernel⟩
abbrev s__is_wish : Stmt := topS 15
abbrev N__is_wish : List Str := ["value"]
theorem sc__is_wish : FnScope N__is_wish ["value"] (defScope s__is_wish) := ⟨rfl, rfl, rfl, by decide +kernel, rfl, by decide +kernel, by decide +kernel⟩
abbrev s__check : Stmt := topS 16
abbrev N__check : List Str := ["trays", "wishes", "one"]
theorem sc__check : FnScope N__check ["trays", "wishes"] (defScope s__check) := ⟨rfl, rfl, rfl, by decide +kernel, rfl, by decide +kernel, by decide +kernel⟩
abbrev s__has : Stmt := topS 17
abbrev N__has : List Str := ["tray", "kind", "day"]
theorem sc__has : FnScope N__has ["tray", "kind", "day"] (defScope s__has) := ⟨rfl, rfl, rfl, by decide +kernel, rfl, by decide +kernel, by decide +kernel⟩
abbrev s__given : Stmt := topS 18
abbrev N__given : List Str := ["trays", "wishes", "left", "rows", "lacks", "number", "good", "tray", "kind", "day", "count", "_end", "at", "own"]
theorem sc__given : FnScope N__given ["trays", "wishes"] (defScope s__given) := ⟨rfl, rfl, rfl, by decide +kernel, rfl, by decide +kernel, by decide +kernel⟩
abbrev s__short_days : Stmt := topS 19
abbrev N__short_days : List Str := ["trays", "wishes", "rows", "start", "kind", "found", "waits", "here", "at", "tray", "own", "number"]
theorem sc__short_days : FnScope N__short_days ["trays", "wishes", "rows", "start"] (defScope s__short_days) := ⟨rfl, rfl, rfl, by decide +kernel, rfl, by decide +kernel, by decide +kernel⟩
abbrev s_met : Stmt := topS 20
abbrev N_met : List Str := ["trays", "wishes", "short", "rows", "lacks", "number", "lack", "pair"]
theorem sc_met : FnScope N_met ["trays", "wishes"] (defScope s_met) := ⟨rfl, rfl, rfl, by decide +kernel, rfl, by decide +kernel, by decide +kernel⟩
abbrev s__law_has : Stmt := topS 30
abbrev N__law_has : List Str := ["tray", "wish"]
theorem sc__law_has : FnScope N__law_has ["tray", "wish"] (defScope s__law_has) := ⟨rfl, rfl, rfl, by decide +kernel, rfl, by decide +kernel, by decide +kernel⟩
abbrev s__law_is_number : Stmt := topS 31
abbrev N__law_is_number : List Str := ["value", "least", "most"]
theorem sc__law_is_number : FnScope N__law_is_number ["value", "least", "most"] (defScope s__law_is_number) := ⟨rfl, rfl, rfl, by decide +kernel, rfl, by decide +kernel, by decide +kernel⟩
abbrev s__law_met_due : Stmt := topS 32
abbrev N__law_met_due : List Str := ["trays", "wishes", "value", "wrong", "much", "few", "tray", "wish", "count", "row", "k"]
theorem sc__law_met_due : FnScope N__law_met_due ["trays", "wishes", "value"] (defScope s__law_met_due) := ⟨rfl, rfl, rfl, by decide +kernel, rfl, by decide +kernel, by decide +kernel⟩
abbrev s__are_rows : Stmt := topS 21
abbrev N__are_rows : List Str := ["trays", "wishes", "value", "tray", "wish", "count", "one"]
theorem sc__are_rows : FnScope N__are_rows ["trays", "wishes", "value"] (defScope s__are_rows) := ⟨rfl, rfl, rfl, by decide +kernel, rfl, by decide +kernel, by decide +kernel⟩
abbrev s__fault : Stmt := topS 22
abbrev N__fault : List Str := ["trays", "wishes", "rows", "tray", "wish", "_count", "number", "at", "_wish", "count", "_tray"]
theorem sc__fault : FnScope N__fault ["trays", "wishes", "rows"] (defScope s__fault) := ⟨rfl, rfl, rfl, by decide +kernel, rfl, by decide +kernel, by decide +kernel⟩
abbrev s_met_fault : Stmt := topS 23
abbrev N_met_fault : List Str := ["trays", "wishes", "rows"]
theorem sc_met_fault : FnScope N_met_fault ["trays", "wishes", "rows"] (defScope s_met_fault) := ⟨rfl, rfl, rfl, by decide +kernel, rfl, by decide +kernel, by decide +kernel⟩
abbrev s_left_on : Stmt := topS 25
abbrev N_left_on : List Str := ["trays", "wishes", "rows", "at", "tray", "row"]
theorem sc_left_on : FnScope N_left_on ["trays", "wishes", "rows"] (defScope s_left_on) := ⟨rfl, rfl, rfl, by decide +kernel, rfl, by decide +kernel, by decide +kernel⟩
abbrev s__law_left : Stmt := topS 34
abbrev N__law_left : List Str := ["trays", "wishes", "rows", "e"]
theorem sc__law_left : FnScope N__law_left ["trays", "wishes", "rows"] (defScope s__law_left) := ⟨rfl, rfl, rfl, by decide +kernel, rfl, by decide +kernel, by decide +kernel⟩
abbrev s__law_days_due : Stmt := topS 33
abbrev N__law_days_due : List Str := ["trays", "wishes", "kind", "days", "wished", "there", "wish", "tray", "day"]
theorem sc__law_days_due : FnScope N__law_days_due ["trays", "wishes", "kind", "days"] (defScope s__law_days_due) := ⟨rfl, rfl, rfl, by decide +kernel, rfl, by decide +kernel, by decide +kernel⟩
abbrev s_days_fault : Stmt := topS 24
abbrev N_days_fault : List Str := ["trays", "wishes", "kind", "days", "wished", "there", "tray", "own", "day", "count"]
theorem sc_days_fault : FnScope N_days_fault ["trays", "wishes", "kind", "days"] (defScope s_days_fault) := ⟨rfl, rfl, rfl, by decide +kernel, rfl, by decide +kernel, by decide +kernel⟩
abbrev s_law : Stmt := topS 35
abbrev N_law : List Str := ["script", "draws", "turn", "trays", "wishes", "told", "base", "pairs", "k", "bent", "value", "days", "drawn", "kind", "one", "due", "left", "day", "n", "count", "wish", "row"]
theorem sc_law : FnScope N_law ["script"] (defScope s_law) := ⟨rfl, rfl, rfl, by decide +kernel, rfl, by decide +kernel, by decide +kernel⟩
/-- except BakeError -/
def p_BakeError : Nat → Option Bool
  | 1 => some true
  | 2 => some true
  | 3 => some true
  | _ => none
def i_BadRows : Nat → Option Bool
  | 1 => some false
  | 2 => some false
  | 3 => some true
  | _ => none
/-- what the text gives -/
structure Fx (K : PySem.W.Frag) (mg : Str → Option Value) (ct : CT) : Prop where
  b_abs : mg "abs" = none
  b_all : mg "all" = none
  b_any : mg "any" = none
  b_bool : mg "bool" = none
  b_enumerate : mg "enumerate" = none
  b_int : mg "int" = none
  b_isinstance : mg "isinstance" = none
  b_len : mg "len" = none
  b_list : mg "list" = none
  b_min : mg "min" = none
  b_range : mg "range" = none
  b_set : mg "set" = none
  b_sorted : mg "sorted" = none
  b_sum : mg "sum" = none
  b_tuple : mg "tuple" = none
  b_zip : mg "zip" = none
  g_FORM : GlC K mg "FORM" (.tuple [(.str "form")])
  g_MOST_DAY : GlC K mg "MOST_DAY" (.int 13)
  g_MOST_KIND : GlC K mg "MOST_KIND" (.int 5)
  g_MOST_PIECES : GlC K mg "MOST_PIECES" (.int 50)
  g_MOST_ROWS : GlC K mg "MOST_ROWS" (.int 12)
  d__law_draws : DefD K mg "_law_draws" s__law_draws ["script", "many"]
  d__law_trays : DefD K mg "_law_trays" s__law_trays ["draws"]
  d__law_wishes : DefD K mg "_law_wishes" s__law_wishes ["draws"]
  d_is_whole : DefD K mg "is_whole" s_is_whole ["value", "least", "most"]
  d__is_tray : DefD K mg "_is_tray" s__is_tray ["value"]
  d_ascends : DefD K mg "ascends" s_ascends ["values"]
  d__is_wish : DefD K mg "_is_wish" s__is_wish ["value"]
  d__check : DefD K mg "_check" s__check ["trays", "wishes"]
  d__has : DefD K mg "_has" s__has ["tray", "kind", "day"]
  d__given : DefD K mg "_given" s__given ["trays", "wishes"]
  d__short_days : DefD K mg "_short_days" s__short_days ["trays", "wishes", "rows", "start"]
  d_met : DefD K mg "met" s_met ["trays", "wishes"]
  d__law_has : DefD K mg "_law_has" s__law_has ["tray", "wish"]
  d__law_is_number : DefD K mg "_law_is_number" s__law_is_number ["value", "least", "most"]
  d__law_met_due : DefD K mg "_law_met_due" s__law_met_due ["trays", "wishes", "value"]
  d__are_rows : DefD K mg "_are_rows" s__are_rows ["trays", "wishes", "value"]
  d__fault : DefD K mg "_fault" s__fault ["trays", "wishes", "rows"]
  d_met_fault : DefD K mg "met_fault" s_met_fault ["trays", "wishes", "rows"]
  d_left_on : DefD K mg "left_on" s_left_on ["trays", "wishes", "rows"]
  d__law_left : DefD K mg "_law_left" s__law_left ["trays", "wishes", "rows"]
  d__law_days_due : DefD K mg "_law_days_due" s__law_days_due ["trays", "wishes", "kind", "days"]
  d_days_fault : DefD K mg "days_fault" s_days_fault ["trays", "wishes", "kind", "days"]
  d_law : DefD K mg "law" s_law ["script"]
  x_BadRows : ExcD K mg ct 3 "BadRows"
  x_BadTrays : ExcD K mg ct 1 "BadTrays"
  x_BadWishes : ExcD K mg ct 2 "BadWishes"
  n_BadRows : mg "BadRows" = some (.ref (ctA ct 3))
  n_BakeError : mg "BakeError" = some (.ref (ctA ct 0))
  p_BakeError : ∀ n b, p_BakeError n = some b → PySem.W.exmOne K (ct n) (.ref (ctA ct 0)) = some b
  i_BadRows : ∀ n b, i_BadRows n = some b → ∃ D, ct n = .ref D ∧ ExcC K D ∧ PySem.W.kitOne K (.ref D) (.ref (ctA ct 3)) = some b
section
variable {P : Program} {w : World} {K : PySem.W.Frag} {mg : Str → Option Value} {base : Heap} {ct : CT}
def fb__law_draws_0 : Ms → Fl := (sCut [5] (sIf (t2 gtD (rVar 6) (vC (.int 0)))
  (sSeq
  (sApp 2 (toV (e2 modD (toV (eCall (g1 toIntD) [(rVar 6)])) (vC (.int 1009)))))
  (sSet 6 (ofV (toV (e2 divD (rVar 6) (vC (.int 1009)))))))
  sNil))
def fb__law_draws_1 : Ms → Fl := (sCut [4, 5, 6] (sSeq
  (sSet 6 (ofV (toV (eCall (g1 absD) [(rVar 4)]))))
  (sSeq
  (sSet 3 (ofV (toV (e2 modD (toV (eCall (g1 toIntD) [(toV (e2 addD (toV (e2 addD (toV (e2 mulD (rVar 3) (vC (.int 48271)))) (rVar 6))) (vC (.int 11))))])) (vC (.int 2147483647))))))
  (sCut [5, 6] (sIf (t2 geD (rVar 6) (toV (e2 powD (vC (.int 10)) (vC (.int 18)))))
  (sCut [5, 6] (sPre [0, 4, 5] (sFor (iArg rng1 [(vC (.int 60))]) (gSet 5)
  fb__law_draws_0)))
  (sApp 2 (toV (e2 modD (toV (e2 divD (toV (eCall (g1 toIntD) [(toV (e2 addD (toV (e2 mulD (rVar 3) (vC (.int 16807)))) (vC (.int 5))))])) (vC (.int 3)))) (vC (.int 65521))))))))))
def fb__law_draws_2 : Ms → Fl := (sCut [5] (sIf (t2 ltD (toV (eCall (g1 lenD) [(rVar 2)])) (rVar 1))
  (sSeq
  (sSet 3 (ofV (toV (e2 modD (toV (eCall (g1 toIntD) [(toV (e2 addD (toV (e2 addD (toV (e2 mulD (rVar 3) (vC (.int 69621)))) (rVar 5))) (vC (.int 1))))])) (vC (.int 2147483647))))))
  (sApp 2 (toV (e2 modD (toV (e2 divD (toV (eCall (g1 toIntD) [(rVar 3)])) (vC (.int 7)))) (vC (.int 65521))))))
  sNil))
def b__law_draws : Ms → Fl := (sSeq
  (sSet 2 (eLst []))
  (sSeq
  (sSet 3 (ofV (vC (.int 7))))
  (sSeq
  (sCut [0, 4, 5, 6] (sPre [4, 5, 6] (sFor (iSeq (toV (eScr 0 63))) (gSet 4)
  fb__law_draws_1)))
  (sSeq
  (sCut [3, 5] (sPre [0, 4, 5, 6] (sFor (iArg rng1 [(vVar 1)]) (gSet 5)
  fb__law_draws_2)))
  (sRet (toV (eSl (rVar 2) oNone (oSome (rVar 1)))))))))
abbrev S__law_draws (script_ many_ draws_ seed_ cell_ k_ number_ : Option W := none) : Ms := [script_, many_, draws_, seed_, cell_, k_, number_]
def m__law_draws : Ms → Rz PyData := fnW 7 b__law_draws
set_option maxHeartbeats 8000000 in
theorem ok__law_draws (G : Fx K mg ct) : CallW P w K mg base ct 1 "_law_draws" 2 m__law_draws := callW_of (N := N__law_draws) (n := 7) (g := b__law_draws) G.d__law_draws sc__law_draws rfl rfl fun f cdv A outer s H E hr => by
  have S := sc__law_draws
  have tk : Takes (cxOf (L2.CX P w) P w K mg base N__law_draws "_law_draws" (defScope s__law_draws) f cdv A outer s H E) (fun cls d _ H => E cls d H) := takes_of rfl rfl rfl rfl
  have hp := passes_of (X := cxOf (L2.CX P w) P w K mg base N__law_draws "_law_draws" (defScope s__law_draws) f cdv A outer s H E) rfl
  have hu := room_u hr 101 (by decide)
  have hu64 := room_u hr 64 (by decide)
  have hu105 := room_u hr 105 (by decide)
  exact (ds_cons (ds_set 2 (de_lst da_nil) S.nd)
  (ds_cons (ds_set 3 (DV.toE dv_int) S.nd)
  (ds_cons (ds_cut [0, 4, 5, 6] (ds_pre [4, 5, 6] (ds_for hp (di_seq (DE.v (de_scr 0))) (dg_name 4 S.nd)
  (dss_cut [4, 5, 6] (ds_cons (ds_set 6 (DV.toE (DE.v (de_callB call_abs ok_absD (by decide +kernel) G.b_abs (db_cons (dr_var 4) db_nil)))) S.nd)
  (ds_cons (ds_set 3 (DV.toE (DE.v (de_op op_mod ok_modD (DV.rd (DE.v (de_callTy call_int1 ok_toIntD (by decide +kernel) G.b_int (db_cons (DV.rd (DE.v (de_op op_addD ok_addD (DV.rd (DE.v (de_op op_addD ok_addD (DV.rd (DE.v (de_op op_mulD ok_mulD (dr_var 3) (DV.rd dv_int)))) (dr_var 6)))) (DV.rd dv_int)))) db_nil)))) (DV.rd dv_int)))) S.nd)
  (ds_one (ds_cut [5, 6] (ds_if (dt_cmp (op_geG hu) cmpOk_of (dr_var 6) (DV.rd (DE.v (de_op op_pow ok_powD (DV.rd dv_int) (DV.rd dv_int)))) (by rfl))
  (ds_one (ds_cut [5, 6] (ds_pre [0, 4, 5] (ds_for hp (di_range1 (da_cons dv_int da_nil) G.b_range) (dg_name 5 S.nd)
  (dss_cut [5] (ds_one (ds_if (dt_cmp (op_gtG hu) cmpOk_of (dr_var 6) (DV.rd dv_int) (by rfl))
  (ds_cons (ds_app 2 (da_cons (DE.v (de_op op_mod ok_modD (DV.rd (DE.v (de_callTy call_int1 ok_toIntD (by decide +kernel) G.b_int (db_cons (dr_var 6) db_nil)))) (DV.rd dv_int))) da_nil))
  (ds_one (ds_set 6 (DV.toE (DE.v (de_op op_fdiv ok_divD (dr_var 6) (DV.rd dv_int)))) S.nd)))
  ds_nil)))))))
  (ds_one (ds_app 2 (da_cons (DE.v (de_op op_mod ok_modD (DV.rd (DE.v (de_op op_fdiv ok_divD (DV.rd (DE.v (de_callTy call_int1 ok_toIntD (by decide +kernel) G.b_int (db_cons (DV.rd (DE.v (de_op op_addD ok_addD (DV.rd (DE.v (de_op op_mulD ok_mulD (dr_var 3) (DV.rd dv_int)))) (DV.rd dv_int)))) db_nil)))) (DV.rd dv_int)))) (DV.rd dv_int))) da_nil))))))))))))
  (ds_cons (ds_cut [3, 5] (ds_pre [0, 4, 5, 6] (ds_for hp (di_range1 (da_cons (dv_var 1) da_nil) G.b_range) (dg_name 5 S.nd)
  (dss_cut [5] (ds_one (ds_if (dt_cmp (op_ltG hu) cmpOk_of (DV.rd (DE.v (de_callB call_len ok_lenD (by decide +kernel) G.b_len (db_cons (dr_var 2) db_nil)))) (dr_var 1) (by rfl))
  (ds_cons (ds_set 3 (DV.toE (DE.v (de_op op_mod ok_modD (DV.rd (DE.v (de_callTy call_int1 ok_toIntD (by decide +kernel) G.b_int (db_cons (DV.rd (DE.v (de_op op_addD ok_addD (DV.rd (DE.v (de_op op_addD ok_addD (DV.rd (DE.v (de_op op_mulD ok_mulD (dr_var 3) (DV.rd dv_int)))) (dr_var 5)))) (DV.rd dv_int)))) db_nil)))) (DV.rd dv_int)))) S.nd)
  (ds_one (ds_app 2 (da_cons (DE.v (de_op op_mod ok_modD (DV.rd (DE.v (de_op op_fdiv ok_divD (DV.rd (DE.v (de_callTy call_int1 ok_toIntD (by decide +kernel) G.b_int (db_cons (dr_var 3) db_nil)))) (DV.rd dv_int)))) (DV.rd dv_int))) da_nil))))
  ds_nil))))))
  (ds_one (ds_ret (DE.v (de_sl (dr_var 2) do_none (do_some (dr_var 1))))))))))
def fb__law_trays_0 : Ms → Fl := (sCut [2, 3] (sSeq
  (sSet 3 (ofV (toV (eCall (g1 toIntD) [(toV (e2 ixD (rVar 0) (toV (e2 addD (vC (.int 1)) (rVar 2)))))]))))
  (sApp 1 (eTup [(toV (e2 modD (rVar 3) (vC (.int 2)))), (toV (e2 modD (toV (e2 divD (rVar 3) (vC (.int 2)))) (vC (.int 7)))), (toV (e2 modD (toV (e2 divD (rVar 3) (vC (.int 16)))) (vC (.int 4)))), (toV (e2 addD (vC (.int 1)) (toV (e2 modD (toV (e2 divD (rVar 3) (vC (.int 64)))) (vC (.int 6))))))]))))
def b__law_trays : Ms → Fl := (sSeq
  (sSet 1 (eLst []))
  (sSeq
  (sCut [0, 2, 3] (sPre [2, 3] (sFor (iArg rng1 [(toV (e2 modD (toV (eCall (g1 toIntD) [(toV (e2 ixD (rVar 0) (vC (.int 0))))])) (vC (.int 7))))]) (gSet 2)
  fb__law_trays_0)))
  (sRet (toV (eCall (g1 tupleD) [(toV (eSsetG (rVar 1)))])))))
abbrev S__law_trays (draws_ found_ k_ draw_ : Option W := none) : Ms := [draws_, found_, k_, draw_]
def m__law_trays : Ms → Rz PyData := fnW 4 b__law_trays
set_option maxHeartbeats 8000000 in
theorem ok__law_trays (G : Fx K mg ct) : CallW P w K mg base ct 1 "_law_trays" 1 m__law_trays := callW_of (N := N__law_trays) (n := 4) (g := b__law_trays) G.d__law_trays sc__law_trays rfl rfl fun f cdv A outer s H E hr => by
  have S := sc__law_trays
  have tk : Takes (cxOf (L2.CX P w) P w K mg base N__law_trays "_law_trays" (defScope s__law_trays) f cdv A outer s H E) (fun cls d _ H => E cls d H) := takes_of rfl rfl rfl rfl
  have hp := passes_of (X := cxOf (L2.CX P w) P w K mg base N__law_trays "_law_trays" (defScope s__law_trays) f cdv A outer s H E) rfl
  have hu := room_u hr 101 (by decide)
  have hu64 := room_u hr 64 (by decide)
  have hu105 := room_u hr 105 (by decide)
  exact (ds_cons (ds_set 1 (de_lst da_nil) S.nd)
  (ds_cons (ds_cut [0, 2, 3] (ds_pre [2, 3] (ds_for hp (di_range1 (da_cons (DE.v (de_op op_mod ok_modD (DV.rd (DE.v (de_callTy call_int1 ok_toIntD (by decide +kernel) G.b_int (db_cons (DV.rd (DE.v (de_ix (dr_var 0) (DV.rd dv_int)))) db_nil)))) (DV.rd dv_int))) da_nil) G.b_range) (dg_name 2 S.nd)
  (dss_cut [2, 3] (ds_cons (ds_set 3 (DV.toE (DE.v (de_callTy call_int1 ok_toIntD (by decide +kernel) G.b_int (db_cons (DV.rd (DE.v (de_ix (dr_var 0) (DV.rd (DE.v (de_op op_addD ok_addD (DV.rd dv_int) (dr_var 2))))))) db_nil)))) S.nd)
  (ds_one (ds_app 1 (da_cons (dv_tup (da_cons (DE.v (de_op op_mod ok_modD (dr_var 3) (DV.rd dv_int))) (da_cons (DE.v (de_op op_mod ok_modD (DV.rd (DE.v (de_op op_fdiv ok_divD (dr_var 3) (DV.rd dv_int)))) (DV.rd dv_int))) (da_cons (DE.v (de_op op_mod ok_modD (DV.rd (DE.v (de_op op_fdiv ok_divD (dr_var 3) (DV.rd dv_int)))) (DV.rd dv_int))) (da_cons (DE.v (de_op op_addD ok_addD (DV.rd dv_int) (DV.rd (DE.v (de_op op_mod ok_modD (DV.rd (DE.v (de_op op_fdiv ok_divD (dr_var 3) (DV.rd dv_int)))) (DV.rd dv_int)))))) da_nil))))) da_nil))))))))
  (ds_one (ds_ret (DE.v (de_callTy call_tuple_of ok_tupleD (by decide +kernel) G.b_tuple (db_cons (DV.rd (DE.v (de_ssetG hu64 (dr_var 1) G.b_sorted G.b_set))) db_nil)))))))
def fb__law_wishes_0 : Ms → Fl := (sCut [2, 3] (sSeq
  (sSet 3 (ofV (toV (eCall (g1 toIntD) [(toV (e2 ixD (rVar 0) (toV (e2 addD (vC (.int 1)) (rVar 2)))))]))))
  (sDput 1 (eTup [(toV (e2 modD (rVar 3) (vC (.int 2)))), (toV (e2 modD (toV (e2 divD (rVar 3) (vC (.int 2)))) (vC (.int 8))))]) (toV (e2 addD (vC (.int 1)) (toV (e2 modD (toV (e2 divD (rVar 3) (vC (.int 16)))) (vC (.int 5)))))))))
def lc__law_wishes_1 : Ms → Rz W := (eLc [4] (iSeq (toV (eSortF 1))) (gSet 4) (fun _ => .ok true) (toV (e2 addD (rVar 4) (eTup [(eDget 1 (vVar 4))]))))
def b__law_wishes : Ms → Fl := (sSeq
  (sSet 1 (eDnew true))
  (sSeq
  (sCut [0, 2, 3] (sPre [2, 3] (sFor (iArg rng1 [(toV (e2 modD (toV (eCall (g1 toIntD) [(toV (e2 ixD (rVar 0) (vC (.int 0))))])) (vC (.int 7))))]) (gSet 2)
  fb__law_wishes_0)))
  (sGive 1 (sRet (toV (eCall (g1 tupleD) [(toV lc__law_wishes_1)]))))))
abbrev S__law_wishes (draws_ found_ k_ draw_ pair_ : Option W := none) : Ms := [draws_, found_, k_, draw_, pair_]
def m__law_wishes : Ms → Rz PyData := fnW 5 b__law_wishes
set_option maxHeartbeats 8000000 in
theorem ok__law_wishes (G : Fx K mg ct) : CallW P w K mg base ct 1 "_law_wishes" 1 m__law_wishes := callW_of (N := N__law_wishes) (n := 5) (g := b__law_wishes) G.d__law_wishes sc__law_wishes rfl rfl fun f cdv A outer s H E hr => by
  have S := sc__law_wishes
  have tk : Takes (cxOf (L2.CX P w) P w K mg base N__law_wishes "_law_wishes" (defScope s__law_wishes) f cdv A outer s H E) (fun cls d _ H => E cls d H) := takes_of rfl rfl rfl rfl
  have hp := passes_of (X := cxOf (L2.CX P w) P w K mg base N__law_wishes "_law_wishes" (defScope s__law_wishes) f cdv A outer s H E) rfl
  have hu := room_u hr 101 (by decide)
  have hu64 := room_u hr 64 (by decide)
  have hu105 := room_u hr 105 (by decide)
  exact (ds_cons (ds_set 1 de_dnewT S.nd)
  (ds_cons (ds_cut [0, 2, 3] (ds_pre [2, 3] (ds_for hp (di_range1 (da_cons (DE.v (de_op op_mod ok_modD (DV.rd (DE.v (de_callTy call_int1 ok_toIntD (by decide +kernel) G.b_int (db_cons (DV.rd (DE.v (de_ix (dr_var 0) (DV.rd dv_int)))) db_nil)))) (DV.rd dv_int))) da_nil) G.b_range) (dg_name 2 S.nd)
  (dss_cut [2, 3] (ds_cons (ds_set 3 (DV.toE (DE.v (de_callTy call_int1 ok_toIntD (by decide +kernel) G.b_int (db_cons (DV.rd (DE.v (de_ix (dr_var 0) (DV.rd (DE.v (de_op op_addD ok_addD (DV.rd dv_int) (dr_var 2))))))) db_nil)))) S.nd)
  (ds_one (ds_dput 1 hu105 (DE.v (de_op op_addD ok_addD (DV.rd dv_int) (DV.rd (DE.v (de_op op_mod ok_modD (DV.rd (DE.v (de_op op_fdiv ok_divD (dr_var 3) (DV.rd dv_int)))) (DV.rd dv_int)))))) (dv_tup (da_cons (DE.v (de_op op_mod ok_modD (dr_var 3) (DV.rd dv_int))) (da_cons (DE.v (de_op op_mod ok_modD (DV.rd (DE.v (de_op op_fdiv ok_divD (dr_var 3) (DV.rd dv_int)))) (DV.rd dv_int))) da_nil))))))))))
  (ds_one (ds_give 1 (ds_ret (DE.v (de_callTy call_tuple_of ok_tupleD (by decide +kernel) G.b_tuple (db_cons (DV.rd (DE.v (de_lc S.nd (di_seq (DE.v (de_sortF 1 hu105 G.b_sorted))) (blkOk_by (own := [("pair", 4)]) (by rfl)) (fun _ _ _ _ _ => (dg_name 4 S.nd)) (fun _ _ _ _ _ => dts_nil) (fun _ _ _ _ _ => (DE.v (de_op op_addD ok_addD (dr_var 4) (DV.rd (dv_tup (da_cons (dv_dget 1 hu105 (dv_var 4)) da_nil))))))))) db_nil))))))))
def b_is_whole : Ms → Fl := (sRet (vAnd (vIsi isInt (rVar 0)) (vAnd (vNot (vIsi isBool (rVar 0))) (v3 leD leD (rVar 1) (rVar 0) (rVar 2)))))
abbrev S_is_whole (value_ least_ most_ : Option W := none) : Ms := [value_, least_, most_]
def m_is_whole : Ms → Rz PyData := fnW 3 b_is_whole
set_option maxHeartbeats 8000000 in
theorem ok_is_whole (G : Fx K mg ct) : CallW P w K mg base ct 1 "is_whole" 3 m_is_whole := callW_of (N := N_is_whole) (n := 3) (g := b_is_whole) G.d_is_whole sc_is_whole rfl rfl fun f cdv A outer s H E hr => by
  have S := sc_is_whole
  have tk : Takes (cxOf (L2.CX P w) P w K mg base N_is_whole "is_whole" (defScope s_is_whole) f cdv A outer s H E) (fun cls d _ H => E cls d H) := takes_of rfl rfl rfl rfl
  have hp := passes_of (X := cxOf (L2.CX P w) P w K mg base N_is_whole "is_whole" (defScope s_is_whole) f cdv A outer s H E) rfl
  have hu := room_u hr 101 (by decide)
  have hu64 := room_u hr 64 (by decide)
  have hu105 := room_u hr 105 (by decide)
  exact (ds_one (ds_ret (dv_and (dv_isi isi_int (by decide +kernel) G.b_int G.b_isinstance (dr_var 0)) (dv_and (dv_not (dv_isi isi_bool (by decide +kernel) G.b_bool G.b_isinstance (dr_var 0))) (dv_one (dv_chain (op_leG hu) (op_leG hu) cmpOk_of cmpOk_of (dr_var 1) (dr_var 0) (dr_var 2)))))))
def b__is_tray : Ms → Fl := (sSeq
  (sIf (tOr' (tNot' (tV' (vIsi isTup (rVar 0)))) (tOr' (t2 neD (toV (eCall (g1 lenD) [(rVar 0)])) (vC (.int 4))) (tNot' (tV' (vFn m_is_whole [(toV (e2 ixD (rVar 0) (vC (.int 0)))), (vC (.int 0)), (vC (.int 5))])))))
  (sRet (vC (.bool false)))
  sNil)
  (sRet (vAnd (vFn m_is_whole [(toV (e2 ixD (rVar 0) (vC (.int 1)))), (vC (.int 0)), (vC (.int 13))]) (vAnd (vFn m_is_whole [(toV (e2 ixD (rVar 0) (vC (.int 2)))), (vC (.int 0)), (vC (.int 13))]) (vFn m_is_whole [(toV (e2 ixD (rVar 0) (vC (.int 3)))), (vC (.int 1)), (vC (.int 50))])))))
abbrev S__is_tray (value_ : Option W := none) : Ms := [value_]
def m__is_tray : Ms → Rz PyData := fnW 1 b__is_tray
set_option maxHeartbeats 8000000 in
theorem ok__is_tray (G : Fx K mg ct) : CallW P w K mg base ct 2 "_is_tray" 1 m__is_tray := callW_of (N := N__is_tray) (n := 1) (g := b__is_tray) G.d__is_tray sc__is_tray rfl rfl fun f cdv A outer s H E hr => by
  have S := sc__is_tray
  have tk : Takes (cxOf (L2.CX P w) P w K mg base N__is_tray "_is_tray" (defScope s__is_tray) f cdv A outer s H E) (fun cls d _ H => E cls d H) := takes_of rfl rfl rfl rfl
  have hp := passes_of (X := cxOf (L2.CX P w) P w K mg base N__is_tray "_is_tray" (defScope s__is_tray) f cdv A outer s H E) rfl
  have hu := room_u hr 101 (by decide)
  have hu64 := room_u hr 64 (by decide)
  have hu105 := room_u hr 105 (by decide)
  exact (ds_cons (ds_if (DW.t (dw_or (dt_not (dt_val (DV.rd (dv_isi isi_tup (by decide +kernel) G.b_tuple G.b_isinstance (dr_var 0))))) (dw_or (dt_cmp (op_neG hu) cmpOk_of (DV.rd (DE.v (de_callB call_len ok_lenD (by decide +kernel) G.b_len (db_cons (dr_var 0) db_nil)))) (DV.rd dv_int) (by rfl)) (dw_or1 (dt_not (dt_val (DV.rd (dv_call (ok_is_whole G) hr (by decide) tk (da_cons (DE.v (de_ix (dr_var 0) (DV.rd dv_int))) (da_cons dv_int (da_cons (dv_glob G.g_MOST_KIND) da_nil)))))))))))
  (ds_one (ds_ret dv_bl))
  ds_nil)
  (ds_one (ds_ret (dv_and (dv_call (ok_is_whole G) hr (by decide) tk (da_cons (DE.v (de_ix (dr_var 0) (DV.rd dv_int))) (da_cons dv_int (da_cons (dv_glob G.g_MOST_DAY) da_nil)))) (dv_and (dv_call (ok_is_whole G) hr (by decide) tk (da_cons (DE.v (de_ix (dr_var 0) (DV.rd dv_int))) (da_cons dv_int (da_cons (dv_glob G.g_MOST_DAY) da_nil)))) (dv_one (dv_call (ok_is_whole G) hr (by decide) tk (da_cons (DE.v (de_ix (dr_var 0) (DV.rd dv_int))) (da_cons dv_int (da_cons (dv_glob G.g_MOST_PIECES) da_nil))))))))))
def lc_ascends_0 : Ms → Rz W := (eLc [1, 2] (iArg zipD [(vVar 0), (toV (eSl (rVar 0) (oSome (vC (.int 1))) oNone))]) (gTup' 2 (gCons (gSet 1) (gCons (gSet 2) gNil))) (fun _ => .ok true) (v2 ltD (rVar 1) (rVar 2)))
def b_ascends : Ms → Fl := (sRet (toV (eCall (g1 allD) [(toV lc_ascends_0)])))
abbrev S_ascends (values_ one_ later_ : Option W := none) : Ms := [values_, one_, later_]
def m_ascends : Ms → Rz PyData := fnW 3 b_ascends
set_option maxHeartbeats 8000000 in
theorem ok_ascends (G : Fx K mg ct) : CallW P w K mg base ct 1 "ascends" 1 m_ascends := callW_of (N := N_ascends) (n := 3) (g := b_ascends) G.d_ascends sc_ascends rfl rfl fun f cdv A outer s H E hr => by
  have S := sc_ascends
  have tk : Takes (cxOf (L2.CX P w) P w K mg base N_ascends "ascends" (defScope s_ascends) f cdv A outer s H E) (fun cls d _ H => E cls d H) := takes_of rfl rfl rfl rfl
  have hp := passes_of (X := cxOf (L2.CX P w) P w K mg base N_ascends "ascends" (defScope s_ascends) f cdv A outer s H E) rfl
  have hu := room_u hr 101 (by decide)
  have hu64 := room_u hr 64 (by decide)
  have hu105 := room_u hr 105 (by decide)
  exact (ds_one (ds_ret (DE.v (de_callB (cr_all rfl) ok_allD (by decide +kernel) G.b_all (db_cons (DV.rd (DE.v (de_lc S.nd (di_zip (da_cons (dv_var 0) (da_cons (DE.v (de_sl (dr_var 0) (do_some (DV.rd dv_int)) do_none)) da_nil)) G.b_zip) (blkOk_by (own := [("one", 1), ("later", 2)]) (by rfl)) (fun _ _ _ _ _ => (dg_tup (dgs_cons (dg_name 1 S.nd) (dgs_cons (dg_name 2 S.nd) dgs_nil)))) (fun _ _ _ _ _ => dts_nil) (fun _ _ _ _ _ => (dv_cmp (op_ltG hu) cmpOk_of (dr_var 1) (dr_var 2) (by rfl)))))) db_nil)))))
def b__is_wish : Ms → Fl := (sSeq
  (sIf (tOr' (tNot' (tV' (vIsi isTup (rVar 0)))) (tOr' (t2 neD (toV (eCall (g1 lenD) [(rVar 0)])) (vC (.int 3))) (tNot' (tV' (vFn m_is_whole [(toV (e2 ixD (rVar 0) (vC (.int 0)))), (vC (.int 0)), (vC (.int 5))])))))
  (sRet (vC (.bool false)))
  sNil)
  (sRet (vAnd (vFn m_is_whole [(toV (e2 ixD (rVar 0) (vC (.int 1)))), (vC (.int 0)), (vC (.int 13))]) (vFn m_is_whole [(toV (e2 ixD (rVar 0) (vC (.int 2)))), (vC (.int 1)), (vC (.int 50))]))))
abbrev S__is_wish (value_ : Option W := none) : Ms := [value_]
def m__is_wish : Ms → Rz PyData := fnW 1 b__is_wish
set_option maxHeartbeats 8000000 in
theorem ok__is_wish (G : Fx K mg ct) : CallW P w K mg base ct 2 "_is_wish" 1 m__is_wish := callW_of (N := N__is_wish) (n := 1) (g := b__is_wish) G.d__is_wish sc__is_wish rfl rfl fun f cdv A outer s H E hr => by
  have S := sc__is_wish
  have tk : Takes (cxOf (L2.CX P w) P w K mg base N__is_wish "_is_wish" (defScope s__is_wish) f cdv A outer s H E) (fun cls d _ H => E cls d H) := takes_of rfl rfl rfl rfl
  have hp := passes_of (X := cxOf (L2.CX P w) P w K mg base N__is_wish "_is_wish" (defScope s__is_wish) f cdv A outer s H E) rfl
  have hu := room_u hr 101 (by decide)
  have hu64 := room_u hr 64 (by decide)
  have hu105 := room_u hr 105 (by decide)
  exact (ds_cons (ds_if (DW.t (dw_or (dt_not (dt_val (DV.rd (dv_isi isi_tup (by decide +kernel) G.b_tuple G.b_isinstance (dr_var 0))))) (dw_or (dt_cmp (op_neG hu) cmpOk_of (DV.rd (DE.v (de_callB call_len ok_lenD (by decide +kernel) G.b_len (db_cons (dr_var 0) db_nil)))) (DV.rd dv_int) (by rfl)) (dw_or1 (dt_not (dt_val (DV.rd (dv_call (ok_is_whole G) hr (by decide) tk (da_cons (DE.v (de_ix (dr_var 0) (DV.rd dv_int))) (da_cons dv_int (da_cons (dv_glob G.g_MOST_KIND) da_nil)))))))))))
  (ds_one (ds_ret dv_bl))
  ds_nil)
  (ds_one (ds_ret (dv_and (dv_call (ok_is_whole G) hr (by decide) tk (da_cons (DE.v (de_ix (dr_var 0) (DV.rd dv_int))) (da_cons dv_int (da_cons (dv_glob G.g_MOST_DAY) da_nil)))) (dv_one (dv_call (ok_is_whole G) hr (by decide) tk (da_cons (DE.v (de_ix (dr_var 0) (DV.rd dv_int))) (da_cons dv_int (da_cons (dv_glob G.g_MOST_PIECES) da_nil)))))))))
def lc__check_0 : Ms → Rz W := (eLc [2] (iSeq (vVar 0)) (gSet 2) (fun _ => .ok true) (vFn m__is_tray [(vVar 2)]))
def lc__check_1 : Ms → Rz W := (eLc [2] (iSeq (vVar 1)) (gSet 2) (fun _ => .ok true) (vFn m__is_wish [(vVar 2)]))
def lc__check_2 : Ms → Rz W := (eLc [2] (iSeq (vVar 1)) (gSet 2) (fun _ => .ok true) (toV (eSl (rVar 2) oNone (oSome (vC (.int 2))))))
def b__check : Ms → Fl := (sSeq
  (sIf (tOr' (tNot' (tV' (vIsi isTup (rVar 0)))) (tOr' (t2 gtD (toV (eCall (g1 lenD) [(rVar 0)])) (vC (.int 12))) (tNot' (tV' (toV (eCall (g1 allD) [(toV lc__check_0)]))))))
  (sRaise 1)
  sNil)
  (sSeq
  (sIf (tNot' (tV' (vFn m_ascends [(vVar 0)])))
  (sRaise 1)
  sNil)
  (sSeq
  (sIf (tOr' (tNot' (tV' (vIsi isTup (rVar 1)))) (tOr' (t2 gtD (toV (eCall (g1 lenD) [(rVar 1)])) (vC (.int 12))) (tNot' (tV' (toV (eCall (g1 allD) [(toV lc__check_1)]))))))
  (sRaise 2)
  sNil)
  (sIf (tNot' (tV' (vFn m_ascends [(toV lc__check_2)])))
  (sRaise 2)
  sNil))))
abbrev S__check (trays_ wishes_ one_ : Option W := none) : Ms := [trays_, wishes_, one_]
def m__check : Ms → Rz PyData := fnW 3 b__check
set_option maxHeartbeats 8000000 in
theorem ok__check (G : Fx K mg ct) : CallW P w K mg base ct 3 "_check" 2 m__check := callW_of (N := N__check) (n := 3) (g := b__check) G.d__check sc__check rfl rfl fun f cdv A outer s H E hr => by
  have S := sc__check
  have tk : Takes (cxOf (L2.CX P w) P w K mg base N__check "_check" (defScope s__check) f cdv A outer s H E) (fun cls d _ H => E cls d H) := takes_of rfl rfl rfl rfl
  have hp := passes_of (X := cxOf (L2.CX P w) P w K mg base N__check "_check" (defScope s__check) f cdv A outer s H E) rfl
  have hu := room_u hr 101 (by decide)
  have hu64 := room_u hr 64 (by decide)
  have hu105 := room_u hr 105 (by decide)
  exact (ds_cons (ds_if (DW.t (dw_or (dt_not (dt_val (DV.rd (dv_isi isi_tup (by decide +kernel) G.b_tuple G.b_isinstance (dr_var 0))))) (dw_or (dt_cmp (op_gtG hu) cmpOk_of (DV.rd (DE.v (de_callB call_len ok_lenD (by decide +kernel) G.b_len (db_cons (dr_var 0) db_nil)))) (DV.rd (dv_glob G.g_MOST_ROWS)) (by rfl)) (dw_or1 (dt_not (dt_val (DV.rd (DE.v (de_callB (cr_all rfl) ok_allD (by decide +kernel) G.b_all (db_cons (DV.rd (DE.v (de_lc S.nd (di_seq (dv_var 0)) (blkOk_by (own := [("one", 2)]) (by rfl)) (fun _ _ _ _ _ => (dg_name 2 S.nd)) (fun _ _ _ _ _ => dts_nil) (fun _ _ _ _ _ => (dv_call (ok__is_tray G) hr (by decide) takes0 (da_cons (dv_var 2) da_nil)))))) db_nil))))))))))
  (ds_one (ds_raise G.x_BadTrays tk))
  ds_nil)
  (ds_cons (ds_if (dt_not (dt_val (DV.rd (dv_call (ok_ascends G) hr (by decide) tk (da_cons (dv_var 0) da_nil)))))
  (ds_one (ds_raise G.x_BadTrays tk))
  ds_nil)
  (ds_cons (ds_if (DW.t (dw_or (dt_not (dt_val (DV.rd (dv_isi isi_tup (by decide +kernel) G.b_tuple G.b_isinstance (dr_var 1))))) (dw_or (dt_cmp (op_gtG hu) cmpOk_of (DV.rd (DE.v (de_callB call_len ok_lenD (by decide +kernel) G.b_len (db_cons (dr_var 1) db_nil)))) (DV.rd (dv_glob G.g_MOST_ROWS)) (by rfl)) (dw_or1 (dt_not (dt_val (DV.rd (DE.v (de_callB (cr_all rfl) ok_allD (by decide +kernel) G.b_all (db_cons (DV.rd (DE.v (de_lc S.nd (di_seq (dv_var 1)) (blkOk_by (own := [("one", 2)]) (by rfl)) (fun _ _ _ _ _ => (dg_name 2 S.nd)) (fun _ _ _ _ _ => dts_nil) (fun _ _ _ _ _ => (dv_call (ok__is_wish G) hr (by decide) takes0 (da_cons (dv_var 2) da_nil)))))) db_nil))))))))))
  (ds_one (ds_raise G.x_BadWishes tk))
  ds_nil)
  (ds_one (ds_if (dt_not (dt_val (DV.rd (dv_call (ok_ascends G) hr (by decide) tk (da_cons (DE.v (de_lc S.nd (di_seq (dv_var 1)) (blkOk_by (own := [("one", 2)]) (by rfl)) (fun _ _ _ _ _ => (dg_name 2 S.nd)) (fun _ _ _ _ _ => dts_nil) (fun _ _ _ _ _ => (DE.v (de_sl (dr_var 2) do_none (do_some (DV.rd dv_int))))))) da_nil)))))
  (ds_one (ds_raise G.x_BadWishes tk))
  ds_nil)))))
def b__has : Ms → Fl := (sRet (vAnd (v2 eqD (toV (e2 ixD (rVar 0) (vC (.int 0)))) (rVar 1)) (v3 leD leD (toV (e2 ixD (rVar 0) (vC (.int 1)))) (rVar 2) (toV (e2 addD (toV (e2 ixD (rVar 0) (vC (.int 1)))) (toV (e2 ixD (rVar 0) (vC (.int 2)))))))))
abbrev S__has (tray_ kind_ day_ : Option W := none) : Ms := [tray_, kind_, day_]
def m__has : Ms → Rz PyData := fnW 3 b__has
set_option maxHeartbeats 8000000 in
theorem ok__has (G : Fx K mg ct) : CallW P w K mg base ct 1 "_has" 3 m__has := callW_of (N := N__has) (n := 3) (g := b__has) G.d__has sc__has rfl rfl fun f cdv A outer s H E hr => by
  have S := sc__has
  have tk : Takes (cxOf (L2.CX P w) P w K mg base N__has "_has" (defScope s__has) f cdv A outer s H E) (fun cls d _ H => E cls d H) := takes_of rfl rfl rfl rfl
  have hp := passes_of (X := cxOf (L2.CX P w) P w K mg base N__has "_has" (defScope s__has) f cdv A outer s H E) rfl
  have hu := room_u hr 101 (by decide)
  have hu64 := room_u hr 64 (by decide)
  have hu105 := room_u hr 105 (by decide)
  exact (ds_one (ds_ret (dv_and (dv_cmp (op_eqG hu) cmpOk_of (DV.rd (DE.v (de_ix (dr_var 0) (DV.rd dv_int)))) (dr_var 1) (by rfl)) (dv_one (dv_chain (op_leG hu) (op_leG hu) cmpOk_of cmpOk_of (DV.rd (DE.v (de_ix (dr_var 0) (DV.rd dv_int)))) (dr_var 2) (DV.rd (DE.v (de_op op_addD ok_addD (DV.rd (DE.v (de_ix (dr_var 0) (DV.rd dv_int)))) (DV.rd (DE.v (de_ix (dr_var 0) (DV.rd dv_int))))))))))))
def lc__given_0 : Ms → Rz W := (eLc [7] (iSeq (vVar 0)) (gSet 7) (fun _ => .ok true) (toV (e2 ixD (rVar 7) (vC (.int 3)))))
def lc__given_1 : Ms → Rz W := (eLc [12, 7] (iArg enumD [(vVar 0)]) (gTup' 2 (gCons (gSet 12) (gCons (gSet 7) gNil))) (tV' (vFn m__has [(vVar 7), (vVar 8), (vVar 9)])) (eTup [(toV (e2 addD (toV (e2 ixD (rVar 7) (vC (.int 1)))) (toV (e2 ixD (rVar 7) (vC (.int 2)))))), (vVar 12)]))
def fb__given_2 : Ms → Fl := (sCut [11, 12, 13] (sSeq
  (sSet 13 (ofV (toV (eCall (g12 minD1 min2D) [(toV (e2 ixD (rVar 2) (rVar 12))), (rVar 10)]))))
  (sIf (t2 gtD (rVar 13) (vC (.int 0)))
  (sSeq
  (sDput 3 (eTup [(vVar 12), (vVar 5)]) (vVar 13))
  (sSeq
  (sLaug 2 (vVar 12) (fun i j => i - j) (vVar 13))
  (sAug 10 (fun i j => i - j) (vVar 13))))
  sNil)))
def fb__given_3 : Ms → Fl := (sCut [5, 6, 8, 9, 10, 11, 12, 13] (sSeq
  (sSet 6 (ofV (toV (eCall (g1 sortD) [(toV lc__given_1)]))))
  (sSeq
  (sCut [5, 6, 11, 12, 13] (sPre [1, 8, 9, 11, 12, 13] (sFor (iSeq (vVar 6)) (gTup' 2 (gCons (gSet 11) (gCons (gSet 12) gNil)))
  fb__given_2)))
  (sApp 4 (vVar 10)))))
def b__given : Ms → Fl := (sSeq
  (sSet 2 lc__given_0)
  (sSeq
  (sSet 3 (eDnew true))
  (sSeq
  (sSet 4 (eLst []))
  (sSeq
  (sCut [0, 1, 2, 5, 6, 8, 9, 10, 11, 12, 13] (sPre [5, 6, 8, 9, 10, 11, 12, 13] (sFor (iArg enumD [(vVar 1)]) (gTup' 2 (gCons (gSet 5) (gCons (gTup' 3 (gCons (gSet 8) (gCons (gSet 9) (gCons (gSet 10) gNil)))) gNil)))
  fb__given_3)))
  (sGive 3 (sFrz 4 (sRetQ (eTup [(qVar 3), (vVar 4)]))))))))
abbrev S__given (trays_ wishes_ left_ rows_ lacks_ number_ good_ tray_ kind_ day_ count_ _end_ at_ own_ : Option W := none) : Ms := [trays_, wishes_, left_, rows_, lacks_, number_, good_, tray_, kind_, day_, count_, _end_, at_, own_]
def m__given : Ms → Rz PyData := fnQ 14 b__given
set_option maxHeartbeats 8000000 in
theorem ok__given (G : Fx K mg ct) : CallQ P w K mg base ct 2 "_given" 2 m__given := callQ_of (N := N__given) (n := 14) (g := b__given) G.d__given sc__given rfl rfl fun f cdv A outer s H E hr => by
  have S := sc__given
  have tk : Takes (cxOf (L2.CX P w) P w K mg base N__given "_given" (defScope s__given) f cdv A outer s H E) (fun cls d _ H => E cls d H) := takes_of rfl rfl rfl rfl
  have hp := passes_of (X := cxOf (L2.CX P w) P w K mg base N__given "_given" (defScope s__given) f cdv A outer s H E) rfl
  have hu := room_u hr 101 (by decide)
  have hu64 := room_u hr 64 (by decide)
  have hu105 := room_u hr 105 (by decide)
  exact (ds_cons (ds_lc 2 S.nd (di_seq (dv_var 0)) (blkOk_by (own := [("tray", 7)]) (by rfl)) (fun _ _ _ _ _ => (dg_name 7 S.nd)) (fun _ _ _ _ _ => dts_nil) (fun _ _ _ _ _ => (DE.v (de_ix (dr_var 7) (DV.rd dv_int)))))
  (ds_cons (ds_set 3 de_dnewT S.nd)
  (ds_cons (ds_set 4 (de_lst da_nil) S.nd)
  (ds_cons (ds_cut [0, 1, 2, 5, 6, 8, 9, 10, 11, 12, 13] (ds_pre [5, 6, 8, 9, 10, 11, 12, 13] (ds_for hp (di_enum (da_cons (dv_var 1) da_nil) G.b_enumerate) (dg_tup (dgs_cons (dg_name 5 S.nd) (dgs_cons (dg_tup (dgs_cons (dg_name 8 S.nd) (dgs_cons (dg_name 9 S.nd) (dgs_cons (dg_name 10 S.nd) dgs_nil)))) dgs_nil)))
  (dss_cut [5, 6, 8, 9, 10, 11, 12, 13] (ds_cons (ds_set 6 (DV.toE (DE.v (de_callB (cr_sortD hu105) ok_sortD (by decide +kernel) G.b_sorted (db_cons (DV.rd (DE.v (de_lc S.nd (di_enum (da_cons (dv_var 0) da_nil) G.b_enumerate) (blkOk_by (own := [("at", 12), ("tray", 7)]) (by rfl)) (fun _ _ _ _ _ => (dg_tup (dgs_cons (dg_name 12 S.nd) (dgs_cons (dg_name 7 S.nd) dgs_nil)))) (fun _ _ _ _ _ => (dts_one (dt_val (DV.rd (dv_call (ok__has G) hr (by decide) takes0 (da_cons (dv_var 7) (da_cons (dv_var 8) (da_cons (dv_var 9) da_nil)))))))) (fun _ _ _ _ _ => (dv_tup (da_cons (DE.v (de_op op_addD ok_addD (DV.rd (DE.v (de_ix (dr_var 7) (DV.rd dv_int)))) (DV.rd (DE.v (de_ix (dr_var 7) (DV.rd dv_int)))))) (da_cons (dv_var 12) da_nil))))))) db_nil)))) S.nd)
  (ds_cons (ds_cut [5, 6, 11, 12, 13] (ds_pre [1, 8, 9, 11, 12, 13] (ds_for hp (di_seq (dv_var 6)) (dg_tup (dgs_cons (dg_name 11 S.nd) (dgs_cons (dg_name 12 S.nd) dgs_nil)))
  (dss_cut [11, 12, 13] (ds_cons (ds_set 13 (DV.toE (DE.v (de_callB (cr_minA rfl hu105) ok_minA (by decide +kernel) G.b_min (db_cons (DV.rd (DE.v (de_ix (dr_var 2) (dr_var 12)))) (db_cons (dr_var 10) db_nil))))) S.nd)
  (ds_one (ds_if (dt_cmp (op_gtG hu) cmpOk_of (dr_var 13) (DV.rd dv_int) (by rfl))
  (ds_cons (ds_dput 3 hu105 (dv_var 13) (dv_tup (da_cons (dv_var 12) (da_cons (dv_var 5) da_nil))))
  (ds_cons (ds_laug 2 ip_sub (dv_var 12) (dv_var 13))
  (ds_one (ds_aug (i := 10) ip_sub S.nd (dv_var 13)))))
  ds_nil)))))))
  (ds_one (ds_app 4 (da_cons (dv_var 10) da_nil)))))))))
  (ds_one (ds_give 3 (ds_frz1 4 (ds_retQ (dq_tup (daq_cons (dq_var 3) (daq_cons (DV.dq (dv_var 4)) daq_nil)))))))))))
def fb__short_days_0 : Ms → Fl := (sCut [10, 11] (sIf (tAnd' (t2 eqD (rVar 10) (rVar 8)) (tDin false 5 (vVar 11)))
  (sSeq
  (sDput 5 (vVar 11) (vC (.bool true)))
  (sApp 6 (vVar 11)))
  sNil))
def fb__short_days_1 : Ms → Fl := (sCut [8, 9, 10, 11] (sCut [10, 11] (sIf (tV' (vFn m__has [(vVar 9), (vVar 4), (toV (e2 ixD (rVar 7) (vC (.int 1))))]))
  (sGive 2 (sCut [8, 10, 11] (sPre [3, 9, 10, 11] (sFor (iKeysD 2) (gTup' 2 (gCons (gSet 10) (gCons (gSet 11) gNil)))
  fb__short_days_0))))
  sNil)))
def fb__short_days_2 : Ms → Fl := (sCut [7, 8, 9, 10, 11] (sSeq
  (sPopIx 7 6 (vVar 1))
  (sCut [7, 8, 9, 10, 11] (sPre [3, 8, 9, 10, 11] (sFor (iArg enumD [(vVar 0)]) (gTup' 2 (gCons (gSet 8) (gCons (gSet 9) gNil)))
  fb__short_days_1)))))
def lc__short_days_3 : Ms → Rz W := (eLc [11] (iKeysD 5) (gSet 11) (fun _ => .ok true) (toV (e2 ixD (toV (e2 ixD (rVar 1) (rVar 11))) (vC (.int 1)))))
def b__short_days : Ms → Fl := (sSeq
  (sSet 4 (ofV (toV (e2 ixD (toV (e2 ixD (rVar 1) (rVar 3))) (vC (.int 0))))))
  (sSeq
  (sSet 5 (eDisp1 (vVar 3) (vC (.bool true))))
  (sSeq
  (sSet 6 (eLst [(vVar 3)]))
  (sSeq
  (sCut [0, 2, 4, 6, 7, 8, 9, 10, 11] (sPre [3, 7, 8, 9, 10, 11] (goWhile (t2 gtD (toV (eCall (g1 lenD) [(rVar 6)])) (vC (.int 0)))
  fb__short_days_2 1000000)))
  (sGive 5 (sRet (toV (eCall (g1 tupleD) [(toV (eCall (g1 sortD) [(toV lc__short_days_3)]))]))))))))
abbrev S__short_days (trays_ wishes_ rows_ start_ kind_ found_ waits_ here_ at_ tray_ own_ number_ : Option W := none) : Ms := [trays_, wishes_, rows_, start_, kind_, found_, waits_, here_, at_, tray_, own_, number_]
def m__short_days : Ms → Rz PyData := fnW 12 b__short_days
set_option maxHeartbeats 8000000 in
theorem ok__short_days (G : Fx K mg ct) : CallW P w K mg base ct 2 "_short_days" 4 m__short_days := callW_of (N := N__short_days) (n := 12) (g := b__short_days) G.d__short_days sc__short_days rfl rfl fun f cdv A outer s H E hr => by
  have S := sc__short_days
  have tk : Takes (cxOf (L2.CX P w) P w K mg base N__short_days "_short_days" (defScope s__short_days) f cdv A outer s H E) (fun cls d _ H => E cls d H) := takes_of rfl rfl rfl rfl
  have hp := passes_of (X := cxOf (L2.CX P w) P w K mg base N__short_days "_short_days" (defScope s__short_days) f cdv A outer s H E) rfl
  have hu := room_u hr 101 (by decide)
  have hu64 := room_u hr 64 (by decide)
  have hu105 := room_u hr 105 (by decide)
  exact (ds_cons (ds_set 4 (DV.toE (DE.v (de_ix (DV.rd (DE.v (de_ix (dr_var 1) (dr_var 3)))) (DV.rd dv_int)))) S.nd)
  (ds_cons (ds_set 5 (de_disp1 (dv_var 3) dv_bl) S.nd)
  (ds_cons (ds_set 6 (de_lst (da_cons (dv_var 3) da_nil)) S.nd)
  (ds_cons (ds_cut [0, 2, 4, 6, 7, 8, 9, 10, 11] (ds_pre [3, 7, 8, 9, 10, 11] (ds_while 1000000 hp (dt_cmp (op_gtG hu) cmpOk_of (DV.rd (DE.v (de_callB call_len ok_lenD (by decide +kernel) G.b_len (db_cons (dr_var 6) db_nil)))) (DV.rd dv_int) (by rfl))
  (dss_cut [7, 8, 9, 10, 11] (ds_cons (ds_popIx 7 6 S.nd (dv_var 1))
  (ds_one (ds_cut [7, 8, 9, 10, 11] (ds_pre [3, 8, 9, 10, 11] (ds_for hp (di_enum (da_cons (dv_var 0) da_nil) G.b_enumerate) (dg_tup (dgs_cons (dg_name 8 S.nd) (dgs_cons (dg_name 9 S.nd) dgs_nil)))
  (dss_cut [8, 9, 10, 11] (ds_one (ds_cut [10, 11] (ds_if (dt_val (DV.rd (dv_call (ok__has G) hr (by decide) tk (da_cons (dv_var 9) (da_cons (dv_var 4) (da_cons (DE.v (de_ix (dr_var 7) (DV.rd dv_int))) da_nil))))))
  (ds_one (ds_give 2 (ds_cut [8, 10, 11] (ds_pre [3, 9, 10, 11] (ds_for hp (di_keys 2) (dg_tup (dgs_cons (dg_name 10 S.nd) (dgs_cons (dg_name 11 S.nd) dgs_nil)))
  (dss_cut [10, 11] (ds_one (ds_if (DW.t (dw_and (dt_cmp (op_eqG hu) cmpOk_of (dr_var 10) (dr_var 8) (by rfl)) (dw_and1 (dt_dnin 5 hu105 (dv_var 11) (by rfl)))))
  (ds_cons (ds_dput 5 hu105 dv_bl (dv_var 11))
  (ds_one (ds_app 6 (da_cons (dv_var 11) da_nil))))
  ds_nil))))))))
  ds_nil)))))))))))))
  (ds_one (ds_give 5 (ds_ret (DE.v (de_callTy call_tuple_of ok_tupleD (by decide +kernel) G.b_tuple (db_cons (DV.rd (DE.v (de_callB (cr_sortD hu105) ok_sortD (by decide +kernel) G.b_sorted (db_cons (DV.rd (DE.v (de_lc S.nd (di_keys 5) (blkOk_by (own := [("number", 11)]) (by rfl)) (fun _ _ _ _ _ => (dg_name 11 S.nd)) (fun _ _ _ _ _ => dts_nil) (fun _ _ _ _ _ => (DE.v (de_ix (DV.rd (DE.v (de_ix (dr_var 1) (dr_var 11)))) (DV.rd dv_int))))))) db_nil)))) db_nil))))))))))
def lc_met_0 : Ms → Rz W := (eLc [5, 6] (iArg enumD [(vVar 4)]) (gTup' 2 (gCons (gSet 5) (gCons (gSet 6) gNil))) (t2 gtD (rVar 6) (vC (.int 0))) (vVar 5))
def lc_met_1 : Ms → Rz W := (eLc [7] (iKeysD 3) (gSet 7) (fun _ => .ok true) (toV (e2 addD (rVar 7) (eTup [(eDget 3 (vVar 7))]))))
def b_met : Ms → Fl := (sSeq
  (sExpr (vFn m__check [(vVar 0), (vVar 1)]))
  (sSeq
  (sAsg (vFnM m__given [(vVar 0), (vVar 1)]) (gTup' 2 (gCons (gSetQ 3) (gCons (gSetQ 4) gNil))))
  (sSeq
  (sPost 2 (sSet 2 lc_met_0))
  (sSeq
  (sIf (t2 eqD (toV (eCall (g1 lenD) [(rVar 2)])) (vC (.int 0)))
  (sGive 3 (sRet (eTup [(vC (.str "met")), (toV (eCall (g1 tupleD) [(toV (eCall (g1 sortD) [(toV lc_met_1)]))]))])))
  sNil)
  (sGive 3 (sRet (eTup [(vC (.str "short")), (toV (e2 ixD (toV (e2 ixD (rVar 1) (toV (e2 ixD (rVar 2) (vC (.int 0)))))) (vC (.int 0)))), (vFnM m__short_days [(vVar 0), (vVar 1), (qVar 3), (toV (e2 ixD (rVar 2) (vC (.int 0))))])])))))))
abbrev S_met (trays_ wishes_ short_ rows_ lacks_ number_ lack_ pair_ : Option W := none) : Ms := [trays_, wishes_, short_, rows_, lacks_, number_, lack_, pair_]
def m_met : Ms → Rz PyData := fnW 8 b_met
set_option maxHeartbeats 8000000 in
theorem ok_met (G : Fx K mg ct) : CallW P w K mg base ct 4 "met" 2 m_met := callW_of (N := N_met) (n := 8) (g := b_met) G.d_met sc_met rfl rfl fun f cdv A outer s H E hr => by
  have S := sc_met
  have tk : Takes (cxOf (L2.CX P w) P w K mg base N_met "met" (defScope s_met) f cdv A outer s H E) (fun cls d _ H => E cls d H) := takes_of rfl rfl rfl rfl
  have hp := passes_of (X := cxOf (L2.CX P w) P w K mg base N_met "met" (defScope s_met) f cdv A outer s H E) rfl
  have hu := room_u hr 101 (by decide)
  have hu64 := room_u hr 64 (by decide)
  have hu105 := room_u hr 105 (by decide)
  exact (ds_cons (ds_expr (dv_call (ok__check G) hr (by decide) tk (da_cons (dv_var 0) (da_cons (dv_var 1) da_nil))))
  (ds_cons (ds_asgQ (dq_call (ok__given G) hr (by decide) tk (daq_cons (DV.dq (dv_var 0)) (daq_cons (DV.dq (dv_var 1)) daq_nil))) (dgq_tup (dgqs_cons (dgq_name 3 S.nd) (dgqs_cons (dgq_name 4 S.nd) dgqs_nil))))
  (ds_cons (ds_post 2 (ds_lc 2 S.nd (di_enum (da_cons (dv_var 4) da_nil) G.b_enumerate) (blkOk_by (own := [("number", 5), ("lack", 6)]) (by rfl)) (fun _ _ _ _ _ => (dg_tup (dgs_cons (dg_name 5 S.nd) (dgs_cons (dg_name 6 S.nd) dgs_nil)))) (fun _ _ _ _ _ => (dts_one (dt_cmp (op_gtG hu) cmpOk_of (dr_var 6) (DV.rd dv_int) (by rfl)))) (fun _ _ _ _ _ => (dv_var 5))))
  (ds_cons (ds_if (dt_cmp (op_eqG hu) cmpOk_of (DV.rd (DE.v (de_callB call_len ok_lenD (by decide +kernel) G.b_len (db_cons (dr_var 2) db_nil)))) (DV.rd dv_int) (by rfl))
  (ds_one (ds_give 3 (ds_ret (dv_tup (da_cons dv_str (da_cons (DE.v (de_callTy call_tuple_of ok_tupleD (by decide +kernel) G.b_tuple (db_cons (DV.rd (DE.v (de_callB (cr_sortD hu105) ok_sortD (by decide +kernel) G.b_sorted (db_cons (DV.rd (DE.v (de_lc S.nd (di_keys 3) (blkOk_by (own := [("pair", 7)]) (by rfl)) (fun _ _ _ _ _ => (dg_name 7 S.nd)) (fun _ _ _ _ _ => dts_nil) (fun _ _ _ _ _ => (DE.v (de_op op_addD ok_addD (dr_var 7) (DV.rd (dv_tup (da_cons (dv_dget 3 hu105 (dv_var 7)) da_nil))))))))) db_nil)))) db_nil))) da_nil))))))
  ds_nil)
  (ds_one (ds_give 3 (ds_ret (dv_tup (da_cons dv_str (da_cons (DE.v (de_ix (DV.rd (DE.v (de_ix (dr_var 1) (DV.rd (DE.v (de_ix (dr_var 2) (DV.rd dv_int))))))) (DV.rd dv_int))) (da_cons (dv_callM (ok__short_days G) hr (by decide) tk (daq_cons (DV.dq (dv_var 0)) (daq_cons (DV.dq (dv_var 1)) (daq_cons (dq_var 3) (daq_cons (DV.dq (DE.v (de_ix (dr_var 2) (DV.rd dv_int)))) daq_nil))))) da_nil)))))))))))
def b__law_has : Ms → Fl := (sRet (vAnd (v2 eqD (toV (e2 ixD (rVar 0) (vC (.int 0)))) (toV (e2 ixD (rVar 1) (vC (.int 0))))) (vAnd (v2 leD (toV (e2 ixD (rVar 0) (vC (.int 1)))) (toV (e2 ixD (rVar 1) (vC (.int 1))))) (v2 leD (toV (e2 subD (toV (e2 ixD (rVar 1) (vC (.int 1)))) (toV (e2 ixD (rVar 0) (vC (.int 1)))))) (toV (e2 ixD (rVar 0) (vC (.int 2))))))))
abbrev S__law_has (tray_ wish_ : Option W := none) : Ms := [tray_, wish_]
def m__law_has : Ms → Rz PyData := fnW 2 b__law_has
set_option maxHeartbeats 8000000 in
theorem ok__law_has (G : Fx K mg ct) : CallW P w K mg base ct 1 "_law_has" 2 m__law_has := callW_of (N := N__law_has) (n := 2) (g := b__law_has) G.d__law_has sc__law_has rfl rfl fun f cdv A outer s H E hr => by
  have S := sc__law_has
  have tk : Takes (cxOf (L2.CX P w) P w K mg base N__law_has "_law_has" (defScope s__law_has) f cdv A outer s H E) (fun cls d _ H => E cls d H) := takes_of rfl rfl rfl rfl
  have hp := passes_of (X := cxOf (L2.CX P w) P w K mg base N__law_has "_law_has" (defScope s__law_has) f cdv A outer s H E) rfl
  have hu := room_u hr 101 (by decide)
  have hu64 := room_u hr 64 (by decide)
  have hu105 := room_u hr 105 (by decide)
  exact (ds_one (ds_ret (dv_and (dv_cmp (op_eqG hu) cmpOk_of (DV.rd (DE.v (de_ix (dr_var 0) (DV.rd dv_int)))) (DV.rd (DE.v (de_ix (dr_var 1) (DV.rd dv_int)))) (by rfl)) (dv_and (dv_cmp (op_leG hu) cmpOk_of (DV.rd (DE.v (de_ix (dr_var 0) (DV.rd dv_int)))) (DV.rd (DE.v (de_ix (dr_var 1) (DV.rd dv_int)))) (by rfl)) (dv_one (dv_cmp (op_leG hu) cmpOk_of (DV.rd (DE.v (de_op op_sub ok_subD (DV.rd (DE.v (de_ix (dr_var 1) (DV.rd dv_int)))) (DV.rd (DE.v (de_ix (dr_var 0) (DV.rd dv_int))))))) (DV.rd (DE.v (de_ix (dr_var 0) (DV.rd dv_int)))) (by rfl)))))))
def b__law_is_number : Ms → Fl := (sRet (vAnd (vIsi isInt (rVar 0)) (vAnd (vNot (vIsi isBool (rVar 0))) (v3 leD leD (rVar 1) (rVar 0) (rVar 2)))))
abbrev S__law_is_number (value_ least_ most_ : Option W := none) : Ms := [value_, least_, most_]
def m__law_is_number : Ms → Rz PyData := fnW 3 b__law_is_number
set_option maxHeartbeats 8000000 in
theorem ok__law_is_number (G : Fx K mg ct) : CallW P w K mg base ct 1 "_law_is_number" 3 m__law_is_number := callW_of (N := N__law_is_number) (n := 3) (g := b__law_is_number) G.d__law_is_number sc__law_is_number rfl rfl fun f cdv A outer s H E hr => by
  have S := sc__law_is_number
  have tk : Takes (cxOf (L2.CX P w) P w K mg base N__law_is_number "_law_is_number" (defScope s__law_is_number) f cdv A outer s H E) (fun cls d _ H => E cls d H) := takes_of rfl rfl rfl rfl
  have hp := passes_of (X := cxOf (L2.CX P w) P w K mg base N__law_is_number "_law_is_number" (defScope s__law_is_number) f cdv A outer s H E) rfl
  have hu := room_u hr 101 (by decide)
  have hu64 := room_u hr 64 (by decide)
  have hu105 := room_u hr 105 (by decide)
  exact (ds_one (ds_ret (dv_and (dv_isi isi_int (by decide +kernel) G.b_int G.b_isinstance (dr_var 0)) (dv_and (dv_not (dv_isi isi_bool (by decide +kernel) G.b_bool G.b_isinstance (dr_var 0))) (dv_one (dv_chain (op_leG hu) (op_leG hu) cmpOk_of cmpOk_of (dr_var 1) (dr_var 0) (dr_var 2)))))))
def lc__law_met_due_0 : Ms → Rz W := (eLc [9] (iSeq (vVar 2)) (gSet 9) (fun _ => .ok true) (vAnd (vIsi isTup (rVar 9)) (v2 eqD (toV (eCall (g1 lenD) [(rVar 9)])) (vC (.int 3)))))
def fb__law_met_due_1 : Ms → Fl := (sCut [6, 7, 8] (sIf (tOr' (tNot' (tV' (vFn m__law_is_number [(vVar 6), (vC (.int 0)), (toV (e2 subD (toV (eCall (g1 lenD) [(rVar 0)])) (vC (.int 1))))]))) (tOr' (tNot' (tV' (vFn m__law_is_number [(vVar 7), (vC (.int 0)), (toV (e2 subD (toV (eCall (g1 lenD) [(rVar 1)])) (vC (.int 1))))]))) (tNot' (tV' (vFn m__law_is_number [(vVar 8), (vC (.int 1)), (vC (.int 50))])))))
  (sRet (eTup [(vC (.str "form"))]))
  sNil))
def lc__law_met_due_2 : Ms → Rz W := (eLc [9] (iSeq (vVar 2)) (gSet 9) (fun _ => .ok true) (toV (eSl (rVar 9) oNone (oSome (vC (.int 2))))))
def lc__law_met_due_3 : Ms → Rz W := (eLc [9] (iSeq (vVar 2)) (gSet 9) (fun _ => .ok true) (toV (eSl (rVar 9) oNone (oSome (vC (.int 2))))))
def lc__law_met_due_4 : Ms → Rz W := (eLc [9] (iSeq (vVar 2)) (gSet 9) (tNot' (tV' (vFn m__law_has [(toV (e2 ixD (rVar 0) (toV (e2 ixD (rVar 9) (vC (.int 0)))))), (toV (e2 ixD (rVar 1) (toV (e2 ixD (rVar 9) (vC (.int 1))))))]))) (vVar 9))
def lc__law_met_due_5 : Ms → Rz W := (eLc [9] (iSeq (vVar 2)) (gSet 9) (t2 eqD (toV (e2 ixD (rVar 9) (vC (.int 0)))) (rVar 10)) (toV (e2 ixD (rVar 9) (vC (.int 2)))))
def lc__law_met_due_6 : Ms → Rz W := (eLc [10] (iArg rng1 [(toV (eCall (g1 lenD) [(rVar 0)]))]) (gSet 10) (t2 gtD (toV (eCall (g1 sumD) [(toV lc__law_met_due_5)])) (toV (e2 ixD (toV (e2 ixD (rVar 0) (rVar 10))) (vC (.int 3))))) (vVar 10))
def lc__law_met_due_7 : Ms → Rz W := (eLc [9] (iSeq (vVar 2)) (gSet 9) (t2 eqD (toV (e2 ixD (rVar 9) (vC (.int 1)))) (rVar 10)) (toV (e2 ixD (rVar 9) (vC (.int 2)))))
def lc__law_met_due_8 : Ms → Rz W := (eLc [10] (iArg rng1 [(toV (eCall (g1 lenD) [(rVar 1)]))]) (gSet 10) (t2 neD (toV (eCall (g1 sumD) [(toV lc__law_met_due_7)])) (toV (e2 ixD (toV (e2 ixD (rVar 1) (rVar 10))) (vC (.int 2))))) (vVar 10))
def b__law_met_due : Ms → Fl := (sSeq
  (sIf (tOr' (tNot' (tV' (vIsi isTup (rVar 2)))) (tNot' (tV' (toV (eCall (g1 allD) [(toV lc__law_met_due_0)])))))
  (sRet (eTup [(vC (.str "form"))]))
  sNil)
  (sSeq
  (sCut [6, 7, 8] (sPre [3, 4, 5, 6, 7, 8] (sFor (iSeq (vVar 2)) (gTup' 3 (gCons (gSet 6) (gCons (gSet 7) (gCons (gSet 8) gNil))))
  fb__law_met_due_1)))
  (sSeq
  (sIf (t2 neD (toV lc__law_met_due_2) (toV (eSsetG (toV lc__law_met_due_3))))
  (sRet (eTup [(vC (.str "form"))]))
  sNil)
  (sSeq
  (sPost 3 (sSet 3 lc__law_met_due_4))
  (sSeq
  (sIf (t2 gtD (toV (eCall (g1 lenD) [(rVar 3)])) (vC (.int 0)))
  (sRet (toV (e2 addD (eTup [(vC (.str "tray"))]) (toV (eSl (toV (e2 ixD (rVar 3) (vC (.int 0)))) oNone (oSome (vC (.int 2))))))))
  sNil)
  (sSeq
  (sPost 4 (sSet 4 lc__law_met_due_6))
  (sSeq
  (sIf (t2 gtD (toV (eCall (g1 lenD) [(rVar 4)])) (vC (.int 0)))
  (sRet (eTup [(vC (.str "much")), (toV (e2 ixD (rVar 4) (vC (.int 0))))]))
  sNil)
  (sSeq
  (sPost 5 (sSet 5 lc__law_met_due_8))
  (sRet (vIf (t2 gtD (toV (eCall (g1 lenD) [(rVar 5)])) (vC (.int 0))) (eTup [(vC (.str "few")), (toV (e2 ixD (rVar 5) (vC (.int 0))))]) (vC .none)))))))))))
abbrev S__law_met_due (trays_ wishes_ value_ wrong_ much_ few_ tray_ wish_ count_ row_ k_ : Option W := none) : Ms := [trays_, wishes_, value_, wrong_, much_, few_, tray_, wish_, count_, row_, k_]
def m__law_met_due : Ms → Rz PyData := fnW 11 b__law_met_due
set_option maxHeartbeats 8000000 in
theorem ok__law_met_due (G : Fx K mg ct) : CallW P w K mg base ct 2 "_law_met_due" 3 m__law_met_due := callW_of (N := N__law_met_due) (n := 11) (g := b__law_met_due) G.d__law_met_due sc__law_met_due rfl rfl fun f cdv A outer s H E hr => by
  have S := sc__law_met_due
  have tk : Takes (cxOf (L2.CX P w) P w K mg base N__law_met_due "_law_met_due" (defScope s__law_met_due) f cdv A outer s H E) (fun cls d _ H => E cls d H) := takes_of rfl rfl rfl rfl
  have hp := passes_of (X := cxOf (L2.CX P w) P w K mg base N__law_met_due "_law_met_due" (defScope s__law_met_due) f cdv A outer s H E) rfl
  have hu := room_u hr 101 (by decide)
  have hu64 := room_u hr 64 (by decide)
  have hu105 := room_u hr 105 (by decide)
  exact (ds_cons (ds_if (DW.t (dw_or (dt_not (dt_val (DV.rd (dv_isi isi_tup (by decide +kernel) G.b_tuple G.b_isinstance (dr_var 2))))) (dw_or1 (dt_not (dt_val (DV.rd (DE.v (de_callB (cr_all rfl) ok_allD (by decide +kernel) G.b_all (db_cons (DV.rd (DE.v (de_lc S.nd (di_seq (dv_var 2)) (blkOk_by (own := [("row", 9)]) (by rfl)) (fun _ _ _ _ _ => (dg_name 9 S.nd)) (fun _ _ _ _ _ => dts_nil) (fun _ _ _ _ _ => (dv_and (dv_isi isi_tup (by decide +kernel) G.b_tuple G.b_isinstance (dr_var 9)) (dv_one (dv_cmp (op_eqG hu) cmpOk_of (DV.rd (DE.v (de_callB call_len ok_lenD (by decide +kernel) G.b_len (db_cons (dr_var 9) db_nil)))) (DV.rd dv_int) (by rfl)))))))) db_nil)))))))))
  (ds_one (ds_ret (dv_tup (da_cons dv_str da_nil))))
  ds_nil)
  (ds_cons (ds_cut [6, 7, 8] (ds_pre [3, 4, 5, 6, 7, 8] (ds_for hp (di_seq (dv_var 2)) (dg_tup (dgs_cons (dg_name 6 S.nd) (dgs_cons (dg_name 7 S.nd) (dgs_cons (dg_name 8 S.nd) dgs_nil))))
  (dss_cut [6, 7, 8] (ds_one (ds_if (DW.t (dw_or (dt_not (dt_val (DV.rd (dv_call (ok__law_is_number G) hr (by decide) tk (da_cons (dv_var 6) (da_cons dv_int (da_cons (DE.v (de_op op_sub ok_subD (DV.rd (DE.v (de_callB call_len ok_lenD (by decide +kernel) G.b_len (db_cons (dr_var 0) db_nil)))) (DV.rd dv_int))) da_nil))))))) (dw_or (dt_not (dt_val (DV.rd (dv_call (ok__law_is_number G) hr (by decide) tk (da_cons (dv_var 7) (da_cons dv_int (da_cons (DE.v (de_op op_sub ok_subD (DV.rd (DE.v (de_callB call_len ok_lenD (by decide +kernel) G.b_len (db_cons (dr_var 1) db_nil)))) (DV.rd dv_int))) da_nil))))))) (dw_or1 (dt_not (dt_val (DV.rd (dv_call (ok__law_is_number G) hr (by decide) tk (da_cons (dv_var 8) (da_cons dv_int (da_cons dv_int da_nil)))))))))))
  (ds_one (ds_ret (dv_tup (da_cons dv_str da_nil))))
  ds_nil))))))
  (ds_cons (ds_if (dt_cmp (op_neG hu) cmpOk_of (DV.rd (DE.v (de_lc S.nd (di_seq (dv_var 2)) (blkOk_by (own := [("row", 9)]) (by rfl)) (fun _ _ _ _ _ => (dg_name 9 S.nd)) (fun _ _ _ _ _ => dts_nil) (fun _ _ _ _ _ => (DE.v (de_sl (dr_var 9) do_none (do_some (DV.rd dv_int)))))))) (DV.rd (DE.v (de_ssetG hu64 (DV.rd (DE.v (de_lc S.nd (di_seq (dv_var 2)) (blkOk_by (own := [("row", 9)]) (by rfl)) (fun _ _ _ _ _ => (dg_name 9 S.nd)) (fun _ _ _ _ _ => dts_nil) (fun _ _ _ _ _ => (DE.v (de_sl (dr_var 9) do_none (do_some (DV.rd dv_int)))))))) G.b_sorted G.b_set))) (by rfl))
  (ds_one (ds_ret (dv_tup (da_cons dv_str da_nil))))
  ds_nil)
  (ds_cons (ds_post 3 (ds_lc 3 S.nd (di_seq (dv_var 2)) (blkOk_by (own := [("row", 9)]) (by rfl)) (fun _ _ _ _ _ => (dg_name 9 S.nd)) (fun _ _ _ _ _ => (dts_one (dt_not (dt_val (DV.rd (dv_call (ok__law_has G) hr (by decide) takes0 (da_cons (DE.v (de_ix (dr_var 0) (DV.rd (DE.v (de_ix (dr_var 9) (DV.rd dv_int)))))) (da_cons (DE.v (de_ix (dr_var 1) (DV.rd (DE.v (de_ix (dr_var 9) (DV.rd dv_int)))))) da_nil)))))))) (fun _ _ _ _ _ => (dv_var 9))))
  (ds_cons (ds_if (dt_cmp (op_gtG hu) cmpOk_of (DV.rd (DE.v (de_callB call_len ok_lenD (by decide +kernel) G.b_len (db_cons (dr_var 3) db_nil)))) (DV.rd dv_int) (by rfl))
  (ds_one (ds_ret (DE.v (de_op op_addD ok_addD (DV.rd (dv_tup (da_cons dv_str da_nil))) (DV.rd (DE.v (de_sl (DV.rd (DE.v (de_ix (dr_var 3) (DV.rd dv_int)))) do_none (do_some (DV.rd dv_int)))))))))
  ds_nil)
  (ds_cons (ds_post 4 (ds_lc 4 S.nd (di_range1 (da_cons (DE.v (de_callB call_len ok_lenD (by decide +kernel) G.b_len (db_cons (dr_var 0) db_nil))) da_nil) G.b_range) (blkOk_by (own := [("k", 10)]) (by rfl)) (fun _ _ _ _ _ => (dg_name 10 S.nd)) (fun _ _ _ _ _ => (dts_one (dt_cmp (op_gtG hu) cmpOk_of (DV.rd (DE.v (de_callB (cr_sumD rfl) ok_sumD (by decide +kernel) G.b_sum (db_cons (DV.rd (DE.v (de_lc S.nd (di_seq (dv_var 2)) (blkOk_by (own := [("row", 9)]) (by rfl)) (fun _ _ _ _ _ => (dg_name 9 S.nd)) (fun _ _ _ _ _ => (dts_one (dt_cmp (op_eqG hu) cmpOk_of (DV.rd (DE.v (de_ix (dr_var 9) (DV.rd dv_int)))) (dr_var 10) (by rfl)))) (fun _ _ _ _ _ => (DE.v (de_ix (dr_var 9) (DV.rd dv_int))))))) db_nil)))) (DV.rd (DE.v (de_ix (DV.rd (DE.v (de_ix (dr_var 0) (dr_var 10)))) (DV.rd dv_int)))) (by rfl)))) (fun _ _ _ _ _ => (dv_var 10))))
  (ds_cons (ds_if (dt_cmp (op_gtG hu) cmpOk_of (DV.rd (DE.v (de_callB call_len ok_lenD (by decide +kernel) G.b_len (db_cons (dr_var 4) db_nil)))) (DV.rd dv_int) (by rfl))
  (ds_one (ds_ret (dv_tup (da_cons dv_str (da_cons (DE.v (de_ix (dr_var 4) (DV.rd dv_int))) da_nil)))))
  ds_nil)
  (ds_cons (ds_post 5 (ds_lc 5 S.nd (di_range1 (da_cons (DE.v (de_callB call_len ok_lenD (by decide +kernel) G.b_len (db_cons (dr_var 1) db_nil))) da_nil) G.b_range) (blkOk_by (own := [("k", 10)]) (by rfl)) (fun _ _ _ _ _ => (dg_name 10 S.nd)) (fun _ _ _ _ _ => (dts_one (dt_cmp (op_neG hu) cmpOk_of (DV.rd (DE.v (de_callB (cr_sumD rfl) ok_sumD (by decide +kernel) G.b_sum (db_cons (DV.rd (DE.v (de_lc S.nd (di_seq (dv_var 2)) (blkOk_by (own := [("row", 9)]) (by rfl)) (fun _ _ _ _ _ => (dg_name 9 S.nd)) (fun _ _ _ _ _ => (dts_one (dt_cmp (op_eqG hu) cmpOk_of (DV.rd (DE.v (de_ix (dr_var 9) (DV.rd dv_int)))) (dr_var 10) (by rfl)))) (fun _ _ _ _ _ => (DE.v (de_ix (dr_var 9) (DV.rd dv_int))))))) db_nil)))) (DV.rd (DE.v (de_ix (DV.rd (DE.v (de_ix (dr_var 1) (dr_var 10)))) (DV.rd dv_int)))) (by rfl)))) (fun _ _ _ _ _ => (dv_var 10))))
  (ds_one (ds_ret (dv_if (dt_cmp (op_gtG hu) cmpOk_of (DV.rd (DE.v (de_callB call_len ok_lenD (by decide +kernel) G.b_len (db_cons (dr_var 5) db_nil)))) (DV.rd dv_int) (by rfl)) (dv_tup (da_cons dv_str (da_cons (DE.v (de_ix (dr_var 5) (DV.rd dv_int))) da_nil))) dv_non)))))))))))
def lc__are_rows_0 : Ms → Rz W := (eLc [6] (iSeq (vVar 2)) (gSet 6) (fun _ => .ok true) (vAnd (vIsi isTup (rVar 6)) (v2 eqD (toV (eCall (g1 lenD) [(rVar 6)])) (vC (.int 3)))))
def fb__are_rows_1 : Ms → Fl := (sCut [3, 4, 5] (sSeq
  (sIf (tOr' (tNot' (tV' (vFn m_is_whole [(vVar 3), (vC (.int 0)), (toV (e2 subD (toV (eCall (g1 lenD) [(rVar 0)])) (vC (.int 1))))]))) (tNot' (tV' (vFn m_is_whole [(vVar 4), (vC (.int 0)), (toV (e2 subD (toV (eCall (g1 lenD) [(rVar 1)])) (vC (.int 1))))]))))
  (sRet (vC (.bool false)))
  sNil)
  (sIf (tNot' (tV' (vFn m_is_whole [(vVar 5), (vC (.int 1)), (vC (.int 50))])))
  (sRet (vC (.bool false)))
  sNil)))
def lc__are_rows_2 : Ms → Rz W := (eLc [6] (iSeq (vVar 2)) (gSet 6) (fun _ => .ok true) (toV (eSl (rVar 6) oNone (oSome (vC (.int 2))))))
def b__are_rows : Ms → Fl := (sSeq
  (sIf (tOr' (tNot' (tV' (vIsi isTup (rVar 2)))) (tNot' (tV' (toV (eCall (g1 allD) [(toV lc__are_rows_0)])))))
  (sRet (vC (.bool false)))
  sNil)
  (sSeq
  (sCut [0, 1, 3, 4, 5] (sPre [3, 4, 5] (sFor (iSeq (vVar 2)) (gTup' 3 (gCons (gSet 3) (gCons (gSet 4) (gCons (gSet 5) gNil))))
  fb__are_rows_1)))
  (sRet (vFn m_ascends [(toV lc__are_rows_2)]))))
abbrev S__are_rows (trays_ wishes_ value_ tray_ wish_ count_ one_ : Option W := none) : Ms := [trays_, wishes_, value_, tray_, wish_, count_, one_]
def m__are_rows : Ms → Rz PyData := fnW 7 b__are_rows
set_option maxHeartbeats 8000000 in
theorem ok__are_rows (G : Fx K mg ct) : CallW P w K mg base ct 2 "_are_rows" 3 m__are_rows := callW_of (N := N__are_rows) (n := 7) (g := b__are_rows) G.d__are_rows sc__are_rows rfl rfl fun f cdv A outer s H E hr => by
  have S := sc__are_rows
  have tk : Takes (cxOf (L2.CX P w) P w K mg base N__are_rows "_are_rows" (defScope s__are_rows) f cdv A outer s H E) (fun cls d _ H => E cls d H) := takes_of rfl rfl rfl rfl
  have hp := passes_of (X := cxOf (L2.CX P w) P w K mg base N__are_rows "_are_rows" (defScope s__are_rows) f cdv A outer s H E) rfl
  have hu := room_u hr 101 (by decide)
  have hu64 := room_u hr 64 (by decide)
  have hu105 := room_u hr 105 (by decide)
  exact (ds_cons (ds_if (DW.t (dw_or (dt_not (dt_val (DV.rd (dv_isi isi_tup (by decide +kernel) G.b_tuple G.b_isinstance (dr_var 2))))) (dw_or1 (dt_not (dt_val (DV.rd (DE.v (de_callB (cr_all rfl) ok_allD (by decide +kernel) G.b_all (db_cons (DV.rd (DE.v (de_lc S.nd (di_seq (dv_var 2)) (blkOk_by (own := [("one", 6)]) (by rfl)) (fun _ _ _ _ _ => (dg_name 6 S.nd)) (fun _ _ _ _ _ => dts_nil) (fun _ _ _ _ _ => (dv_and (dv_isi isi_tup (by decide +kernel) G.b_tuple G.b_isinstance (dr_var 6)) (dv_one (dv_cmp (op_eqG hu) cmpOk_of (DV.rd (DE.v (de_callB call_len ok_lenD (by decide +kernel) G.b_len (db_cons (dr_var 6) db_nil)))) (DV.rd dv_int) (by rfl)))))))) db_nil)))))))))
  (ds_one (ds_ret dv_bl))
  ds_nil)
  (ds_cons (ds_cut [0, 1, 3, 4, 5] (ds_pre [3, 4, 5] (ds_for hp (di_seq (dv_var 2)) (dg_tup (dgs_cons (dg_name 3 S.nd) (dgs_cons (dg_name 4 S.nd) (dgs_cons (dg_name 5 S.nd) dgs_nil))))
  (dss_cut [3, 4, 5] (ds_cons (ds_if (DW.t (dw_or (dt_not (dt_val (DV.rd (dv_call (ok_is_whole G) hr (by decide) tk (da_cons (dv_var 3) (da_cons dv_int (da_cons (DE.v (de_op op_sub ok_subD (DV.rd (DE.v (de_callB call_len ok_lenD (by decide +kernel) G.b_len (db_cons (dr_var 0) db_nil)))) (DV.rd dv_int))) da_nil))))))) (dw_or1 (dt_not (dt_val (DV.rd (dv_call (ok_is_whole G) hr (by decide) tk (da_cons (dv_var 4) (da_cons dv_int (da_cons (DE.v (de_op op_sub ok_subD (DV.rd (DE.v (de_callB call_len ok_lenD (by decide +kernel) G.b_len (db_cons (dr_var 1) db_nil)))) (DV.rd dv_int))) da_nil))))))))))
  (ds_one (ds_ret dv_bl))
  ds_nil)
  (ds_one (ds_if (dt_not (dt_val (DV.rd (dv_call (ok_is_whole G) hr (by decide) tk (da_cons (dv_var 5) (da_cons dv_int (da_cons (dv_glob G.g_MOST_PIECES) da_nil)))))))
  (ds_one (ds_ret dv_bl))
  ds_nil)))))))
  (ds_one (ds_ret (dv_call (ok_ascends G) hr (by decide) tk (da_cons (DE.v (de_lc S.nd (di_seq (dv_var 2)) (blkOk_by (own := [("one", 6)]) (by rfl)) (fun _ _ _ _ _ => (dg_name 6 S.nd)) (fun _ _ _ _ _ => dts_nil) (fun _ _ _ _ _ => (DE.v (de_sl (dr_var 6) do_none (do_some (DV.rd dv_int))))))) da_nil))))))
def fb__fault_0 : Ms → Fl := (sCut [3, 4, 5] (sIf (tNot' (tV' (vFn m__has [(toV (e2 ixD (rVar 0) (rVar 3))), (toV (e2 ixD (toV (e2 ixD (rVar 1) (rVar 4))) (vC (.int 0)))), (toV (e2 ixD (toV (e2 ixD (rVar 1) (rVar 4))) (vC (.int 1))))])))
  (sRet (eTup [(vC (.str "tray")), (vVar 3), (vVar 4)]))
  sNil))
def lc__fault_1 : Ms → Rz W := (eLc [7, 8, 9] (iSeq (vVar 2)) (gTup' 3 (gCons (gSet 7) (gCons (gSet 8) (gCons (gSet 9) gNil)))) (t2 eqD (rVar 7) (rVar 6)) (vVar 9))
def fb__fault_2 : Ms → Fl := (sCut [3, 6] (sIf (t2 gtD (toV (eCall (g1 sumD) [(toV lc__fault_1)])) (toV (e2 ixD (rVar 3) (vC (.int 3)))))
  (sRet (eTup [(vC (.str "much")), (vVar 6)]))
  sNil))
def lc__fault_3 : Ms → Rz W := (eLc [10, 7, 9] (iSeq (vVar 2)) (gTup' 3 (gCons (gSet 10) (gCons (gSet 7) (gCons (gSet 9) gNil)))) (t2 eqD (rVar 7) (rVar 6)) (vVar 9))
def fb__fault_4 : Ms → Fl := (sCut [4, 6] (sIf (t2 neD (toV (eCall (g1 sumD) [(toV lc__fault_3)])) (toV (e2 ixD (rVar 4) (vC (.int 2)))))
  (sRet (eTup [(vC (.str "few")), (vVar 6)]))
  sNil))
def b__fault : Ms → Fl := (sSeq
  (sIf (tNot' (tV' (vFn m__are_rows [(vVar 0), (vVar 1), (vVar 2)])))
  (sRet (vC (.tuple [(.str "form")])))
  sNil)
  (sSeq
  (sCut [3, 4, 5] (sPre [3, 4, 5, 6] (sFor (iSeq (vVar 2)) (gTup' 3 (gCons (gSet 3) (gCons (gSet 4) (gCons (gSet 5) gNil))))
  fb__fault_0)))
  (sSeq
  (sCut [0, 3, 6] (sPre [3, 4, 5, 6] (sFor (iArg enumD [(vVar 0)]) (gTup' 2 (gCons (gSet 6) (gCons (gSet 3) gNil)))
  fb__fault_2)))
  (sSeq
  (sCut [1, 2, 4, 6] (sPre [0, 3, 4, 5, 6] (sFor (iArg enumD [(vVar 1)]) (gTup' 2 (gCons (gSet 6) (gCons (gSet 4) gNil)))
  fb__fault_4)))
  (sRet (vC .none))))))
abbrev S__fault (trays_ wishes_ rows_ tray_ wish_ _count_ number_ at_ _wish_ count_ _tray_ : Option W := none) : Ms := [trays_, wishes_, rows_, tray_, wish_, _count_, number_, at_, _wish_, count_, _tray_]
def m__fault : Ms → Rz PyData := fnW 11 b__fault
set_option maxHeartbeats 8000000 in
theorem ok__fault (G : Fx K mg ct) : CallW P w K mg base ct 3 "_fault" 3 m__fault := callW_of (N := N__fault) (n := 11) (g := b__fault) G.d__fault sc__fault rfl rfl fun f cdv A outer s H E hr => by
  have S := sc__fault
  have tk : Takes (cxOf (L2.CX P w) P w K mg base N__fault "_fault" (defScope s__fault) f cdv A outer s H E) (fun cls d _ H => E cls d H) := takes_of rfl rfl rfl rfl
  have hp := passes_of (X := cxOf (L2.CX P w) P w K mg base N__fault "_fault" (defScope s__fault) f cdv A outer s H E) rfl
  have hu := room_u hr 101 (by decide)
  have hu64 := room_u hr 64 (by decide)
  have hu105 := room_u hr 105 (by decide)
  exact (ds_cons (ds_if (dt_not (dt_val (DV.rd (dv_call (ok__are_rows G) hr (by decide) tk (da_cons (dv_var 0) (da_cons (dv_var 1) (da_cons (dv_var 2) da_nil)))))))
  (ds_one (ds_ret (dv_glob G.g_FORM)))
  ds_nil)
  (ds_cons (ds_cut [3, 4, 5] (ds_pre [3, 4, 5, 6] (ds_for hp (di_seq (dv_var 2)) (dg_tup (dgs_cons (dg_name 3 S.nd) (dgs_cons (dg_name 4 S.nd) (dgs_cons (dg_name 5 S.nd) dgs_nil))))
  (dss_cut [3, 4, 5] (ds_one (ds_if (dt_not (dt_val (DV.rd (dv_call (ok__has G) hr (by decide) tk (da_cons (DE.v (de_ix (dr_var 0) (dr_var 3))) (da_cons (DE.v (de_ix (DV.rd (DE.v (de_ix (dr_var 1) (dr_var 4)))) (DV.rd dv_int))) (da_cons (DE.v (de_ix (DV.rd (DE.v (de_ix (dr_var 1) (dr_var 4)))) (DV.rd dv_int))) da_nil)))))))
  (ds_one (ds_ret (dv_tup (da_cons dv_str (da_cons (dv_var 3) (da_cons (dv_var 4) da_nil))))))
  ds_nil))))))
  (ds_cons (ds_cut [0, 3, 6] (ds_pre [3, 4, 5, 6] (ds_for hp (di_enum (da_cons (dv_var 0) da_nil) G.b_enumerate) (dg_tup (dgs_cons (dg_name 6 S.nd) (dgs_cons (dg_name 3 S.nd) dgs_nil)))
  (dss_cut [3, 6] (ds_one (ds_if (dt_cmp (op_gtG hu) cmpOk_of (DV.rd (DE.v (de_callB (cr_sumD rfl) ok_sumD (by decide +kernel) G.b_sum (db_cons (DV.rd (DE.v (de_lc S.nd (di_seq (dv_var 2)) (blkOk_by (own := [("at", 7), ("_wish", 8), ("count", 9)]) (by rfl)) (fun _ _ _ _ _ => (dg_tup (dgs_cons (dg_name 7 S.nd) (dgs_cons (dg_name 8 S.nd) (dgs_cons (dg_name 9 S.nd) dgs_nil))))) (fun _ _ _ _ _ => (dts_one (dt_cmp (op_eqG hu) cmpOk_of (dr_var 7) (dr_var 6) (by rfl)))) (fun _ _ _ _ _ => (dv_var 9))))) db_nil)))) (DV.rd (DE.v (de_ix (dr_var 3) (DV.rd dv_int)))) (by rfl))
  (ds_one (ds_ret (dv_tup (da_cons dv_str (da_cons (dv_var 6) da_nil)))))
  ds_nil))))))
  (ds_cons (ds_cut [1, 2, 4, 6] (ds_pre [0, 3, 4, 5, 6] (ds_for hp (di_enum (da_cons (dv_var 1) da_nil) G.b_enumerate) (dg_tup (dgs_cons (dg_name 6 S.nd) (dgs_cons (dg_name 4 S.nd) dgs_nil)))
  (dss_cut [4, 6] (ds_one (ds_if (dt_cmp (op_neG hu) cmpOk_of (DV.rd (DE.v (de_callB (cr_sumD rfl) ok_sumD (by decide +kernel) G.b_sum (db_cons (DV.rd (DE.v (de_lc S.nd (di_seq (dv_var 2)) (blkOk_by (own := [("_tray", 10), ("at", 7), ("count", 9)]) (by rfl)) (fun _ _ _ _ _ => (dg_tup (dgs_cons (dg_name 10 S.nd) (dgs_cons (dg_name 7 S.nd) (dgs_cons (dg_name 9 S.nd) dgs_nil))))) (fun _ _ _ _ _ => (dts_one (dt_cmp (op_eqG hu) cmpOk_of (dr_var 7) (dr_var 6) (by rfl)))) (fun _ _ _ _ _ => (dv_var 9))))) db_nil)))) (DV.rd (DE.v (de_ix (dr_var 4) (DV.rd dv_int)))) (by rfl))
  (ds_one (ds_ret (dv_tup (da_cons dv_str (da_cons (dv_var 6) da_nil)))))
  ds_nil))))))
  (ds_one (ds_ret dv_non))))))
def b_met_fault : Ms → Fl := (sSeq
  (sExpr (vFn m__check [(vVar 0), (vVar 1)]))
  (sRet (vFn m__fault [(vVar 0), (vVar 1), (vVar 2)])))
abbrev S_met_fault (trays_ wishes_ rows_ : Option W := none) : Ms := [trays_, wishes_, rows_]
def m_met_fault : Ms → Rz PyData := fnW 3 b_met_fault
set_option maxHeartbeats 8000000 in
theorem ok_met_fault (G : Fx K mg ct) : CallW P w K mg base ct 4 "met_fault" 3 m_met_fault := callW_of (N := N_met_fault) (n := 3) (g := b_met_fault) G.d_met_fault sc_met_fault rfl rfl fun f cdv A outer s H E hr => by
  have S := sc_met_fault
  have tk : Takes (cxOf (L2.CX P w) P w K mg base N_met_fault "met_fault" (defScope s_met_fault) f cdv A outer s H E) (fun cls d _ H => E cls d H) := takes_of rfl rfl rfl rfl
  have hp := passes_of (X := cxOf (L2.CX P w) P w K mg base N_met_fault "met_fault" (defScope s_met_fault) f cdv A outer s H E) rfl
  have hu := room_u hr 101 (by decide)
  have hu64 := room_u hr 64 (by decide)
  have hu105 := room_u hr 105 (by decide)
  exact (ds_cons (ds_expr (dv_call (ok__check G) hr (by decide) tk (da_cons (dv_var 0) (da_cons (dv_var 1) da_nil))))
  (ds_one (ds_ret (dv_call (ok__fault G) hr (by decide) tk (da_cons (dv_var 0) (da_cons (dv_var 1) (da_cons (dv_var 2) da_nil)))))))
def lc_left_on_0 : Ms → Rz W := (eLc [5] (iSeq (vVar 2)) (gSet 5) (t2 eqD (toV (e2 ixD (rVar 5) (vC (.int 0)))) (rVar 3)) (toV (e2 ixD (rVar 5) (vC (.int 2)))))
def lc_left_on_1 : Ms → Rz W := (eLc [3, 4] (iArg enumD [(vVar 0)]) (gTup' 2 (gCons (gSet 3) (gCons (gSet 4) gNil))) (fun _ => .ok true) (toV (e2 subD (toV (e2 ixD (rVar 4) (vC (.int 3)))) (toV (eCall (g1 sumD) [(toV lc_left_on_0)])))))
def b_left_on : Ms → Fl := (sSeq
  (sExpr (vFn m__check [(vVar 0), (vVar 1)]))
  (sSeq
  (sIf (t2 notN (vFn m__fault [(vVar 0), (vVar 1), (vVar 2)]) (vC .none))
  (sRaise 3)
  sNil)
  (sRet (toV (eCall (g1 tupleD) [(toV lc_left_on_1)])))))
abbrev S_left_on (trays_ wishes_ rows_ at_ tray_ row_ : Option W := none) : Ms := [trays_, wishes_, rows_, at_, tray_, row_]
def m_left_on : Ms → Rz PyData := fnW 6 b_left_on
set_option maxHeartbeats 8000000 in
theorem ok_left_on (G : Fx K mg ct) : CallW P w K mg base ct 4 "left_on" 3 m_left_on := callW_of (N := N_left_on) (n := 6) (g := b_left_on) G.d_left_on sc_left_on rfl rfl fun f cdv A outer s H E hr => by
  have S := sc_left_on
  have tk : Takes (cxOf (L2.CX P w) P w K mg base N_left_on "left_on" (defScope s_left_on) f cdv A outer s H E) (fun cls d _ H => E cls d H) := takes_of rfl rfl rfl rfl
  have hp := passes_of (X := cxOf (L2.CX P w) P w K mg base N_left_on "left_on" (defScope s_left_on) f cdv A outer s H E) rfl
  have hu := room_u hr 101 (by decide)
  have hu64 := room_u hr 64 (by decide)
  have hu105 := room_u hr 105 (by decide)
  exact (ds_cons (ds_expr (dv_call (ok__check G) hr (by decide) tk (da_cons (dv_var 0) (da_cons (dv_var 1) da_nil))))
  (ds_cons (ds_if (dt_cmp op_notN cmpOk_notN (DV.rd (dv_call (ok__fault G) hr (by decide) tk (da_cons (dv_var 0) (da_cons (dv_var 1) (da_cons (dv_var 2) da_nil))))) (DV.rd dv_non) (by rfl))
  (ds_one (ds_raise G.x_BadRows tk))
  ds_nil)
  (ds_one (ds_ret (DE.v (de_callTy call_tuple_of ok_tupleD (by decide +kernel) G.b_tuple (db_cons (DV.rd (DE.v (de_lc S.nd (di_enum (da_cons (dv_var 0) da_nil) G.b_enumerate) (blkOk_by (own := [("at", 3), ("tray", 4)]) (by rfl)) (fun _ _ _ _ _ => (dg_tup (dgs_cons (dg_name 3 S.nd) (dgs_cons (dg_name 4 S.nd) dgs_nil)))) (fun _ _ _ _ _ => dts_nil) (fun _ _ _ _ _ => (DE.v (de_op op_sub ok_subD (DV.rd (DE.v (de_ix (dr_var 4) (DV.rd dv_int)))) (DV.rd (DE.v (de_callB (cr_sumD rfl) ok_sumD (by decide +kernel) G.b_sum (db_cons (DV.rd (DE.v (de_lc S.nd (di_seq (dv_var 2)) (blkOk_by (own := [("row", 5)]) (by rfl)) (fun _ _ _ _ _ => (dg_name 5 S.nd)) (fun _ _ _ _ _ => (dts_one (dt_cmp (op_eqG hu) cmpOk_of (DV.rd (DE.v (de_ix (dr_var 5) (DV.rd dv_int)))) (dr_var 3) (by rfl)))) (fun _ _ _ _ _ => (DE.v (de_ix (dr_var 5) (DV.rd dv_int))))))) db_nil)))))))))) db_nil)))))))
def b__law_left : Ms → Fl := (sTryM
  (sRet (vFn m_left_on [(vVar 0), (vVar 1), (vVar 2)])) [.nm p_BakeError 3 (fun k => (i_BadRows k).map fun b => .str (if b = true then "rows" else "other"))])
abbrev S__law_left (trays_ wishes_ rows_ e_ : Option W := none) : Ms := [trays_, wishes_, rows_, e_]
def m__law_left : Ms → Rz PyData := fnW 4 b__law_left
set_option maxHeartbeats 8000000 in
theorem ok__law_left (G : Fx K mg ct) : CallW P w K mg base ct 5 "_law_left" 3 m__law_left := callW_of (N := N__law_left) (n := 4) (g := b__law_left) G.d__law_left sc__law_left rfl rfl fun f cdv A outer s H E hr => by
  have S := sc__law_left
  have tk : Takes (cxOf (L2.CX P w) P w K mg base N__law_left "_law_left" (defScope s__law_left) f cdv A outer s H E) (fun cls d _ H => E cls d H) := takes_of rfl rfl rfl rfl
  have hp := passes_of (X := cxOf (L2.CX P w) P w K mg base N__law_left "_law_left" (defScope s__law_left) f cdv A outer s H E) rfl
  have hu := room_u hr 101 (by decide)
  have hu64 := room_u hr 64 (by decide)
  have hu105 := room_u hr 105 (by decide)
  exact (ds_one (ds_tryM tk (fun W pn xe tk' hp' => (ds_one (ds_ret (dv_call (ok_left_on G) hr (by decide) tk' (da_cons (dv_var 0) (da_cons (dv_var 1) (da_cons (dv_var 2) da_nil))))))) (.last S.nd ⟨rfl, by decide, .inl G.n_BakeError⟩ G.p_BakeError (dis_if (dis_is (i := 3) (cv := ctA ct 3) (hc := G.i_BadRows) (hy := G.n_BadRows) (hmi := G.b_isinstance))) rfl rfl)))
def lc__law_days_due_0 : Ms → Rz W := (eLc [8] (iSeq (vVar 3)) (gSet 8) (fun _ => .ok true) (vFn m__law_is_number [(vVar 8), (vC (.int 0)), (vC (.int 13))]))
def lc__law_days_due_1 : Ms → Rz W := (eLc [6] (iSeq (vVar 1)) (gSet 6) (tAnd' (t2 eqD (toV (e2 ixD (rVar 6) (vC (.int 0)))) (rVar 2)) (t2 memD (toV (e2 ixD (rVar 6) (vC (.int 1)))) (rVar 3))) (toV (e2 ixD (rVar 6) (vC (.int 2)))))
def lc__law_days_due_2 : Ms → Rz W := (eLc [8] (iSeq (vVar 3)) (gSet 8) (fun _ => .ok true) (vFn m__law_has [(vVar 7), (eTup [(vVar 2), (vVar 8)])]))
def lc__law_days_due_3 : Ms → Rz W := (eLc [7] (iSeq (vVar 0)) (gSet 7) (tV' (toV (eCall (g1 anyD) [(toV lc__law_days_due_2)]))) (toV (e2 ixD (rVar 7) (vC (.int 3)))))
def b__law_days_due : Ms → Fl := (sSeq
  (sIf (tOr' (tNot' (tV' (vFn m__law_is_number [(vVar 2), (vC (.int 0)), (vC (.int 5))]))) (tOr' (tNot' (tV' (vIsi isTup (rVar 3)))) (tOr' (tNot' (tV' (toV (eCall (g1 allD) [(toV lc__law_days_due_0)])))) (t2 neD (toV (eCall (g1 listD) [(rVar 3)])) (toV (eSsetG (rVar 3)))))))
  (sRet (eTup [(vC (.str "form"))]))
  sNil)
  (sSeq
  (sSet 4 (ofV (toV (eCall (g1 sumD) [(toV lc__law_days_due_1)]))))
  (sSeq
  (sSet 5 (ofV (toV (eCall (g1 sumD) [(toV lc__law_days_due_3)]))))
  (sRet (vIf (t2 geD (rVar 5) (rVar 4)) (eTup [(vC (.str "enough")), (toV (e2 subD (rVar 5) (rVar 4)))]) (vC .none))))))
abbrev S__law_days_due (trays_ wishes_ kind_ days_ wished_ there_ wish_ tray_ day_ : Option W := none) : Ms := [trays_, wishes_, kind_, days_, wished_, there_, wish_, tray_, day_]
def m__law_days_due : Ms → Rz PyData := fnW 9 b__law_days_due
set_option maxHeartbeats 8000000 in
theorem ok__law_days_due (G : Fx K mg ct) : CallW P w K mg base ct 2 "_law_days_due" 4 m__law_days_due := callW_of (N := N__law_days_due) (n := 9) (g := b__law_days_due) G.d__law_days_due sc__law_days_due rfl rfl fun f cdv A outer s H E hr => by
  have S := sc__law_days_due
  have tk : Takes (cxOf (L2.CX P w) P w K mg base N__law_days_due "_law_days_due" (defScope s__law_days_due) f cdv A outer s H E) (fun cls d _ H => E cls d H) := takes_of rfl rfl rfl rfl
  have hp := passes_of (X := cxOf (L2.CX P w) P w K mg base N__law_days_due "_law_days_due" (defScope s__law_days_due) f cdv A outer s H E) rfl
  have hu := room_u hr 101 (by decide)
  have hu64 := room_u hr 64 (by decide)
  have hu105 := room_u hr 105 (by decide)
  exact (ds_cons (ds_if (DW.t (dw_or (dt_not (dt_val (DV.rd (dv_call (ok__law_is_number G) hr (by decide) tk (da_cons (dv_var 2) (da_cons dv_int (da_cons dv_int da_nil))))))) (dw_or (dt_not (dt_val (DV.rd (dv_isi isi_tup (by decide +kernel) G.b_tuple G.b_isinstance (dr_var 3))))) (dw_or (dt_not (dt_val (DV.rd (DE.v (de_callB (cr_all rfl) ok_allD (by decide +kernel) G.b_all (db_cons (DV.rd (DE.v (de_lc S.nd (di_seq (dv_var 3)) (blkOk_by (own := [("day", 8)]) (by rfl)) (fun _ _ _ _ _ => (dg_name 8 S.nd)) (fun _ _ _ _ _ => dts_nil) (fun _ _ _ _ _ => (dv_call (ok__law_is_number G) hr (by decide) takes0 (da_cons (dv_var 8) (da_cons dv_int (da_cons dv_int da_nil)))))))) db_nil)))))) (dw_or1 (dt_cmp (op_neG hu) cmpOk_of (DV.rd (DE.v (de_callTy call_list_of ok_listD (by decide +kernel) G.b_list (db_cons (dr_var 3) db_nil)))) (DV.rd (DE.v (de_ssetG hu64 (dr_var 3) G.b_sorted G.b_set))) (by rfl)))))))
  (ds_one (ds_ret (dv_tup (da_cons dv_str da_nil))))
  ds_nil)
  (ds_cons (ds_set 4 (DV.toE (DE.v (de_callB (cr_sumD rfl) ok_sumD (by decide +kernel) G.b_sum (db_cons (DV.rd (DE.v (de_lc S.nd (di_seq (dv_var 1)) (blkOk_by (own := [("wish", 6)]) (by rfl)) (fun _ _ _ _ _ => (dg_name 6 S.nd)) (fun _ _ _ _ _ => (dts_one (DW.t (dw_and (dt_cmp (op_eqG hu) cmpOk_of (DV.rd (DE.v (de_ix (dr_var 6) (DV.rd dv_int)))) (dr_var 2) (by rfl)) (dw_and1 (dt_cmp (op_in hu105) cmpOk_of (DV.rd (DE.v (de_ix (dr_var 6) (DV.rd dv_int)))) (dr_var 3) (by rfl))))))) (fun _ _ _ _ _ => (DE.v (de_ix (dr_var 6) (DV.rd dv_int))))))) db_nil)))) S.nd)
  (ds_cons (ds_set 5 (DV.toE (DE.v (de_callB (cr_sumD rfl) ok_sumD (by decide +kernel) G.b_sum (db_cons (DV.rd (DE.v (de_lc S.nd (di_seq (dv_var 0)) (blkOk_by (own := [("tray", 7)]) (by rfl)) (fun _ _ _ _ _ => (dg_name 7 S.nd)) (fun _ _ _ _ _ => (dts_one (dt_val (DV.rd (DE.v (de_callB (cr_any rfl) ok_anyD (by decide +kernel) G.b_any (db_cons (DV.rd (DE.v (de_lc S.nd (di_seq (dv_var 3)) (blkOk_by (own := [("day", 8)]) (by rfl)) (fun _ _ _ _ _ => (dg_name 8 S.nd)) (fun _ _ _ _ _ => dts_nil) (fun _ _ _ _ _ => (dv_call (ok__law_has G) hr (by decide) takes0 (da_cons (dv_var 7) (da_cons (dv_tup (da_cons (dv_var 2) (da_cons (dv_var 8) da_nil))) da_nil))))))) db_nil))))))) (fun _ _ _ _ _ => (DE.v (de_ix (dr_var 7) (DV.rd dv_int))))))) db_nil)))) S.nd)
  (ds_one (ds_ret (dv_if (dt_cmp (op_geG hu) cmpOk_of (dr_var 5) (dr_var 4) (by rfl)) (dv_tup (da_cons dv_str (da_cons (DE.v (de_op op_sub ok_subD (dr_var 5) (dr_var 4))) da_nil))) dv_non))))))
def lc_days_fault_0 : Ms → Rz W := (eLc [8] (iSeq (vVar 3)) (gSet 8) (fun _ => .ok true) (vFn m_is_whole [(vVar 8), (vC (.int 0)), (vC (.int 13))]))
def lc_days_fault_1 : Ms → Rz W := (eLc [7, 8, 9] (iSeq (vVar 1)) (gTup' 3 (gCons (gSet 7) (gCons (gSet 8) (gCons (gSet 9) gNil)))) (tAnd' (t2 eqD (rVar 7) (rVar 2)) (t2 memD (rVar 8) (rVar 3))) (vVar 9))
def lc_days_fault_2 : Ms → Rz W := (eLc [8] (iSeq (vVar 3)) (gSet 8) (fun _ => .ok true) (vFn m__has [(vVar 6), (vVar 2), (vVar 8)]))
def lc_days_fault_3 : Ms → Rz W := (eLc [6] (iSeq (vVar 0)) (gSet 6) (tV' (toV (eCall (g1 anyD) [(toV lc_days_fault_2)]))) (toV (e2 ixD (rVar 6) (vC (.int 3)))))
def b_days_fault : Ms → Fl := (sSeq
  (sExpr (vFn m__check [(vVar 0), (vVar 1)]))
  (sSeq
  (sIf (tOr' (tNot' (tV' (vFn m_is_whole [(vVar 2), (vC (.int 0)), (vC (.int 5))]))) (tNot' (tV' (vIsi isTup (rVar 3)))))
  (sRet (vC (.tuple [(.str "form")])))
  sNil)
  (sSeq
  (sIf (tOr' (tNot' (tV' (toV (eCall (g1 allD) [(toV lc_days_fault_0)])))) (tNot' (tV' (vFn m_ascends [(vVar 3)]))))
  (sRet (vC (.tuple [(.str "form")])))
  sNil)
  (sSeq
  (sSet 4 (ofV (toV (eCall (g1 sumD) [(toV lc_days_fault_1)]))))
  (sSeq
  (sSet 5 (ofV (toV (eCall (g1 sumD) [(toV lc_days_fault_3)]))))
  (sRet (vIf (t2 gtD (rVar 4) (rVar 5)) (vC .none) (eTup [(vC (.str "enough")), (toV (e2 subD (rVar 5) (rVar 4)))]))))))))
abbrev S_days_fault (trays_ wishes_ kind_ days_ wished_ there_ tray_ own_ day_ count_ : Option W := none) : Ms := [trays_, wishes_, kind_, days_, wished_, there_, tray_, own_, day_, count_]
def m_days_fault : Ms → Rz PyData := fnW 10 b_days_fault
set_option maxHeartbeats 8000000 in
theorem ok_days_fault (G : Fx K mg ct) : CallW P w K mg base ct 4 "days_fault" 4 m_days_fault := callW_of (N := N_days_fault) (n := 10) (g := b_days_fault) G.d_days_fault sc_days_fault rfl rfl fun f cdv A outer s H E hr => by
  have S := sc_days_fault
  have tk : Takes (cxOf (L2.CX P w) P w K mg base N_days_fault "days_fault" (defScope s_days_fault) f cdv A outer s H E) (fun cls d _ H => E cls d H) := takes_of rfl rfl rfl rfl
  have hp := passes_of (X := cxOf (L2.CX P w) P w K mg base N_days_fault "days_fault" (defScope s_days_fault) f cdv A outer s H E) rfl
  have hu := room_u hr 101 (by decide)
  have hu64 := room_u hr 64 (by decide)
  have hu105 := room_u hr 105 (by decide)
  exact (ds_cons (ds_expr (dv_call (ok__check G) hr (by decide) tk (da_cons (dv_var 0) (da_cons (dv_var 1) da_nil))))
  (ds_cons (ds_if (DW.t (dw_or (dt_not (dt_val (DV.rd (dv_call (ok_is_whole G) hr (by decide) tk (da_cons (dv_var 2) (da_cons dv_int (da_cons (dv_glob G.g_MOST_KIND) da_nil))))))) (dw_or1 (dt_not (dt_val (DV.rd (dv_isi isi_tup (by decide +kernel) G.b_tuple G.b_isinstance (dr_var 3))))))))
  (ds_one (ds_ret (dv_glob G.g_FORM)))
  ds_nil)
  (ds_cons (ds_if (DW.t (dw_or (dt_not (dt_val (DV.rd (DE.v (de_callB (cr_all rfl) ok_allD (by decide +kernel) G.b_all (db_cons (DV.rd (DE.v (de_lc S.nd (di_seq (dv_var 3)) (blkOk_by (own := [("day", 8)]) (by rfl)) (fun _ _ _ _ _ => (dg_name 8 S.nd)) (fun _ _ _ _ _ => dts_nil) (fun _ _ _ _ _ => (dv_call (ok_is_whole G) hr (by decide) takes0 (da_cons (dv_var 8) (da_cons dv_int (da_cons (dv_glob G.g_MOST_DAY) da_nil)))))))) db_nil)))))) (dw_or1 (dt_not (dt_val (DV.rd (dv_call (ok_ascends G) hr (by decide) tk (da_cons (dv_var 3) da_nil))))))))
  (ds_one (ds_ret (dv_glob G.g_FORM)))
  ds_nil)
  (ds_cons (ds_set 4 (DV.toE (DE.v (de_callB (cr_sumD rfl) ok_sumD (by decide +kernel) G.b_sum (db_cons (DV.rd (DE.v (de_lc S.nd (di_seq (dv_var 1)) (blkOk_by (own := [("own", 7), ("day", 8), ("count", 9)]) (by rfl)) (fun _ _ _ _ _ => (dg_tup (dgs_cons (dg_name 7 S.nd) (dgs_cons (dg_name 8 S.nd) (dgs_cons (dg_name 9 S.nd) dgs_nil))))) (fun _ _ _ _ _ => (dts_one (DW.t (dw_and (dt_cmp (op_eqG hu) cmpOk_of (dr_var 7) (dr_var 2) (by rfl)) (dw_and1 (dt_cmp (op_in hu105) cmpOk_of (dr_var 8) (dr_var 3) (by rfl))))))) (fun _ _ _ _ _ => (dv_var 9))))) db_nil)))) S.nd)
  (ds_cons (ds_set 5 (DV.toE (DE.v (de_callB (cr_sumD rfl) ok_sumD (by decide +kernel) G.b_sum (db_cons (DV.rd (DE.v (de_lc S.nd (di_seq (dv_var 0)) (blkOk_by (own := [("tray", 6)]) (by rfl)) (fun _ _ _ _ _ => (dg_name 6 S.nd)) (fun _ _ _ _ _ => (dts_one (dt_val (DV.rd (DE.v (de_callB (cr_any rfl) ok_anyD (by decide +kernel) G.b_any (db_cons (DV.rd (DE.v (de_lc S.nd (di_seq (dv_var 3)) (blkOk_by (own := [("day", 8)]) (by rfl)) (fun _ _ _ _ _ => (dg_name 8 S.nd)) (fun _ _ _ _ _ => dts_nil) (fun _ _ _ _ _ => (dv_call (ok__has G) hr (by decide) takes0 (da_cons (dv_var 6) (da_cons (dv_var 2) (da_cons (dv_var 8) da_nil)))))))) db_nil))))))) (fun _ _ _ _ _ => (DE.v (de_ix (dr_var 6) (DV.rd dv_int))))))) db_nil)))) S.nd)
  (ds_one (ds_ret (dv_if (dt_cmp (op_gtG hu) cmpOk_of (dr_var 4) (dr_var 5) (by rfl)) dv_non (dv_tup (da_cons dv_str (da_cons (DE.v (de_op op_sub ok_subD (dr_var 5) (dr_var 4))) da_nil)))))))))))
def lc_law_0 : Ms → Rz W := (eLc [18] (iArg rng1 [(toV (eCall (g1 lenD) [(rVar 4)]))]) (gSet 18) (tOr' (tV' (vFn m__law_has [(toV (e2 ixD (rVar 3) (rVar 8))), (toV (e2 ixD (rVar 4) (rVar 18)))])) (t2 eqD (toV (e2 modD (toV (eCall (g1 toIntD) [(toV (e2 ixD (rVar 1) (toV (e2 modD (toV (e2 addD (toV (e2 addD (vC (.int 30)) (toV (e2 mulD (vC (.int 2)) (rVar 8))))) (rVar 18))) (vC (.int 60))))))])) (vC (.int 7)))) (vC (.int 0)))) (eTup [(vVar 8), (vVar 18), (toV (e2 addD (vC (.int 1)) (toV (e2 modD (toV (eCall (g1 toIntD) [(toV (e2 ixD (rVar 1) (toV (e2 modD (toV (e2 addD (toV (e2 addD (vC (.int 40)) (rVar 8))) (rVar 18))) (vC (.int 60))))))])) (vC (.int 5))))))]))
def fb_law_1 : Ms → Fl := (sCut [8] (sSet 7 (ofV (toV (e2 addD (rVar 7) (toV lc_law_0))))))
def lc_law_2 : Ms → Rz W := (eLc [19] (iSeq (eTup [(toV (e2 addD (toV (e2 ixD (rVar 14) (vC (.int 2)))) (vC (.int 1)))), (toV (e2 subD (toV (e2 ixD (rVar 14) (vC (.int 2)))) (vC (.int 1)))), (vC (.int 51)), (vC (.bool true))])) (gSet 19) (fun _ => .ok true) (toV (e2 addD (eTup [(toV (e2 addD (toV (eSl (rVar 14) oNone (oSome (vC (.int 2))))) (eTup [(vVar 19)])))]) (toV (eSl (rVar 6) (oSome (vC (.int 1))) oNone)))))
def lc_law_3 : Ms → Rz W := (eLc [21] (iSeq (vVar 10)) (gSet 21) (t2 eqD (toV (e2 ixD (rVar 21) (vC (.int 0)))) (rVar 8)) (toV (e2 ixD (rVar 21) (vC (.int 2)))))
def lc_law_4 : Ms → Rz W := (eLc [8] (iArg rng1 [(toV (eCall (g1 lenD) [(rVar 3)]))]) (gSet 8) (fun _ => .ok true) (toV (e2 subD (toV (e2 ixD (toV (e2 ixD (rVar 3) (rVar 8))) (vC (.int 3)))) (toV (eCall (g1 sumD) [(toV lc_law_3)])))))
def fb_law_5 : Ms → Fl := (sCut [10, 15, 16] (sSeq
  (sSet 15 (ofV (vFn m__law_met_due [(vVar 3), (vVar 4), (vVar 10)])))
  (sSeq
  (sIf (tOr' (t2 neD (vFn m_met_fault [(vVar 3), (vVar 4), (vVar 10)]) (rVar 15)) (tAnd' (t2 isN (rVar 15) (vC .none)) (t2 eqD (toV (e2 ixD (rVar 5) (vC (.int 0)))) (vC (.str "short")))))
  (sRet (vC (.bool false)))
  sNil)
  (sSeq
  (sSet 16 (ofV (vIf (t2 isN (rVar 15) (vC .none)) (toV (eCall (g1 tupleD) [(toV lc_law_4)])) (vC (.str "rows")))))
  (sIf (t2 neD (vFn m__law_left [(vVar 3), (vVar 4), (vVar 10)]) (rVar 16))
  (sRet (vC (.bool false)))
  sNil)))))
def lc_law_6 : Ms → Rz W := (eLc [20] (iSeq (vVar 4)) (gSet 20) (fun _ => .ok true) (toV (e2 ixD (rVar 20) (vC (.int 1)))))
def lc_law_7 : Ms → Rz W := (eLc [17] (iArg rng1 [(vC (.int 14))]) (gSet 17) (t2 eqD (toV (e2 modD (toV (eCall (g1 toIntD) [(toV (e2 ixD (rVar 1) (toV (e2 modD (toV (e2 addD (toV (e2 addD (vC (.int 20)) (rVar 17))) (rVar 2))) (vC (.int 60))))))])) (vC (.int 3)))) (vC (.int 0))) (vVar 17))
def fb_law_8 : Ms → Fl := (sCut [10, 15] (sSeq
  (sSet 15 (ofV (vFn m__law_days_due [(vVar 3), (vVar 4), (vVar 13), (vVar 10)])))
  (sIf (tOr' (t2 neD (vFn m_days_fault [(vVar 3), (vVar 4), (vVar 13), (vVar 10)]) (rVar 15)) (tAnd' (t2 isN (rVar 15) (vC .none)) (t2 eqD (toV (e2 ixD (rVar 5) (vC (.int 0)))) (vC (.str "met")))))
  (sRet (vC (.bool false)))
  sNil)))
def fb_law_9 : Ms → Fl := (sCut [10, 13, 15] (sCut [10, 13, 15] (sPre [0, 2, 6, 7, 8, 9, 10, 14, 15, 16] (sFor (iSeq (toV (eLst [(vVar 11), (toV (eSl (rVar 11) (oSome (vC (.int 1))) oNone)), (toV (eSl (rVar 11) oNone (oSome (toV (e1 negD (vC (.int 1))))))), (toV (eRev (rVar 11))), (toV (eCall (g1 listD) [(rVar 11)])), (vVar 12), (toV (eSl (rVar 12) oNone (oSome (vC (.int 2))))), (eTup []), (vC .none), (vC (.int 7)), (toV (e2 addD (rVar 11) (eTup [(vC (.int 14))]))), (toV (e2 addD (eTup [(toV (e1 negD (vC (.int 1))))]) (rVar 11))), (toV (e2 addD (eTup [(vC (.bool true))]) (rVar 11))), (eTup [(vC .none)])]))) (gSet 10)
  fb_law_8))))
def fb_law_10 : Ms → Fl := (sCut [2, 3, 4, 5, 6, 7, 8, 9, 10, 11, 12, 13, 14, 15, 16] (sSeq
  (sAsg (eTup [(vFn m__law_trays [(toV (eSl (rVar 1) (oSome (toV (e2 mulD (vC (.int 5)) (rVar 2)))) oNone))]), (vFn m__law_wishes [(toV (e2 addD (toV (eSl (rVar 1) (oSome (toV (e2 addD (toV (e2 mulD (vC (.int 5)) (rVar 2))) (vC (.int 3))))) oNone)) (rVar 1)))])]) (gTup' 2 (gCons (gSet 3) (gCons (gSet 4) gNil))))
  (sSeq
  (sSet 5 (ofV (vFn m_met [(vVar 3), (vVar 4)])))
  (sSeq
  (sSet 6 (ofV (vIf (t2 eqD (toV (e2 ixD (rVar 5) (vC (.int 0)))) (vC (.str "met"))) (toV (e2 ixD (rVar 5) (vC (.int 1)))) (eTup []))))
  (sSeq
  (sSet 7 (ofV (toV (eLst []))))
  (sSeq
  (sCut [8] (sPre [0, 8, 9, 10, 11, 12, 13, 14, 15, 16] (sFor (iArg rng1 [(toV (eCall (g1 lenD) [(rVar 3)]))]) (gSet 8)
  fb_law_1)))
  (sSeq
  (sSet 7 (ofV (toV (eCall (g1 tupleD) [(rVar 7)]))))
  (sSeq
  (sSet 9 (ofV (toV (eLst [(vVar 6), (toV (eSl (rVar 6) (oSome (vC (.int 1))) oNone)), (toV (eSl (rVar 6) oNone (oSome (toV (e1 negD (vC (.int 1))))))), (toV (eRev (rVar 6))), (toV (eCall (g1 listD) [(rVar 6)])), (vC .none), (vC (.int 7)), (toV (e2 addD (rVar 6) (toV (eSl (rVar 6) (oSome (toV (e1 negD (vC (.int 1))))) oNone)))), (vVar 7), (toV (eSl (rVar 7) oNone (oSome (vC (.int 2))))), (toV (eEv (rVar 7))), (eTup [])]))))
  (sSeq
  (sSet 9 (ofV (toV (e2 addD (rVar 9) (toV (eLst [(toV (e2 addD (rVar 6) (eTup [(vC .none)]))), (toV (e2 addD (rVar 6) (eTup [(eTup [(vC (.int 0)), (vC (.int 0))])]))), (eTup [(eTup [(toV (e1 negD (vC (.int 1)))), (vC (.int 0)), (vC (.int 1))])]), (eTup [(eTup [(toV (eCall (g1 lenD) [(rVar 3)])), (vC (.int 0)), (vC (.int 1))])]), (eTup [(eTup [(vC (.int 0)), (toV (eCall (g1 lenD) [(rVar 4)])), (vC (.int 1))])])]))))))
  (sSeq
  (sCut [14] (sIf (t2 gtD (toV (eCall (g1 lenD) [(rVar 6)])) (vC (.int 0)))
  (sSeq
  (sSet 14 (ofV (toV (e2 ixD (rVar 6) (vC (.int 0))))))
  (sSet 9 (ofV (toV (e2 addD (toV (e2 addD (rVar 9) (toV lc_law_2))) (toV (eLst [(toV (e2 addD (eTup [(toV (e2 addD (eTup [(vC (.bool true))]) (toV (eSl (rVar 14) (oSome (vC (.int 1))) oNone))))]) (toV (eSl (rVar 6) (oSome (vC (.int 1))) oNone))))])))))))
  sNil))
  (sSeq
  (sCut [9, 10, 15, 16] (sPre [0, 6, 7, 8, 10, 11, 12, 13, 14, 15, 16] (sFor (iSeq (vVar 9)) (gSet 10)
  fb_law_5)))
  (sSeq
  (sSet 11 (ofV (vIf (t2 eqD (toV (e2 ixD (rVar 5) (vC (.int 0)))) (vC (.str "short"))) (toV (e2 ixD (rVar 5) (vC (.int 2)))) (toV (eCall (g1 tupleD) [(toV (eSsetG (toV lc_law_6)))])))))
  (sSeq
  (sSet 12 (ofV (toV (eCall (g1 tupleD) [(toV lc_law_7)]))))
  (sCut [3, 4, 5, 10, 11, 12, 13, 15] (sPre [0, 2, 6, 7, 8, 9, 10, 13, 14, 15, 16] (sFor (iSeq (eTup [(vIf (t2 eqD (toV (e2 ixD (rVar 5) (vC (.int 0)))) (vC (.str "short"))) (toV (e2 ixD (rVar 5) (vC (.int 1)))) (vC (.int 0))), (vC (.int 0)), (vC (.int 1)), (vC (.int 5)), (vC (.int 6)), (toV (e1 negD (vC (.int 1)))), (vC (.bool true)), (vC .none)])) (gSet 13)
  fb_law_9))))))))))))))))
def b_law : Ms → Fl := (sSeq
  (sSet 1 (ofV (vFnR m__law_draws 0 (vC (.int 60)))))
  (sSeq
  (sCut [1, 2, 3, 4, 5, 6, 7, 8, 9, 10, 11, 12, 13, 14, 15, 16] (sPre [0, 2, 3, 4, 5, 6, 7, 8, 9, 10, 11, 12, 13, 14, 15, 16] (sFor (iArg rng1 [(vC (.int 6))]) (gSet 2)
  fb_law_10)))
  (sSeq
  (sSet 3 (ofV (eTup [(eTup [(vC (.int 0)), (vC (.int 0)), (vC (.int 3)), (vC (.int 2))]), (eTup [(vC (.int 0)), (vC (.int 2)), (vC (.int 0)), (vC (.int 9))])])))
  (sSeq
  (sSet 4 (ofV (eTup [(eTup [(vC (.int 0)), (vC (.int 1)), (vC (.int 1))]), (eTup [(vC (.int 0)), (vC (.int 3)), (vC (.int 2))])])))
  (sSeq
  (sIf (tOr' (t2 notN (vFn m_days_fault [(vVar 3), (vVar 4), (vC (.int 0)), (eTup [(vC (.int 1)), (vC (.int 3))])]) (vC .none)) (t2 neD (vFn m_days_fault [(vVar 3), (vVar 4), (vC (.int 0)), (eTup [(vC (.int 1)), (vC (.int 2)), (vC (.int 3))])]) (eTup [(vC (.str "enough")), (vC (.int 8))])))
  (sRet (vC (.bool false)))
  sNil)
  (sRet (v2 eqD (vFn m_met_fault [(vVar 3), (eTup [(eTup [(vC (.int 0)), (vC (.int 3)), (vC (.int 2))])]), (eTup [(eTup [(vC (.int 1)), (vC (.int 0)), (vC (.int 2))])])]) (eTup [(vC (.str "tray")), (vC (.int 1)), (vC (.int 0))]))))))))
abbrev S_law (script_ draws_ turn_ trays_ wishes_ told_ base_ pairs_ k_ bent_ value_ days_ drawn_ kind_ one_ due_ left_ day_ n_ count_ wish_ row_ : Option W := none) : Ms := [script_, draws_, turn_, trays_, wishes_, told_, base_, pairs_, k_, bent_, value_, days_, drawn_, kind_, one_, due_, left_, day_, n_, count_, wish_, row_]
def m_law : Ms → Rz PyData := fnW 22 b_law
set_option maxHeartbeats 8000000 in
theorem ok_law (G : Fx K mg ct) : CallW P w K mg base ct 6 "law" 1 m_law := callW_of (N := N_law) (n := 22) (g := b_law) G.d_law sc_law rfl rfl fun f cdv A outer s H E hr => by
  have S := sc_law
  have tk : Takes (cxOf (L2.CX P w) P w K mg base N_law "law" (defScope s_law) f cdv A outer s H E) (fun cls d _ H => E cls d H) := takes_of rfl rfl rfl rfl
  have hp := passes_of (X := cxOf (L2.CX P w) P w K mg base N_law "law" (defScope s_law) f cdv A outer s H E) rfl
  have hu := room_u hr 101 (by decide)
  have hu64 := room_u hr 64 (by decide)
  have hu105 := room_u hr 105 (by decide)
  exact (ds_cons (ds_set 1 (DV.toE (dv_callR 0 (ok__law_draws G) hr (by decide) tk dv_int)) S.nd)
  (ds_cons (ds_cut [1, 2, 3, 4, 5, 6, 7, 8, 9, 10, 11, 12, 13, 14, 15, 16] (ds_pre [0, 2, 3, 4, 5, 6, 7, 8, 9, 10, 11, 12, 13, 14, 15, 16] (ds_for hp (di_range1 (da_cons dv_int da_nil) G.b_range) (dg_name 2 S.nd)
  (dss_cut [2, 3, 4, 5, 6, 7, 8, 9, 10, 11, 12, 13, 14, 15, 16] (ds_cons (ds_asg (dv_tup (da_cons (dv_call (ok__law_trays G) hr (by decide) tk (da_cons (DE.v (de_sl (dr_var 1) (do_some (DV.rd (DE.v (de_op op_mulD ok_mulD (DV.rd dv_int) (dr_var 2))))) do_none)) da_nil)) (da_cons (dv_call (ok__law_wishes G) hr (by decide) tk (da_cons (DE.v (de_op op_addD ok_addD (DV.rd (DE.v (de_sl (dr_var 1) (do_some (DV.rd (DE.v (de_op op_addD ok_addD (DV.rd (DE.v (de_op op_mulD ok_mulD (DV.rd dv_int) (dr_var 2)))) (DV.rd dv_int))))) do_none))) (dr_var 1))) da_nil)) da_nil))) (dg_tup (dgs_cons (dg_name 3 S.nd) (dgs_cons (dg_name 4 S.nd) dgs_nil))))
  (ds_cons (ds_set 5 (DV.toE (dv_call (ok_met G) hr (by decide) tk (da_cons (dv_var 3) (da_cons (dv_var 4) da_nil)))) S.nd)
  (ds_cons (ds_set 6 (DV.toE (dv_if (dt_cmp (op_eqG hu) cmpOk_of (DV.rd (DE.v (de_ix (dr_var 5) (DV.rd dv_int)))) (DV.rd dv_str) (by rfl)) (DE.v (de_ix (dr_var 5) (DV.rd dv_int))) (dv_tup da_nil))) S.nd)
  (ds_cons (ds_set 7 (DV.toE (DE.v (de_lst da_nil))) S.nd)
  (ds_cons (ds_cut [8] (ds_pre [0, 8, 9, 10, 11, 12, 13, 14, 15, 16] (ds_for hp (di_range1 (da_cons (DE.v (de_callB call_len ok_lenD (by decide +kernel) G.b_len (db_cons (dr_var 3) db_nil))) da_nil) G.b_range) (dg_name 8 S.nd)
  (dss_cut [8] (ds_one (ds_set 7 (DV.toE (DE.v (de_op op_addD ok_addD (dr_var 7) (DV.rd (DE.v (de_lc S.nd (di_range1 (da_cons (DE.v (de_callB call_len ok_lenD (by decide +kernel) G.b_len (db_cons (dr_var 4) db_nil))) da_nil) G.b_range) (blkOk_by (own := [("n", 18)]) (by rfl)) (fun _ _ _ _ _ => (dg_name 18 S.nd)) (fun _ _ _ _ _ => (dts_one (DW.t (dw_or (dt_val (DV.rd (dv_call (ok__law_has G) hr (by decide) takes0 (da_cons (DE.v (de_ix (dr_var 3) (dr_var 8))) (da_cons (DE.v (de_ix (dr_var 4) (dr_var 18))) da_nil))))) (dw_or1 (dt_cmp (op_eqG hu) cmpOk_of (DV.rd (DE.v (de_op op_mod ok_modD (DV.rd (DE.v (de_callTy call_int1 ok_toIntD (by decide +kernel) G.b_int (db_cons (DV.rd (DE.v (de_ix (dr_var 1) (DV.rd (DE.v (de_op op_mod ok_modD (DV.rd (DE.v (de_op op_addD ok_addD (DV.rd (DE.v (de_op op_addD ok_addD (DV.rd dv_int) (DV.rd (DE.v (de_op op_mulD ok_mulD (DV.rd dv_int) (dr_var 8))))))) (dr_var 18)))) (DV.rd dv_int))))))) db_nil)))) (DV.rd dv_int)))) (DV.rd dv_int) (by rfl))))))) (fun _ _ _ _ _ => (dv_tup (da_cons (dv_var 8) (da_cons (dv_var 18) (da_cons (DE.v (de_op op_addD ok_addD (DV.rd dv_int) (DV.rd (DE.v (de_op op_mod ok_modD (DV.rd (DE.v (de_callTy call_int1 ok_toIntD (by decide +kernel) G.b_int (db_cons (DV.rd (DE.v (de_ix (dr_var 1) (DV.rd (DE.v (de_op op_mod ok_modD (DV.rd (DE.v (de_op op_addD ok_addD (DV.rd (DE.v (de_op op_addD ok_addD (DV.rd dv_int) (dr_var 8)))) (dr_var 18)))) (DV.rd dv_int))))))) db_nil)))) (DV.rd dv_int)))))) da_nil))))))))))) S.nd))))))
  (ds_cons (ds_set 7 (DV.toE (DE.v (de_callTy call_tuple_of ok_tupleD (by decide +kernel) G.b_tuple (db_cons (dr_var 7) db_nil)))) S.nd)
  (ds_cons (ds_set 9 (DV.toE (DE.v (de_lst (da_cons (dv_var 6) (da_cons (DE.v (de_sl (dr_var 6) (do_some (DV.rd dv_int)) do_none)) (da_cons (DE.v (de_sl (dr_var 6) do_none (do_some (DV.rd (DE.v (de_neg (DV.rd dv_int))))))) (da_cons (DE.v (de_rev (dr_var 6))) (da_cons (DE.v (de_callTy call_list_of ok_listD (by decide +kernel) G.b_list (db_cons (dr_var 6) db_nil))) (da_cons dv_non (da_cons dv_int (da_cons (DE.v (de_op op_addD ok_addD (dr_var 6) (DV.rd (DE.v (de_sl (dr_var 6) (do_some (DV.rd (DE.v (de_neg (DV.rd dv_int))))) do_none))))) (da_cons (dv_var 7) (da_cons (DE.v (de_sl (dr_var 7) do_none (do_some (DV.rd dv_int)))) (da_cons (DE.v (de_ev (dr_var 7))) (da_cons (dv_tup da_nil) da_nil))))))))))))))) S.nd)
  (ds_cons (ds_set 9 (DV.toE (DE.v (de_op op_addD ok_addD (dr_var 9) (DV.rd (DE.v (de_lst (da_cons (DE.v (de_op op_addD ok_addD (dr_var 6) (DV.rd (dv_tup (da_cons dv_non da_nil))))) (da_cons (DE.v (de_op op_addD ok_addD (dr_var 6) (DV.rd (dv_tup (da_cons (dv_tup (da_cons dv_int (da_cons dv_int da_nil))) da_nil))))) (da_cons (dv_tup (da_cons (dv_tup (da_cons (DE.v (de_neg (DV.rd dv_int))) (da_cons dv_int (da_cons dv_int da_nil)))) da_nil)) (da_cons (dv_tup (da_cons (dv_tup (da_cons (DE.v (de_callB call_len ok_lenD (by decide +kernel) G.b_len (db_cons (dr_var 3) db_nil))) (da_cons dv_int (da_cons dv_int da_nil)))) da_nil)) (da_cons (dv_tup (da_cons (dv_tup (da_cons dv_int (da_cons (DE.v (de_callB call_len ok_lenD (by decide +kernel) G.b_len (db_cons (dr_var 4) db_nil))) (da_cons dv_int da_nil)))) da_nil)) da_nil))))))))))) S.nd)
  (ds_cons (ds_cut [14] (ds_if (dt_cmp (op_gtG hu) cmpOk_of (DV.rd (DE.v (de_callB call_len ok_lenD (by decide +kernel) G.b_len (db_cons (dr_var 6) db_nil)))) (DV.rd dv_int) (by rfl))
  (ds_cons (ds_set 14 (DV.toE (DE.v (de_ix (dr_var 6) (DV.rd dv_int)))) S.nd)
  (ds_one (ds_set 9 (DV.toE (DE.v (de_op op_addD ok_addD (DV.rd (DE.v (de_op op_addD ok_addD (dr_var 9) (DV.rd (DE.v (de_lc S.nd (di_seq (dv_tup (da_cons (DE.v (de_op op_addD ok_addD (DV.rd (DE.v (de_ix (dr_var 14) (DV.rd dv_int)))) (DV.rd dv_int))) (da_cons (DE.v (de_op op_sub ok_subD (DV.rd (DE.v (de_ix (dr_var 14) (DV.rd dv_int)))) (DV.rd dv_int))) (da_cons dv_int (da_cons dv_bl da_nil)))))) (blkOk_by (own := [("count", 19)]) (by rfl)) (fun _ _ _ _ _ => (dg_name 19 S.nd)) (fun _ _ _ _ _ => dts_nil) (fun _ _ _ _ _ => (DE.v (de_op op_addD ok_addD (DV.rd (dv_tup (da_cons (DE.v (de_op op_addD ok_addD (DV.rd (DE.v (de_sl (dr_var 14) do_none (do_some (DV.rd dv_int))))) (DV.rd (dv_tup (da_cons (dv_var 19) da_nil))))) da_nil))) (DV.rd (DE.v (de_sl (dr_var 6) (do_some (DV.rd dv_int)) do_none)))))))))))) (DV.rd (DE.v (de_lst (da_cons (DE.v (de_op op_addD ok_addD (DV.rd (dv_tup (da_cons (DE.v (de_op op_addD ok_addD (DV.rd (dv_tup (da_cons dv_bl da_nil))) (DV.rd (DE.v (de_sl (dr_var 14) (do_some (DV.rd dv_int)) do_none))))) da_nil))) (DV.rd (DE.v (de_sl (dr_var 6) (do_some (DV.rd dv_int)) do_none))))) da_nil))))))) S.nd)))
  ds_nil))
  (ds_cons (ds_cut [9, 10, 15, 16] (ds_pre [0, 6, 7, 8, 10, 11, 12, 13, 14, 15, 16] (ds_for hp (di_seq (dv_var 9)) (dg_name 10 S.nd)
  (dss_cut [10, 15, 16] (ds_cons (ds_set 15 (DV.toE (dv_call (ok__law_met_due G) hr (by decide) tk (da_cons (dv_var 3) (da_cons (dv_var 4) (da_cons (dv_var 10) da_nil))))) S.nd)
  (ds_cons (ds_if (DW.t (dw_or (dt_cmp (op_neG hu) cmpOk_of (DV.rd (dv_call (ok_met_fault G) hr (by decide) tk (da_cons (dv_var 3) (da_cons (dv_var 4) (da_cons (dv_var 10) da_nil))))) (dr_var 15) (by rfl)) (dw_or1 (DW.t (dw_and (dt_cmp op_isN cmpOk_isN (dr_var 15) (DV.rd dv_non) (by rfl)) (dw_and1 (dt_cmp (op_eqG hu) cmpOk_of (DV.rd (DE.v (de_ix (dr_var 5) (DV.rd dv_int)))) (DV.rd dv_str) (by rfl))))))))
  (ds_one (ds_ret dv_bl))
  ds_nil)
  (ds_cons (ds_set 16 (DV.toE (dv_if (dt_cmp op_isN cmpOk_isN (dr_var 15) (DV.rd dv_non) (by rfl)) (DE.v (de_callTy call_tuple_of ok_tupleD (by decide +kernel) G.b_tuple (db_cons (DV.rd (DE.v (de_lc S.nd (di_range1 (da_cons (DE.v (de_callB call_len ok_lenD (by decide +kernel) G.b_len (db_cons (dr_var 3) db_nil))) da_nil) G.b_range) (blkOk_by (own := [("k", 8)]) (by rfl)) (fun _ _ _ _ _ => (dg_name 8 S.nd)) (fun _ _ _ _ _ => dts_nil) (fun _ _ _ _ _ => (DE.v (de_op op_sub ok_subD (DV.rd (DE.v (de_ix (DV.rd (DE.v (de_ix (dr_var 3) (dr_var 8)))) (DV.rd dv_int)))) (DV.rd (DE.v (de_callB (cr_sumD rfl) ok_sumD (by decide +kernel) G.b_sum (db_cons (DV.rd (DE.v (de_lc S.nd (di_seq (dv_var 10)) (blkOk_by (own := [("row", 21)]) (by rfl)) (fun _ _ _ _ _ => (dg_name 21 S.nd)) (fun _ _ _ _ _ => (dts_one (dt_cmp (op_eqG hu) cmpOk_of (DV.rd (DE.v (de_ix (dr_var 21) (DV.rd dv_int)))) (dr_var 8) (by rfl)))) (fun _ _ _ _ _ => (DE.v (de_ix (dr_var 21) (DV.rd dv_int))))))) db_nil)))))))))) db_nil))) dv_str)) S.nd)
  (ds_one (ds_if (dt_cmp (op_neG hu) cmpOk_of (DV.rd (dv_call (ok__law_left G) hr (by decide) tk (da_cons (dv_var 3) (da_cons (dv_var 4) (da_cons (dv_var 10) da_nil))))) (dr_var 16) (by rfl))
  (ds_one (ds_ret dv_bl))
  ds_nil)))))))))
  (ds_cons (ds_set 11 (DV.toE (dv_if (dt_cmp (op_eqG hu) cmpOk_of (DV.rd (DE.v (de_ix (dr_var 5) (DV.rd dv_int)))) (DV.rd dv_str) (by rfl)) (DE.v (de_ix (dr_var 5) (DV.rd dv_int))) (DE.v (de_callTy call_tuple_of ok_tupleD (by decide +kernel) G.b_tuple (db_cons (DV.rd (DE.v (de_ssetG hu64 (DV.rd (DE.v (de_lc S.nd (di_seq (dv_var 4)) (blkOk_by (own := [("wish", 20)]) (by rfl)) (fun _ _ _ _ _ => (dg_name 20 S.nd)) (fun _ _ _ _ _ => dts_nil) (fun _ _ _ _ _ => (DE.v (de_ix (dr_var 20) (DV.rd dv_int))))))) G.b_sorted G.b_set))) db_nil))))) S.nd)
  (ds_cons (ds_set 12 (DV.toE (DE.v (de_callTy call_tuple_of ok_tupleD (by decide +kernel) G.b_tuple (db_cons (DV.rd (DE.v (de_lc S.nd (di_range1 (da_cons dv_int da_nil) G.b_range) (blkOk_by (own := [("day", 17)]) (by rfl)) (fun _ _ _ _ _ => (dg_name 17 S.nd)) (fun _ _ _ _ _ => (dts_one (dt_cmp (op_eqG hu) cmpOk_of (DV.rd (DE.v (de_op op_mod ok_modD (DV.rd (DE.v (de_callTy call_int1 ok_toIntD (by decide +kernel) G.b_int (db_cons (DV.rd (DE.v (de_ix (dr_var 1) (DV.rd (DE.v (de_op op_mod ok_modD (DV.rd (DE.v (de_op op_addD ok_addD (DV.rd (DE.v (de_op op_addD ok_addD (DV.rd dv_int) (dr_var 17)))) (dr_var 2)))) (DV.rd dv_int))))))) db_nil)))) (DV.rd dv_int)))) (DV.rd dv_int) (by rfl)))) (fun _ _ _ _ _ => (dv_var 17))))) db_nil)))) S.nd)
  (ds_one (ds_cut [3, 4, 5, 10, 11, 12, 13, 15] (ds_pre [0, 2, 6, 7, 8, 9, 10, 13, 14, 15, 16] (ds_for hp (di_seq (dv_tup (da_cons (dv_if (dt_cmp (op_eqG hu) cmpOk_of (DV.rd (DE.v (de_ix (dr_var 5) (DV.rd dv_int)))) (DV.rd dv_str) (by rfl)) (DE.v (de_ix (dr_var 5) (DV.rd dv_int))) dv_int) (da_cons dv_int (da_cons dv_int (da_cons dv_int (da_cons dv_int (da_cons (DE.v (de_neg (DV.rd dv_int))) (da_cons dv_bl (da_cons dv_non da_nil)))))))))) (dg_name 13 S.nd)
  (dss_cut [10, 13, 15] (ds_one (ds_cut [10, 13, 15] (ds_pre [0, 2, 6, 7, 8, 9, 10, 14, 15, 16] (ds_for hp (di_seq (DE.v (de_lst (da_cons (dv_var 11) (da_cons (DE.v (de_sl (dr_var 11) (do_some (DV.rd dv_int)) do_none)) (da_cons (DE.v (de_sl (dr_var 11) do_none (do_some (DV.rd (DE.v (de_neg (DV.rd dv_int))))))) (da_cons (DE.v (de_rev (dr_var 11))) (da_cons (DE.v (de_callTy call_list_of ok_listD (by decide +kernel) G.b_list (db_cons (dr_var 11) db_nil))) (da_cons (dv_var 12) (da_cons (DE.v (de_sl (dr_var 12) do_none (do_some (DV.rd dv_int)))) (da_cons (dv_tup da_nil) (da_cons dv_non (da_cons dv_int (da_cons (DE.v (de_op op_addD ok_addD (dr_var 11) (DV.rd (dv_tup (da_cons dv_int da_nil))))) (da_cons (DE.v (de_op op_addD ok_addD (DV.rd (dv_tup (da_cons (DE.v (de_neg (DV.rd dv_int))) da_nil))) (dr_var 11))) (da_cons (DE.v (de_op op_addD ok_addD (DV.rd (dv_tup (da_cons dv_bl da_nil))) (dr_var 11))) (da_cons (dv_tup (da_cons dv_non da_nil)) da_nil))))))))))))))))) (dg_name 10 S.nd)
  (dss_cut [10, 15] (ds_cons (ds_set 15 (DV.toE (dv_call (ok__law_days_due G) hr (by decide) tk (da_cons (dv_var 3) (da_cons (dv_var 4) (da_cons (dv_var 13) (da_cons (dv_var 10) da_nil)))))) S.nd)
  (ds_one (ds_if (DW.t (dw_or (dt_cmp (op_neG hu) cmpOk_of (DV.rd (dv_call (ok_days_fault G) hr (by decide) tk (da_cons (dv_var 3) (da_cons (dv_var 4) (da_cons (dv_var 13) (da_cons (dv_var 10) da_nil)))))) (dr_var 15) (by rfl)) (dw_or1 (DW.t (dw_and (dt_cmp op_isN cmpOk_isN (dr_var 15) (DV.rd dv_non) (by rfl)) (dw_and1 (dt_cmp (op_eqG hu) cmpOk_of (DV.rd (DE.v (de_ix (dr_var 5) (DV.rd dv_int)))) (DV.rd dv_str) (by rfl))))))))
  (ds_one (ds_ret dv_bl))
  ds_nil)))))))))))))))))))))))))))))
  (ds_cons (ds_set 3 (DV.toE (dv_tup (da_cons (dv_tup (da_cons dv_int (da_cons dv_int (da_cons dv_int (da_cons dv_int da_nil))))) (da_cons (dv_tup (da_cons dv_int (da_cons dv_int (da_cons dv_int (da_cons dv_int da_nil))))) da_nil)))) S.nd)
  (ds_cons (ds_set 4 (DV.toE (dv_tup (da_cons (dv_tup (da_cons dv_int (da_cons dv_int (da_cons dv_int da_nil)))) (da_cons (dv_tup (da_cons dv_int (da_cons dv_int (da_cons dv_int da_nil)))) da_nil)))) S.nd)
  (ds_cons (ds_if (DW.t (dw_or (dt_cmp op_notN cmpOk_notN (DV.rd (dv_call (ok_days_fault G) hr (by decide) tk (da_cons (dv_var 3) (da_cons (dv_var 4) (da_cons dv_int (da_cons (dv_tup (da_cons dv_int (da_cons dv_int da_nil))) da_nil)))))) (DV.rd dv_non) (by rfl)) (dw_or1 (dt_cmp (op_neG hu) cmpOk_of (DV.rd (dv_call (ok_days_fault G) hr (by decide) tk (da_cons (dv_var 3) (da_cons (dv_var 4) (da_cons dv_int (da_cons (dv_tup (da_cons dv_int (da_cons dv_int (da_cons dv_int da_nil)))) da_nil)))))) (DV.rd (dv_tup (da_cons dv_str (da_cons dv_int da_nil)))) (by rfl)))))
  (ds_one (ds_ret dv_bl))
  ds_nil)
  (ds_one (ds_ret (dv_cmp (op_eqG hu) cmpOk_of (DV.rd (dv_call (ok_met_fault G) hr (by decide) tk (da_cons (dv_var 3) (da_cons (dv_tup (da_cons (dv_tup (da_cons dv_int (da_cons dv_int (da_cons dv_int da_nil)))) da_nil)) (da_cons (dv_tup (da_cons (dv_tup (da_cons dv_int (da_cons dv_int (da_cons dv_int da_nil)))) da_nil)) da_nil))))) (DV.rd (dv_tup (da_cons dv_str (da_cons dv_int (da_cons dv_int da_nil))))) (by rfl)))))))))
set_option maxHeartbeats 8000000 in
theorem fn_law (G : Fx K mg ct) {f : Addr} {fd : FuncData} (F : Fun K "law" "law" s_law f fd) : FnOk P w K mg base (L2.CX P w) 6 f fd ["script"] (spW ct K ["script"].length (fnW N_law.length b_law)) := fn_body (N := N_law) (g := b_law) F sc_law fun cdv A outer s H E hr => by
  have S := sc_law
  have tk : Takes (cxOf (L2.CX P w) P w K mg base N_law "law" (defScope s_law) f cdv A outer s H E) (fun cls d _ H => E cls d H) := takes_of rfl rfl rfl rfl
  have hp := passes_of (X := cxOf (L2.CX P w) P w K mg base N_law "law" (defScope s_law) f cdv A outer s H E) rfl
  have hu := room_u hr 101 (by decide)
  have hu64 := room_u hr 64 (by decide)
  have hu105 := room_u hr 105 (by decide)
  exact (ds_cons (ds_set 1 (DV.toE (dv_callR 0 (ok__law_draws G) hr (by decide) tk dv_int)) S.nd)
  (ds_cons (ds_cut [1, 2, 3, 4, 5, 6, 7, 8, 9, 10, 11, 12, 13, 14, 15, 16] (ds_pre [0, 2, 3, 4, 5, 6, 7, 8, 9, 10, 11, 12, 13, 14, 15, 16] (ds_for hp (di_range1 (da_cons dv_int da_nil) G.b_range) (dg_name 2 S.nd)
  (dss_cut [2, 3, 4, 5, 6, 7, 8, 9, 10, 11, 12, 13, 14, 15, 16] (ds_cons (ds_asg (dv_tup (da_cons (dv_call (ok__law_trays G) hr (by decide) tk (da_cons (DE.v (de_sl (dr_var 1) (do_some (DV.rd (DE.v (de_op op_mulD ok_mulD (DV.rd dv_int) (dr_var 2))))) do_none)) da_nil)) (da_cons (dv_call (ok__law_wishes G) hr (by decide) tk (da_cons (DE.v (de_op op_addD ok_addD (DV.rd (DE.v (de_sl (dr_var 1) (do_some (DV.rd (DE.v (de_op op_addD ok_addD (DV.rd (DE.v (de_op op_mulD ok_mulD (DV.rd dv_int) (dr_var 2)))) (DV.rd dv_int))))) do_none))) (dr_var 1))) da_nil)) da_nil))) (dg_tup (dgs_cons (dg_name 3 S.nd) (dgs_cons (dg_name 4 S.nd) dgs_nil))))
  (ds_cons (ds_set 5 (DV.toE (dv_call (ok_met G) hr (by decide) tk (da_cons (dv_var 3) (da_cons (dv_var 4) da_nil)))) S.nd)
  (ds_cons (ds_set 6 (DV.toE (dv_if (dt_cmp (op_eqG hu) cmpOk_of (DV.rd (DE.v (de_ix (dr_var 5) (DV.rd dv_int)))) (DV.rd dv_str) (by rfl)) (DE.v (de_ix (dr_var 5) (DV.rd dv_int))) (dv_tup da_nil))) S.nd)
  (ds_cons (ds_set 7 (DV.toE (DE.v (de_lst da_nil))) S.nd)
  (ds_cons (ds_cut [8] (ds_pre [0, 8, 9, 10, 11, 12, 13, 14, 15, 16] (ds_for hp (di_range1 (da_cons (DE.v (de_callB call_len ok_lenD (by decide +kernel) G.b_len (db_cons (dr_var 3) db_nil))) da_nil) G.b_range) (dg_name 8 S.nd)
  (dss_cut [8] (ds_one (ds_set 7 (DV.toE (DE.v (de_op op_addD ok_addD (dr_var 7) (DV.rd (DE.v (de_lc S.nd (di_range1 (da_cons (DE.v (de_callB call_len ok_lenD (by decide +kernel) G.b_len (db_cons (dr_var 4) db_nil))) da_nil) G.b_range) (blkOk_by (own := [("n", 18)]) (by rfl)) (fun _ _ _ _ _ => (dg_name 18 S.nd)) (fun _ _ _ _ _ => (dts_one (DW.t (dw_or (dt_val (DV.rd (dv_call (ok__law_has G) hr (by decide) takes0 (da_cons (DE.v (de_ix (dr_var 3) (dr_var 8))) (da_cons (DE.v (de_ix (dr_var 4) (dr_var 18))) da_nil))))) (dw_or1 (dt_cmp (op_eqG hu) cmpOk_of (DV.rd (DE.v (de_op op_mod ok_modD (DV.rd (DE.v (de_callTy call_int1 ok_toIntD (by decide +kernel) G.b_int (db_cons (DV.rd (DE.v (de_ix (dr_var 1) (DV.rd (DE.v (de_op op_mod ok_modD (DV.rd (DE.v (de_op op_addD ok_addD (DV.rd (DE.v (de_op op_addD ok_addD (DV.rd dv_int) (DV.rd (DE.v (de_op op_mulD ok_mulD (DV.rd dv_int) (dr_var 8))))))) (dr_var 18)))) (DV.rd dv_int))))))) db_nil)))) (DV.rd dv_int)))) (DV.rd dv_int) (by rfl))))))) (fun _ _ _ _ _ => (dv_tup (da_cons (dv_var 8) (da_cons (dv_var 18) (da_cons (DE.v (de_op op_addD ok_addD (DV.rd dv_int) (DV.rd (DE.v (de_op op_mod ok_modD (DV.rd (DE.v (de_callTy call_int1 ok_toIntD (by decide +kernel) G.b_int (db_cons (DV.rd (DE.v (de_ix (dr_var 1) (DV.rd (DE.v (de_op op_mod ok_modD (DV.rd (DE.v (de_op op_addD ok_addD (DV.rd (DE.v (de_op op_addD ok_addD (DV.rd dv_int) (dr_var 8)))) (dr_var 18)))) (DV.rd dv_int))))))) db_nil)))) (DV.rd dv_int)))))) da_nil))))))))))) S.nd))))))
  (ds_cons (ds_set 7 (DV.toE (DE.v (de_callTy call_tuple_of ok_tupleD (by decide +kernel) G.b_tuple (db_cons (dr_var 7) db_nil)))) S.nd)
  (ds_cons (ds_set 9 (DV.toE (DE.v (de_lst (da_cons (dv_var 6) (da_cons (DE.v (de_sl (dr_var 6) (do_some (DV.rd dv_int)) do_none)) (da_cons (DE.v (de_sl (dr_var 6) do_none (do_some (DV.rd (DE.v (de_neg (DV.rd dv_int))))))) (da_cons (DE.v (de_rev (dr_var 6))) (da_cons (DE.v (de_callTy call_list_of ok_listD (by decide +kernel) G.b_list (db_cons (dr_var 6) db_nil))) (da_cons dv_non (da_cons dv_int (da_cons (DE.v (de_op op_addD ok_addD (dr_var 6) (DV.rd (DE.v (de_sl (dr_var 6) (do_some (DV.rd (DE.v (de_neg (DV.rd dv_int))))) do_none))))) (da_cons (dv_var 7) (da_cons (DE.v (de_sl (dr_var 7) do_none (do_some (DV.rd dv_int)))) (da_cons (DE.v (de_ev (dr_var 7))) (da_cons (dv_tup da_nil) da_nil))))))))))))))) S.nd)
  (ds_cons (ds_set 9 (DV.toE (DE.v (de_op op_addD ok_addD (dr_var 9) (DV.rd (DE.v (de_lst (da_cons (DE.v (de_op op_addD ok_addD (dr_var 6) (DV.rd (dv_tup (da_cons dv_non da_nil))))) (da_cons (DE.v (de_op op_addD ok_addD (dr_var 6) (DV.rd (dv_tup (da_cons (dv_tup (da_cons dv_int (da_cons dv_int da_nil))) da_nil))))) (da_cons (dv_tup (da_cons (dv_tup (da_cons (DE.v (de_neg (DV.rd dv_int))) (da_cons dv_int (da_cons dv_int da_nil)))) da_nil)) (da_cons (dv_tup (da_cons (dv_tup (da_cons (DE.v (de_callB call_len ok_lenD (by decide +kernel) G.b_len (db_cons (dr_var 3) db_nil))) (da_cons dv_int (da_cons dv_int da_nil)))) da_nil)) (da_cons (dv_tup (da_cons (dv_tup (da_cons dv_int (da_cons (DE.v (de_callB call_len ok_lenD (by decide +kernel) G.b_len (db_cons (dr_var 4) db_nil))) (da_cons dv_int da_nil)))) da_nil)) da_nil))))))))))) S.nd)
  (ds_cons (ds_cut [14] (ds_if (dt_cmp (op_gtG hu) cmpOk_of (DV.rd (DE.v (de_callB call_len ok_lenD (by decide +kernel) G.b_len (db_cons (dr_var 6) db_nil)))) (DV.rd dv_int) (by rfl))
  (ds_cons (ds_set 14 (DV.toE (DE.v (de_ix (dr_var 6) (DV.rd dv_int)))) S.nd)
  (ds_one (ds_set 9 (DV.toE (DE.v (de_op op_addD ok_addD (DV.rd (DE.v (de_op op_addD ok_addD (dr_var 9) (DV.rd (DE.v (de_lc S.nd (di_seq (dv_tup (da_cons (DE.v (de_op op_addD ok_addD (DV.rd (DE.v (de_ix (dr_var 14) (DV.rd dv_int)))) (DV.rd dv_int))) (da_cons (DE.v (de_op op_sub ok_subD (DV.rd (DE.v (de_ix (dr_var 14) (DV.rd dv_int)))) (DV.rd dv_int))) (da_cons dv_int (da_cons dv_bl da_nil)))))) (blkOk_by (own := [("count", 19)]) (by rfl)) (fun _ _ _ _ _ => (dg_name 19 S.nd)) (fun _ _ _ _ _ => dts_nil) (fun _ _ _ _ _ => (DE.v (de_op op_addD ok_addD (DV.rd (dv_tup (da_cons (DE.v (de_op op_addD ok_addD (DV.rd (DE.v (de_sl (dr_var 14) do_none (do_some (DV.rd dv_int))))) (DV.rd (dv_tup (da_cons (dv_var 19) da_nil))))) da_nil))) (DV.rd (DE.v (de_sl (dr_var 6) (do_some (DV.rd dv_int)) do_none)))))))))))) (DV.rd (DE.v (de_lst (da_cons (DE.v (de_op op_addD ok_addD (DV.rd (dv_tup (da_cons (DE.v (de_op op_addD ok_addD (DV.rd (dv_tup (da_cons dv_bl da_nil))) (DV.rd (DE.v (de_sl (dr_var 14) (do_some (DV.rd dv_int)) do_none))))) da_nil))) (DV.rd (DE.v (de_sl (dr_var 6) (do_some (DV.rd dv_int)) do_none))))) da_nil))))))) S.nd)))
  ds_nil))
  (ds_cons (ds_cut [9, 10, 15, 16] (ds_pre [0, 6, 7, 8, 10, 11, 12, 13, 14, 15, 16] (ds_for hp (di_seq (dv_var 9)) (dg_name 10 S.nd)
  (dss_cut [10, 15, 16] (ds_cons (ds_set 15 (DV.toE (dv_call (ok__law_met_due G) hr (by decide) tk (da_cons (dv_var 3) (da_cons (dv_var 4) (da_cons (dv_var 10) da_nil))))) S.nd)
  (ds_cons (ds_if (DW.t (dw_or (dt_cmp (op_neG hu) cmpOk_of (DV.rd (dv_call (ok_met_fault G) hr (by decide) tk (da_cons (dv_var 3) (da_cons (dv_var 4) (da_cons (dv_var 10) da_nil))))) (dr_var 15) (by rfl)) (dw_or1 (DW.t (dw_and (dt_cmp op_isN cmpOk_isN (dr_var 15) (DV.rd dv_non) (by rfl)) (dw_and1 (dt_cmp (op_eqG hu) cmpOk_of (DV.rd (DE.v (de_ix (dr_var 5) (DV.rd dv_int)))) (DV.rd dv_str) (by rfl))))))))
  (ds_one (ds_ret dv_bl))
  ds_nil)
  (ds_cons (ds_set 16 (DV.toE (dv_if (dt_cmp op_isN cmpOk_isN (dr_var 15) (DV.rd dv_non) (by rfl)) (DE.v (de_callTy call_tuple_of ok_tupleD (by decide +kernel) G.b_tuple (db_cons (DV.rd (DE.v (de_lc S.nd (di_range1 (da_cons (DE.v (de_callB call_len ok_lenD (by decide +kernel) G.b_len (db_cons (dr_var 3) db_nil))) da_nil) G.b_range) (blkOk_by (own := [("k", 8)]) (by rfl)) (fun _ _ _ _ _ => (dg_name 8 S.nd)) (fun _ _ _ _ _ => dts_nil) (fun _ _ _ _ _ => (DE.v (de_op op_sub ok_subD (DV.rd (DE.v (de_ix (DV.rd (DE.v (de_ix (dr_var 3) (dr_var 8)))) (DV.rd dv_int)))) (DV.rd (DE.v (de_callB (cr_sumD rfl) ok_sumD (by decide +kernel) G.b_sum (db_cons (DV.rd (DE.v (de_lc S.nd (di_seq (dv_var 10)) (blkOk_by (own := [("row", 21)]) (by rfl)) (fun _ _ _ _ _ => (dg_name 21 S.nd)) (fun _ _ _ _ _ => (dts_one (dt_cmp (op_eqG hu) cmpOk_of (DV.rd (DE.v (de_ix (dr_var 21) (DV.rd dv_int)))) (dr_var 8) (by rfl)))) (fun _ _ _ _ _ => (DE.v (de_ix (dr_var 21) (DV.rd dv_int))))))) db_nil)))))))))) db_nil))) dv_str)) S.nd)
  (ds_one (ds_if (dt_cmp (op_neG hu) cmpOk_of (DV.rd (dv_call (ok__law_left G) hr (by decide) tk (da_cons (dv_var 3) (da_cons (dv_var 4) (da_cons (dv_var 10) da_nil))))) (dr_var 16) (by rfl))
  (ds_one (ds_ret dv_bl))
  ds_nil)))))))))
  (ds_cons (ds_set 11 (DV.toE (dv_if (dt_cmp (op_eqG hu) cmpOk_of (DV.rd (DE.v (de_ix (dr_var 5) (DV.rd dv_int)))) (DV.rd dv_str) (by rfl)) (DE.v (de_ix (dr_var 5) (DV.rd dv_int))) (DE.v (de_callTy call_tuple_of ok_tupleD (by decide +kernel) G.b_tuple (db_cons (DV.rd (DE.v (de_ssetG hu64 (DV.rd (DE.v (de_lc S.nd (di_seq (dv_var 4)) (blkOk_by (own := [("wish", 20)]) (by rfl)) (fun _ _ _ _ _ => (dg_name 20 S.nd)) (fun _ _ _ _ _ => dts_nil) (fun _ _ _ _ _ => (DE.v (de_ix (dr_var 20) (DV.rd dv_int))))))) G.b_sorted G.b_set))) db_nil))))) S.nd)
  (ds_cons (ds_set 12 (DV.toE (DE.v (de_callTy call_tuple_of ok_tupleD (by decide +kernel) G.b_tuple (db_cons (DV.rd (DE.v (de_lc S.nd (di_range1 (da_cons dv_int da_nil) G.b_range) (blkOk_by (own := [("day", 17)]) (by rfl)) (fun _ _ _ _ _ => (dg_name 17 S.nd)) (fun _ _ _ _ _ => (dts_one (dt_cmp (op_eqG hu) cmpOk_of (DV.rd (DE.v (de_op op_mod ok_modD (DV.rd (DE.v (de_callTy call_int1 ok_toIntD (by decide +kernel) G.b_int (db_cons (DV.rd (DE.v (de_ix (dr_var 1) (DV.rd (DE.v (de_op op_mod ok_modD (DV.rd (DE.v (de_op op_addD ok_addD (DV.rd (DE.v (de_op op_addD ok_addD (DV.rd dv_int) (dr_var 17)))) (dr_var 2)))) (DV.rd dv_int))))))) db_nil)))) (DV.rd dv_int)))) (DV.rd dv_int) (by rfl)))) (fun _ _ _ _ _ => (dv_var 17))))) db_nil)))) S.nd)
  (ds_one (ds_cut [3, 4, 5, 10, 11, 12, 13, 15] (ds_pre [0, 2, 6, 7, 8, 9, 10, 13, 14, 15, 16] (ds_for hp (di_seq (dv_tup (da_cons (dv_if (dt_cmp (op_eqG hu) cmpOk_of (DV.rd (DE.v (de_ix (dr_var 5) (DV.rd dv_int)))) (DV.rd dv_str) (by rfl)) (DE.v (de_ix (dr_var 5) (DV.rd dv_int))) dv_int) (da_cons dv_int (da_cons dv_int (da_cons dv_int (da_cons dv_int (da_cons (DE.v (de_neg (DV.rd dv_int))) (da_cons dv_bl (da_cons dv_non da_nil)))))))))) (dg_name 13 S.nd)
  (dss_cut [10, 13, 15] (ds_one (ds_cut [10, 13, 15] (ds_pre [0, 2, 6, 7, 8, 9, 10, 14, 15, 16] (ds_for hp (di_seq (DE.v (de_lst (da_cons (dv_var 11) (da_cons (DE.v (de_sl (dr_var 11) (do_some (DV.rd dv_int)) do_none)) (da_cons (DE.v (de_sl (dr_var 11) do_none (do_some (DV.rd (DE.v (de_neg (DV.rd dv_int))))))) (da_cons (DE.v (de_rev (dr_var 11))) (da_cons (DE.v (de_callTy call_list_of ok_listD (by decide +kernel) G.b_list (db_cons (dr_var 11) db_nil))) (da_cons (dv_var 12) (da_cons (DE.v (de_sl (dr_var 12) do_none (do_some (DV.rd dv_int)))) (da_cons (dv_tup da_nil) (da_cons dv_non (da_cons dv_int (da_cons (DE.v (de_op op_addD ok_addD (dr_var 11) (DV.rd (dv_tup (da_cons dv_int da_nil))))) (da_cons (DE.v (de_op op_addD ok_addD (DV.rd (dv_tup (da_cons (DE.v (de_neg (DV.rd dv_int))) da_nil))) (dr_var 11))) (da_cons (DE.v (de_op op_addD ok_addD (DV.rd (dv_tup (da_cons dv_bl da_nil))) (dr_var 11))) (da_cons (dv_tup (da_cons dv_non da_nil)) da_nil))))))))))))))))) (dg_name 10 S.nd)
  (dss_cut [10, 15] (ds_cons (ds_set 15 (DV.toE (dv_call (ok__law_days_due G) hr (by decide) tk (da_cons (dv_var 3) (da_cons (dv_var 4) (da_cons (dv_var 13) (da_cons (dv_var 10) da_nil)))))) S.nd)
  (ds_one (ds_if (DW.t (dw_or (dt_cmp (op_neG hu) cmpOk_of (DV.rd (dv_call (ok_days_fault G) hr (by decide) tk (da_cons (dv_var 3) (da_cons (dv_var 4) (da_cons (dv_var 13) (da_cons (dv_var 10) da_nil)))))) (dr_var 15) (by rfl)) (dw_or1 (DW.t (dw_and (dt_cmp op_isN cmpOk_isN (dr_var 15) (DV.rd dv_non) (by rfl)) (dw_and1 (dt_cmp (op_eqG hu) cmpOk_of (DV.rd (DE.v (de_ix (dr_var 5) (DV.rd dv_int)))) (DV.rd dv_str) (by rfl))))))))
  (ds_one (ds_ret dv_bl))
  ds_nil)))))))))))))))))))))))))))))
  (ds_cons (ds_set 3 (DV.toE (dv_tup (da_cons (dv_tup (da_cons dv_int (da_cons dv_int (da_cons dv_int (da_cons dv_int da_nil))))) (da_cons (dv_tup (da_cons dv_int (da_cons dv_int (da_cons dv_int (da_cons dv_int da_nil))))) da_nil)))) S.nd)
  (ds_cons (ds_set 4 (DV.toE (dv_tup (da_cons (dv_tup (da_cons dv_int (da_cons dv_int (da_cons dv_int da_nil)))) (da_cons (dv_tup (da_cons dv_int (da_cons dv_int (da_cons dv_int da_nil)))) da_nil)))) S.nd)
  (ds_cons (ds_if (DW.t (dw_or (dt_cmp op_notN cmpOk_notN (DV.rd (dv_call (ok_days_fault G) hr (by decide) tk (da_cons (dv_var 3) (da_cons (dv_var 4) (da_cons dv_int (da_cons (dv_tup (da_cons dv_int (da_cons dv_int da_nil))) da_nil)))))) (DV.rd dv_non) (by rfl)) (dw_or1 (dt_cmp (op_neG hu) cmpOk_of (DV.rd (dv_call (ok_days_fault G) hr (by decide) tk (da_cons (dv_var 3) (da_cons (dv_var 4) (da_cons dv_int (da_cons (dv_tup (da_cons dv_int (da_cons dv_int (da_cons dv_int da_nil)))) da_nil)))))) (DV.rd (dv_tup (da_cons dv_str (da_cons dv_int da_nil)))) (by rfl)))))
  (ds_one (ds_ret dv_bl))
  ds_nil)
  (ds_one (ds_ret (dv_cmp (op_eqG hu) cmpOk_of (DV.rd (dv_call (ok_met_fault G) hr (by decide) tk (da_cons (dv_var 3) (da_cons (dv_tup (da_cons (dv_tup (da_cons dv_int (da_cons dv_int (da_cons dv_int da_nil)))) da_nil)) (da_cons (dv_tup (da_cons (dv_tup (da_cons dv_int (da_cons dv_int (da_cons dv_int da_nil)))) da_nil)) da_nil))))) (DV.rd (dv_tup (da_cons dv_str (da_cons dv_int (da_cons dv_int da_nil))))) (by rfl)))))))))
end
end
end Dl
set_option Elab.async false
set_option linter.all false
set_option maxRecDepth 100000
/-! k52: trays and wishes -/
namespace Dl
open PySem PySem.Spec PyProof.Rows L2
theorem m_is_whole_ok {v : PyData} {a b : Int} : m_is_whole [some (.d v), some (.d (.int a)), some (.d (.int b))] = .ok (.bool (numB v a b)) := by
  unfold m_is_whole b_is_whole
  cases v <;> simp [numB]
  rename_i i
  by_cases h : a ≤ i
  · simp [h, Int.not_lt.mpr h]
  · simp [h, Int.not_le.mp h]
theorem m_number_ok {v : PyData} {a b : Int} : m__law_is_number [some (.d v), some (.d (.int a)), some (.d (.int b))] = .ok (.bool (numB v a b)) := by
  unfold m__law_is_number b__law_is_number
  cases v <;> simp [numB]
  rename_i i
  by_cases h : a ≤ i
  · simp [h, Int.not_lt.mpr h]
  · simp [h, Int.not_le.mp h]
/-! ### rows that ascend -/
theorem lc_asc {x : PyData} {R : List (List Int)} (hx : x = .list (R.map rowT) ∨ x = .tuple (R.map rowT)) : lc_ascends_0 [some (.d x), none, none] = .ok (.l ((R.zip R.tail).map fun p => .bool (decide (p.1 < p.2)))) := by
  unfold lc_ascends_0
  refine lc_map (R.zip R.tail) (fun p => .tuple [rowT p.1, rowT p.2]) _ (by rfl) ?_ fun p hp => ⟨[some (.d x), some (.d (rowT p.1)), some (.d (rowT p.2))], by simp, ?_⟩
  · rcases hx with rfl | rfl <;> simp [drop1, ← zip_rows, List.map_tail]
  · simp [lt_rowT]
theorem m_ascends_ok {x : PyData} {R : List (List Int)} (hx : x = .list (R.map rowT) ∨ x = .tuple (R.map rowT)) : m_ascends [some (.d x)] = .ok (.bool (ascR R)) := by
  unfold m_ascends b_ascends
  simp [lc_asc hx, ascR]
/-! ### trays -/
def trayP (r : List Int) : Prop := ∃ a b c d, r = [a, b, c, d] ∧ 0 ≤ a ∧ a ≤ 5 ∧ 0 ≤ b ∧ b ≤ 13 ∧ 0 ≤ c ∧ c ≤ 13 ∧ 1 ≤ d ∧ d ≤ 50
def trayB (v : PyData) : Bool := match v with
  | .tuple [a, b, c, d] => numB a 0 5 && (numB b 0 13 && (numB c 0 13 && numB d 1 50))
  | _ => false
theorem trayB_row {v : PyData} (h : trayB v = true) : ∃ r, v = rowT r ∧ trayP r := by
  unfold trayB at h
  split at h
  · simp only [Bool.and_eq_true] at h
    obtain ⟨a, rfl, a1, a2⟩ := numB_int h.1
    obtain ⟨b, rfl, b1, b2⟩ := numB_int h.2.1
    obtain ⟨c, rfl, c1, c2⟩ := numB_int h.2.2.1
    obtain ⟨d, rfl, d1, d2⟩ := numB_int h.2.2.2
    exact ⟨[a, b, c, d], rfl, a, b, c, d, rfl, a1, a2, b1, b2, c1, c2, d1, d2⟩
  · cases h
theorem rows_of {p : PyData → Bool} {P : List Int → Prop} (hp : ∀ v, p v = true → ∃ r, v = rowT r ∧ P r) : ∀ {xs : List PyData}, xs.all p = true → ∃ R : List (List Int), xs = R.map rowT ∧ ∀ r ∈ R, P r
  | [], _ => ⟨[], rfl, fun _ h => absurd h List.not_mem_nil⟩
  | x :: xs, h => by
    rw [List.all_cons, Bool.and_eq_true] at h
    obtain ⟨R, e, hR⟩ := rows_of hp h.2
    obtain ⟨r, er, hr⟩ := hp x h.1
    refine ⟨r :: R, by rw [e, er]; rfl, fun s hs => ?_⟩
    rcases List.mem_cons.mp hs with rfl | hs
    · exact hr
    · exact hR s hs
def rowsB (v : List PyData) (f : List Int → List Int) : Bool := match rowsD v with
  | some R => ascR (R.map f)
  | none => false
theorem rowsB_map (R : List (List Int)) (f : List Int → List Int) : rowsB (R.map rowT) f = ascR (R.map f) := by unfold rowsB; rw [rowsD_map']
def trB (v : PyData) : Bool := match v with
  | .tuple xs => decide (xs.length ≤ 12) && (xs.all trayB && rowsB xs id)
  | _ => false
theorem m_is_tray_ok {v : PyData} : m__is_tray [some (.d v)] = .ok (.bool (trayB v)) := by
  unfold m__is_tray b__is_tray
  cases v with
  | tuple xs =>
    by_cases h4 : xs.length = 4
    · obtain ⟨a, b, c, d, rfl⟩ := len4 h4
      by_cases ha : numB a 0 5 = true
      · by_cases hb : numB b 0 13 = true
        · by_cases hc : numB c 0 13 = true
          · simp [m_is_whole_ok, trayB, ha, hb, hc, atI, ixN]
          · simp [m_is_whole_ok, trayB, ha, hb, hc, atI, ixN]
        · simp [m_is_whole_ok, trayB, ha, hb, atI, ixN]
      · simp [m_is_whole_ok, trayB, ha, atI, ixN]
    · have e : (xs.length : Int) ≠ 4 := by omega
      have k : trayB (.tuple xs) = false := by
        unfold trayB
        split
        · rename_i h; cases h; simp at h4
        · rfl
      simp [e, k]
  | _ => simp [trayB]
theorem trayB_4 {v : PyData} (h : trayB v = true) : isLen 4 v = true := by
  obtain ⟨r, rfl, a, b, c, d, rfl, _⟩ := trayB_row h
  rfl
theorem tray_code {r : List Int} (h : trayP r) : r.length = 4 ∧ TS.Bd ssetB r := by
  obtain ⟨a, b, c, d, rfl, h⟩ := h
  refine ⟨rfl, fun m hm => ?_⟩
  simp only [ssetB]
  simp only [List.mem_cons, List.not_mem_nil, or_false] at hm
  omega
end Dl
set_option Elab.async false
set_option linter.all false
set_option maxRecDepth 100000
namespace Dl
open PySem PySem.Spec PyProof.Rows L2
/-! ### wishes -/
def wishP (r : List Int) : Prop := ∃ a b c, r = [a, b, c] ∧ 0 ≤ a ∧ a ≤ 5 ∧ 0 ≤ b ∧ b ≤ 13 ∧ 1 ≤ c ∧ c ≤ 50
def wishB (v : PyData) : Bool := match v with
  | .tuple [a, b, c] => numB a 0 5 && (numB b 0 13 && numB c 1 50)
  | _ => false
theorem wishB_row {v : PyData} (h : wishB v = true) : ∃ r, v = rowT r ∧ wishP r := by
  unfold wishB at h
  split at h
  · simp only [Bool.and_eq_true] at h
    obtain ⟨a, rfl, a1, a2⟩ := numB_int h.1
    obtain ⟨b, rfl, b1, b2⟩ := numB_int h.2.1
    obtain ⟨c, rfl, c1, c2⟩ := numB_int h.2.2
    exact ⟨[a, b, c], rfl, a, b, c, rfl, a1, a2, b1, b2, c1, c2⟩
  · cases h
def wsB (v : PyData) : Bool := match v with
  | .tuple xs => decide (xs.length ≤ 12) && (xs.all wishB && rowsB xs fun r => r.take 2)
  | _ => false
theorem m_is_wish_ok {v : PyData} : m__is_wish [some (.d v)] = .ok (.bool (wishB v)) := by
  unfold m__is_wish b__is_wish
  cases v with
  | tuple xs =>
    by_cases h4 : xs.length = 3
    · obtain ⟨a, b, c, rfl⟩ := len3 h4
      by_cases ha : numB a 0 5 = true
      · by_cases hb : numB b 0 13 = true
        · simp [m_is_whole_ok, wishB, ha, hb]
        · simp [m_is_whole_ok, wishB, ha, hb]
      · simp [m_is_whole_ok, wishB, ha]
    · have e : (xs.length : Int) ≠ 3 := by omega
      have k : wishB (.tuple xs) = false := by
        unfold wishB
        split
        · rename_i h; cases h; simp at h4
        · rfl
      simp [e, k]
  | _ => simp [wishB]
theorem wishB_3 {v : PyData} (h : wishB v = true) : isLen 3 v = true := by
  obtain ⟨r, rfl, a, b, c, rfl, _⟩ := wishB_row h
  rfl
theorem cut2 (r : List Int) : cutL (r.map PyData.int) none (some 2) = (r.take 2).map .int := by
  rw [show (2 : Int) = ((2 : Nat) : Int) from rfl, takeN, List.map_take]
theorem wish_code {r : List Int} (h : wishP r) : (r.take 2).length = 2 ∧ TS.Bd ssetB (r.take 2) := by
  obtain ⟨a, b, c, rfl, h⟩ := h
  refine ⟨rfl, fun m hm => ?_⟩
  simp only [ssetB]
  simp only [List.take_succ_cons, List.take_zero, List.mem_cons, List.not_mem_nil, or_false] at hm
  omega
theorem map_row2 (R : List (List Int)) : R.map (fun r => rowT (r.take 2)) = (R.map fun r => r.take 2).map rowT := by rw [List.map_map]; rfl
/-! ### the check -/
theorem lc_c0 {xs : List PyData} {w : PyData} : lc__check_0 [some (.d (.tuple xs)), some (.d w), none] = .ok (.l (xs.map fun z => .bool (trayB z))) := by
  unfold lc__check_0
  refine lc_map xs id _ (by rfl) (by simp) fun z hz => ⟨[some (.d (.tuple xs)), some (.d w), some (.d z)], by simp, ?_⟩
  simp [m_is_tray_ok]
theorem lc_c1 {xs : List PyData} {w : PyData} : lc__check_1 [some (.d w), some (.d (.tuple xs)), none] = .ok (.l (xs.map fun z => .bool (wishB z))) := by
  unfold lc__check_1
  refine lc_map xs id _ (by rfl) (by simp) fun z hz => ⟨[some (.d w), some (.d (.tuple xs)), some (.d z)], by simp, ?_⟩
  simp [m_is_wish_ok]
theorem lc_c2 {R : List (List Int)} {w : PyData} : lc__check_2 [some (.d w), some (.d (.tuple (R.map rowT))), none] = .ok (.l ((R.map fun r => r.take 2).map rowT)) := by
  unfold lc__check_2
  rw [← map_row2]
  refine lc_map R rowT _ (by rfl) (by simp) fun z hz => ⟨[some (.d w), some (.d (.tuple (R.map rowT))), some (.d (rowT z))], by simp, ?_⟩
  simp [rowT, cut2]
abbrev ck1 : Ms → Rz Bool := (tOr' (tNot' (tV' (vIsi isTup (rVar 0)))) (tOr' (t2 gtD (toV (eCall (g1 lenD) [(rVar 0)])) (vC (.int 12))) (tNot' (tV' (toV (eCall (g1 allD) [(toV lc__check_0)]))))))
abbrev ck3 : Ms → Rz Bool := (tOr' (tNot' (tV' (vIsi isTup (rVar 1)))) (tOr' (t2 gtD (toV (eCall (g1 lenD) [(rVar 1)])) (vC (.int 12))) (tNot' (tV' (toV (eCall (g1 allD) [(toV lc__check_1)]))))))
theorem ck1_tup {xs : List PyData} {w : PyData} : ck1 [some (.d (.tuple xs)), some (.d w), none] = .ok (!(decide (xs.length ≤ 12) && xs.all trayB)) := by
  by_cases hl : xs.length ≤ 12
  · have hl' : ¬ ((12 : Int) < xs.length) := by omega
    have hl2 : ((xs.length : Int) ≤ 12) := by omega
    simp [lc_c0, hl', hl2, hl]
  · have hl' : ((12 : Int) < xs.length) := by omega
    simp [hl', hl]
theorem ck3_tup {xs : List PyData} {w : PyData} : ck3 [some (.d w), some (.d (.tuple xs)), none] = .ok (!(decide (xs.length ≤ 12) && xs.all wishB)) := by
  by_cases hl : xs.length ≤ 12
  · have hl' : ¬ ((12 : Int) < xs.length) := by omega
    have hl2 : ((xs.length : Int) ≤ 12) := by omega
    simp [lc_c1, hl', hl2, hl]
  · have hl' : ((12 : Int) < xs.length) := by omega
    simp [hl', hl]
theorem ck2_rows {R : List (List Int)} {w : PyData} : (tNot' (tV' (vFn m_ascends [(vVar 0)]))) [some (.d (.tuple (R.map rowT))), some (.d w), none] = .ok (!ascR R) := by
  simp [m_ascends_ok (x := .tuple (R.map rowT)) (R := R) (.inr rfl)]
theorem ck4_rows {W : List (List Int)} {v : PyData} : (tNot' (tV' (vFn m_ascends [(toV lc__check_2)]))) [some (.d v), some (.d (.tuple (W.map rowT))), none] = .ok (!ascR (W.map fun r => r.take 2)) := by
  simp only [tNot_s, tV_s, vFn_s, evalAll_cons, evalAll_nil, toV_s, lc_c2, Rz.bind_ok, List.map_cons, List.map_nil, m_ascends_ok (x := .list ((W.map fun r => r.take 2).map rowT)) (R := W.map fun r => r.take 2) (.inl rfl), boolD_s, rz_map_ok]
theorem m_check_bad {v w : PyData} (h : trB v = false) : m__check [some (.d v), some (.d w)] = .ex 1 := by
  refine fn_ex (M := [some (.d v), some (.d w), none]) (m' := [some (.d v), some (.d w), none]) rfl ?_
  unfold b__check
  cases v with
  | tuple xs =>
    cases hc : (decide (xs.length ≤ 12) && xs.all trayB) with
    | false =>
      refine seq_ex ?_
      rw [sIf_t (show ck1 _ = _ by rw [ck1_tup, hc]; rfl)]; rfl
    | true =>
      rw [seq_nx (m' := [some (.d (.tuple xs)), some (.d w), none]) (by rw [sIf_f (show ck1 _ = _ by rw [ck1_tup, hc]; rfl)]; rfl)]
      rw [Bool.and_eq_true] at hc
      obtain ⟨R, rfl, hR⟩ := rows_of (fun v => trayB_row) hc.2
      have e5 : ascR R = false := by
        unfold trB at h
        simp only [hc.1, hc.2, Bool.true_and] at h
        rwa [rowsB_map, List.map_id] at h
      refine seq_ex ?_
      rw [sIf_t (show _ = _ by rw [ck2_rows, e5]; rfl)]; rfl
  | _ => exact seq_ex (by rw [sIf_t (by rfl)]; rfl)
theorem trB_rows {v : PyData} (h : trB v = true) : ∃ R : List (List Int), v = .tuple (R.map rowT) ∧ R.length ≤ 12 ∧ (∀ r ∈ R, trayP r) ∧ ascR R = true := by
  unfold trB at h
  split at h
  · simp only [Bool.and_eq_true, decide_eq_true_eq] at h
    obtain ⟨R, e, hR⟩ := rows_of (fun v => trayB_row) h.2.1
    have := h.2.2
    rw [e, rowsB_map, List.map_id] at this
    refine ⟨R, by rw [e], ?_, hR, this⟩
    have := h.1
    rwa [e, List.length_map] at this
  · cases h
theorem wsB_rows {v : PyData} (h : wsB v = true) : ∃ R : List (List Int), v = .tuple (R.map rowT) ∧ R.length ≤ 12 ∧ (∀ r ∈ R, wishP r) ∧ ascR (R.map fun r => r.take 2) = true := by
  unfold wsB at h
  split at h
  · simp only [Bool.and_eq_true, decide_eq_true_eq] at h
    obtain ⟨R, e, hR⟩ := rows_of (fun v => wishB_row) h.2.1
    have := h.2.2
    rw [e, rowsB_map] at this
    refine ⟨R, by rw [e], ?_, hR, this⟩
    have := h.1
    rwa [e, List.length_map] at this
  · cases h
theorem trB_of {R : List (List Int)} (h1 : R.length ≤ 12) (h2 : ∀ r ∈ R, trayP r) (h3 : ascR R = true) : trB (.tuple (R.map rowT)) = true := by
  unfold trB
  simp only [List.length_map, h1, decide_true, Bool.true_and, rowsB_map, List.map_id, h3, Bool.and_true, List.all_eq_true]
  intro x hx
  obtain ⟨r, hr, rfl⟩ := List.mem_map.mp hx
  obtain ⟨a, b, c, d, rfl, z⟩ := h2 r hr
  show (numB (.int a) 0 5 && (numB (.int b) 0 13 && (numB (.int c) 0 13 && numB (.int d) 1 50))) = true
  rw [numB_of z.1 z.2.1, numB_of z.2.2.1 z.2.2.2.1, numB_of z.2.2.2.2.1 z.2.2.2.2.2.1, numB_of z.2.2.2.2.2.2.1 z.2.2.2.2.2.2.2]; rfl
theorem wsB_of {R : List (List Int)} (h1 : R.length ≤ 12) (h2 : ∀ r ∈ R, wishP r) (h3 : ascR (R.map fun r => r.take 2) = true) : wsB (.tuple (R.map rowT)) = true := by
  unfold wsB
  simp only [List.length_map, h1, decide_true, Bool.true_and, rowsB_map, h3, Bool.and_true, List.all_eq_true]
  intro x hx
  obtain ⟨r, hr, rfl⟩ := List.mem_map.mp hx
  obtain ⟨a, b, c, rfl, z⟩ := h2 r hr
  show (numB (.int a) 0 5 && (numB (.int b) 0 13 && numB (.int c) 1 50)) = true
  rw [numB_of z.1 z.2.1, numB_of z.2.2.1 z.2.2.2.1, numB_of z.2.2.2.2.1 z.2.2.2.2.2]; rfl
theorem trB_1 {R : List (List Int)} (h : trB (.tuple (R.map rowT)) = true) : (decide ((R.map rowT).length ≤ 12) && (R.map rowT).all trayB) = true ∧ ascR R = true := by
  unfold trB at h
  simp only [Bool.and_eq_true, rowsB_map, List.map_id] at h
  rw [Bool.and_eq_true]
  exact ⟨⟨h.1, h.2.1⟩, h.2.2⟩
theorem wsB_1 {R : List (List Int)} (h : wsB (.tuple (R.map rowT)) = true) : (decide ((R.map rowT).length ≤ 12) && (R.map rowT).all wishB) = true ∧ ascR (R.map fun r => r.take 2) = true := by
  unfold wsB at h
  simp only [Bool.and_eq_true, rowsB_map] at h
  rw [Bool.and_eq_true]
  exact ⟨⟨h.1, h.2.1⟩, h.2.2⟩
theorem m_check_bad2 {v w : PyData} (h : trB v = true) (h2 : wsB w = false) : m__check [some (.d v), some (.d w)] = .ex 2 := by
  obtain ⟨R, rfl, _, _, _⟩ := trB_rows h
  obtain ⟨q1, q2⟩ := trB_1 h
  refine fn_ex (M := [some (.d (.tuple (R.map rowT))), some (.d w), none]) (m' := [some (.d (.tuple (R.map rowT))), some (.d w), none]) rfl ?_
  unfold b__check
  rw [seq_nx (m' := [some (.d (.tuple (R.map rowT))), some (.d w), none]) (by rw [sIf_f (show ck1 _ = _ by rw [ck1_tup, q1]; rfl)]; rfl)]
  rw [seq_nx (m' := [some (.d (.tuple (R.map rowT))), some (.d w), none]) (by rw [sIf_f (show _ = _ by rw [ck2_rows, q2]; rfl)]; rfl)]
  cases w with
  | tuple xs =>
    cases hc : (decide (xs.length ≤ 12) && xs.all wishB) with
    | false =>
      refine seq_ex ?_
      rw [sIf_t (show ck3 _ = _ by rw [ck3_tup, hc]; rfl)]; rfl
    | true =>
      rw [seq_nx (m' := [some (.d (.tuple (R.map rowT))), some (.d (.tuple xs)), none]) (by rw [sIf_f (show ck3 _ = _ by rw [ck3_tup, hc]; rfl)]; rfl)]
      rw [Bool.and_eq_true] at hc
      obtain ⟨W, rfl, hR⟩ := rows_of (fun v => wishB_row) hc.2
      have e5 : ascR (W.map fun r => r.take 2) = false := by
        unfold wsB at h2
        simp only [hc.1, hc.2, Bool.true_and] at h2
        rwa [rowsB_map] at h2
      rw [sIf_t (show _ = _ by rw [ck4_rows, e5]; rfl)]; rfl
  | _ => exact seq_ex (by rw [sIf_t (by rfl)]; rfl)
theorem m_check_ok {R W : List (List Int)} (h : trB (.tuple (R.map rowT)) = true) (h2 : wsB (.tuple (W.map rowT)) = true) : m__check [some (.d (.tuple (R.map rowT))), some (.d (.tuple (W.map rowT)))] = .ok .none := by
  obtain ⟨q1, q2⟩ := trB_1 h
  obtain ⟨q3, q4⟩ := wsB_1 h2
  refine fn_nx (M := [some (.d (.tuple (R.map rowT))), some (.d (.tuple (W.map rowT))), none]) (m' := [some (.d (.tuple (R.map rowT))), some (.d (.tuple (W.map rowT))), none]) rfl ?_
  unfold b__check
  rw [seq_nx (m' := [some (.d (.tuple (R.map rowT))), some (.d (.tuple (W.map rowT))), none]) (by rw [sIf_f (show ck1 _ = _ by rw [ck1_tup, q1]; rfl)]; rfl)]
  rw [seq_nx (m' := [some (.d (.tuple (R.map rowT))), some (.d (.tuple (W.map rowT))), none]) (by rw [sIf_f (show _ = _ by rw [ck2_rows, q2]; rfl)]; rfl)]
  rw [seq_nx (m' := [some (.d (.tuple (R.map rowT))), some (.d (.tuple (W.map rowT))), none]) (by rw [sIf_f (show ck3 _ = _ by rw [ck3_tup, q3]; rfl)]; rfl)]
  rw [sIf_f (show _ = _ by rw [ck4_rows, q4]; rfl)]; rfl
end Dl
set_option Elab.async false
set_option linter.all false
set_option maxRecDepth 100000
namespace Dl
open PySem PySem.Spec PyProof.Rows L2
/-! ### trays and wishes, as rows -/
structure Tray where
  k : Int
  b : Int
  s : Int
  c : Int
structure Wish where
  k : Int
  d : Int
  c : Int
def Tray.row (t : Tray) : List Int := [t.k, t.b, t.s, t.c]
def Wish.row (w : Wish) : List Int := [w.k, w.d, w.c]
def Tray.Ok (t : Tray) : Prop := 0 ≤ t.k ∧ t.k ≤ 5 ∧ 0 ≤ t.b ∧ t.b ≤ 13 ∧ 0 ≤ t.s ∧ t.s ≤ 13 ∧ 1 ≤ t.c ∧ t.c ≤ 50
def Wish.Ok (w : Wish) : Prop := 0 ≤ w.k ∧ w.k ≤ 5 ∧ 0 ≤ w.d ∧ w.d ≤ 13 ∧ 1 ≤ w.c ∧ w.c ≤ 50
theorem trays_of : ∀ {R : List (List Int)}, (∀ r ∈ R, trayP r) → ∃ TR : List Tray, R = TR.map Tray.row ∧ ∀ t ∈ TR, t.Ok
  | [], _ => ⟨[], rfl, fun _ h => absurd h List.not_mem_nil⟩
  | r :: R, h => by
    obtain ⟨TR, e, h2⟩ := trays_of fun s hs => h s (List.mem_cons_of_mem _ hs)
    obtain ⟨a, b, c, d, rfl, z⟩ := h r (by simp)
    refine ⟨⟨a, b, c, d⟩ :: TR, by rw [e]; rfl, fun t ht => ?_⟩
    rcases List.mem_cons.mp ht with rfl | ht
    · exact z
    · exact h2 t ht
theorem wishes_of : ∀ {R : List (List Int)}, (∀ r ∈ R, wishP r) → ∃ W : List Wish, R = W.map Wish.row ∧ ∀ t ∈ W, t.Ok
  | [], _ => ⟨[], rfl, fun _ h => absurd h List.not_mem_nil⟩
  | r :: R, h => by
    obtain ⟨TR, e, h2⟩ := wishes_of fun s hs => h s (List.mem_cons_of_mem _ hs)
    obtain ⟨a, b, c, rfl, z⟩ := h r (by simp)
    refine ⟨⟨a, b, c⟩ :: TR, by rw [e]; rfl, fun t ht => ?_⟩
    rcases List.mem_cons.mp ht with rfl | ht
    · exact z
    · exact h2 t ht
def tD (t : Tray) : PyData := rowT t.row
def wD (w : Wish) : PyData := rowT w.row
def trD (TR : List Tray) : PyData := .tuple (TR.map tD)
def wsD (W : List Wish) : PyData := .tuple (W.map wD)
theorem trD_eq (TR : List Tray) : trD TR = .tuple ((TR.map Tray.row).map rowT) := by unfold trD; rw [List.map_map]; rfl
theorem wsD_eq (W : List Wish) : wsD W = .tuple ((W.map Wish.row).map rowT) := by unfold wsD; rw [List.map_map]; rfl
def hasB (t : Tray) (k d : Int) : Bool := t.k == k && (!decide (d < t.b) && !decide (t.b + t.s < d))
theorem m_has_ok {t : Tray} {k d : Int} : m__has [some (.d (tD t)), some (.d (.int k)), some (.d (.int d))] = .ok (.bool (hasB t k d)) := by
  unfold m__has b__has
  simp only [tD, rowT, Tray.row, List.map_cons, List.map_nil]
  by_cases h1 : t.k = k
  · by_cases h2 : d < t.b
    · have h2' : ¬ t.b ≤ d := by omega
      simp [hasB, h1, h2, h2']
    · have h2' : t.b ≤ d := by omega
      simp [hasB, h1, h2, h2']
  · simp [hasB, h1]
/-! ### the greedy shares -/
abbrev Gv := List Int × List ((Nat × Nat) × Int) × Int
def takeStep (j : Nat) (s : Gv) (p : Int × Nat) : Gv :=
  if 0 < min (s.1.getD p.2 0) s.2.2 then (s.1.set p.2 (s.1.getD p.2 0 - min (s.1.getD p.2 0) s.2.2), s.2.1 ++ [((p.2, j), min (s.1.getD p.2 0) s.2.2)], s.2.2 - min (s.1.getD p.2 0) s.2.2) else s
def leG (x y : Int × Nat) : Bool := leR [x.1, (x.2 : Int)] [y.1, (y.2 : Int)]
def goodG (TR : List Tray) (k d : Int) : List (Int × Nat) := ((TR.zipIdx.filter fun p => hasB p.1 k d).map fun p => (p.1.b + p.1.s, p.2)).mergeSort leG
def wishStep (TR : List Tray) (s : List Int × List ((Nat × Nat) × Int) × List Int) (p : Wish × Nat) : List Int × List ((Nat × Nat) × Int) × List Int :=
  let r := (goodG TR p.1.k p.1.d).foldl (takeStep p.2) (s.1, s.2.1, p.1.c)
  (r.1, r.2.1, s.2.2 ++ [r.2.2])
def given (TR : List Tray) (W : List Wish) : List Int × List ((Nat × Nat) × Int) × List Int := W.zipIdx.foldl (wishStep TR) (TR.map (·.c), [], [])
theorem mem_good {TR : List Tray} {k d : Int} {p : Int × Nat} : p ∈ goodG TR k d ↔ ∃ t, TR[p.2]? = some t ∧ hasB t k d = true ∧ p.1 = t.b + t.s := by
  unfold goodG
  rw [List.mem_mergeSort, List.mem_map]
  constructor
  · rintro ⟨q, hq, rfl⟩
    rw [List.mem_filter] at hq
    have := List.mem_zipIdx_iff_getElem?.mp hq.1
    exact ⟨q.1, this, hq.2, rfl⟩
  · rintro ⟨t, h1, h2, h3⟩
    refine ⟨(t, p.2), List.mem_filter.mpr ⟨List.mem_zipIdx_iff_getElem?.mpr h1, h2⟩, ?_⟩
    cases p; simp only at h3 ⊢; rw [h3]
theorem good_nodup {TR : List Tray} {k d : Int} : ((goodG TR k d).map (·.2)).Nodup := by
  have h1 : ((TR.zipIdx.filter fun p => hasB p.1 k d).map fun p => (p.1.b + p.1.s, p.2)).Perm (goodG TR k d) := (List.mergeSort_perm _ _).symm
  refine ((h1.map (·.2)).nodup_iff).mp ?_
  rw [List.map_map]
  have h2 : (TR.zipIdx.map (·.2)).Nodup := by
    rw [List.zipIdx_map_snd]
    exact List.nodup_range' _
  refine List.Nodup.sublist ?_ h2
  exact (List.filter_sublist).map _
/-! ### the walk of _given -/
def gM (TR : List Tray) (ws : Option W) (L : List Int) (M : List ((Nat × Nat) × Int)) (K : List Int) (num good kind day cnt e at_ own : Option W) : Ms :=
  [some (.d (trD TR)), ws, some (.l (L.map .int)), some (.m true (kvP M)), some (.l (K.map .int)), num, good, none, kind, day, cnt, e, at_, own]
section
variable {TR : List Tray} {ws : Option W} {L : List Int} {M : List ((Nat × Nat) × Int)} {K : List Int} {num good kind day cnt e at_ own : Option W}
theorem kvP_len : (kvP M).length = M.length := by unfold kvP; rw [List.length_map]
theorem gb2 {a j : Nat} {c : Int} (ha : a < L.length) (hf : (a, j) ∉ M.map (·.1)) (hM : M.length < 10000000) :
    fb__given_2 (gM TR ws L M K (some (.d (.int (j : Nat)))) good kind day (some (.d (.int c))) e (some (.d (.int (a : Nat)))) own) =
    .nx (gM TR ws (takeStep j (L, M, c) (0, a)).1 (takeStep j (L, M, c) (0, a)).2.1 K (some (.d (.int (j : Nat)))) good kind day (some (.d (.int (takeStep j (L, M, c) (0, a)).2.2))) none none none) := by
  have h1 : atI (L.map PyData.int) ((a : Nat) : Int) = some (.int (L.getD a 0)) := by
    rw [atI_nat, List.getElem?_map, List.getD_eq_getElem?_getD, List.getElem?_eq_getElem ha]; rfl
  have h2 : (L.map PyData.int)[a]? = some (.int (L.getD a 0)) := by rw [← atI_nat, h1]
  have h3 : ixN (L.map PyData.int).length ((a : Nat) : Int) = some a := ixN_nat (by rw [List.length_map]; exact ha)
  have h4 := dputP (M := M) (x := min (L.getD a 0) c) hf
  have h5 : (kvP M).length < 10000000 := by rw [kvP_len]; exact hM
  have s1 : sSet 13 (ofV (toV (eCall (g12 minD1 min2D) [(toV (e2 ixD (rVar 2) (rVar 12))), (rVar 10)]))) (gM TR ws L M K (some (.d (.int (j : Nat)))) good kind day (some (.d (.int c))) e (some (.d (.int (a : Nat)))) own) =
      .nx (gM TR ws L M K (some (.d (.int (j : Nat)))) good kind day (some (.d (.int c))) e (some (.d (.int (a : Nat)))) (some (.d (.int (min (L.getD a 0) c))))) := by
    simp only [gM, sSet_s, ofV_s, toV_s, eCall_s, evalAll_cons, evalAll_nil, e2_s, rVar_s, List.getElem?_cons_succ, List.getElem?_cons_zero, Rz.bind_ok, ix_l, h1, Option.map_some, ofO_some', g12_2, min2_i, rz_map_ok]
    rfl
  unfold fb__given_2
  by_cases hp : 0 < min (L.getD a 0) c
  · have ht : takeStep j (L, M, c) (0, a) = (L.set a (L.getD a 0 - min (L.getD a 0) c), M ++ [((a, j), min (L.getD a 0) c)], c - min (L.getD a 0) c) := by unfold takeStep; exact if_pos hp
    rw [ht]
    refine cut_nx (m' := gM TR ws (L.set a (L.getD a 0 - min (L.getD a 0) c)) (M ++ [((a, j), min (L.getD a 0) c)]) K (some (.d (.int (j : Nat)))) good kind day (some (.d (.int (c - min (L.getD a 0) c)))) e (some (.d (.int (a : Nat)))) (some (.d (.int (min (L.getD a 0) c))))) ?_
    rw [seq_nx s1, sIf_t (by simp only [gM, t2_s, rVar_s, List.getElem?_cons_succ, List.getElem?_cons_zero, Rz.bind_ok, vC_s, gt_i, ofO_some', hp, decide_true])]
    refine (seq_nx (m' := gM TR ws L (M ++ [((a, j), min (L.getD a 0) c)]) K (some (.d (.int (j : Nat)))) good kind day (some (.d (.int c))) e (some (.d (.int (a : Nat)))) (some (.d (.int (min (L.getD a 0) c))))) ?_).trans ?_
    · simp only [gM, sDput_s, eTup_s, evalAll_cons, evalAll_nil, vVar_s, mAt, List.getElem?_cons_succ, List.getElem?_cons_zero, Rz.bind_ok, rz_map_ok, h4, h5, if_true]
      rfl
    · refine (seq_nx (m' := gM TR ws (L.set a (L.getD a 0 - min (L.getD a 0) c)) (M ++ [((a, j), min (L.getD a 0) c)]) K (some (.d (.int (j : Nat)))) good kind day (some (.d (.int c))) e (some (.d (.int (a : Nat)))) (some (.d (.int (min (L.getD a 0) c))))) ?_).trans ?_
      · simp only [gM, sLaug_s, augK_s, vVar_s, lAt, List.getElem?_cons_succ, List.getElem?_cons_zero, h2, h3, ipD_i, List.set, List.map_set]
      · simp only [gM, sAug_s, vVar_s, List.getElem?_cons_succ, List.getElem?_cons_zero, ipD_i]
        rfl
  · have ht : takeStep j (L, M, c) (0, a) = (L, M, c) := by unfold takeStep; exact if_neg hp
    rw [ht]
    refine cut_nx (m' := gM TR ws L M K (some (.d (.int (j : Nat)))) good kind day (some (.d (.int c))) e (some (.d (.int (a : Nat)))) (some (.d (.int (min (L.getD a 0) c))))) ?_
    rw [seq_nx s1, sIf_f (by simp only [gM, t2_s, rVar_s, List.getElem?_cons_succ, List.getElem?_cons_zero, Rz.bind_ok, vC_s, gt_i, ofO_some', hp, decide_false])]
    rfl
theorem gTup2 {i k : Nat} {m : Ms} {x y : PyData} (h1 : i < m.length) (h2 : k < m.length) : gTup' 2 (gCons (gSet i) (gCons (gSet k) gNil)) (.tuple [x, y]) m = some ((m.set i (some (.d x))).set k (some (.d y))) := by
  simp [h1, h2]
/-- the loop over the trays that are good for one wish -/
theorem gloop {j : Nat} : ∀ (G : List (Int × Nat)) {L : List Int} {M : List ((Nat × Nat) × Int)} {c : Int} {e at_ own : Option W}, (∀ p ∈ G, p.2 < L.length) → (G.map (·.2)).Nodup → (∀ p ∈ G, (p.2, j) ∉ M.map (·.1)) → M.length + G.length < 10000000 →
    ∃ e' at' own', goFor (gTup' 2 (gCons (gSet 11) (gCons (gSet 12) gNil))) fb__given_2 (G.map fun p => rowT [p.1, (p.2 : Int)]) (gM TR ws L M K (some (.d (.int (j : Nat)))) good kind day (some (.d (.int c))) e at_ own) =
      .nx (gM TR ws (G.foldl (takeStep j) (L, M, c)).1 (G.foldl (takeStep j) (L, M, c)).2.1 K (some (.d (.int (j : Nat)))) good kind day (some (.d (.int (G.foldl (takeStep j) (L, M, c)).2.2))) e' at' own')
  | [], L, M, c, e, at_, own, _, _, _, _ => ⟨e, at_, own, rfl⟩
  | p :: G, L, M, c, e, at_, own, h1, h2, h3, h4 => by
    rw [List.map_cons, List.nodup_cons] at h2
    have hs : takeStep j (L, M, c) p = takeStep j (L, M, c) (0, p.2) := rfl
    have k1 : (takeStep j (L, M, c) p).1.length = L.length := by
      unfold takeStep; split
      · rw [List.length_set]
      · rfl
    have k2 : ∀ q, q ∈ (takeStep j (L, M, c) p).2.1.map (·.1) → q = (p.2, j) ∨ q ∈ M.map (·.1) := by
      intro q hq
      unfold takeStep at hq
      split at hq
      · rw [List.map_append, List.mem_append] at hq
        rcases hq with hq | hq
        · exact .inr hq
        · exact .inl (List.mem_singleton.mp hq)
      · exact .inr hq
    have k3 : (takeStep j (L, M, c) p).2.1.length ≤ M.length + 1 := by
      unfold takeStep; split
      · rw [List.length_append]; exact Nat.le_refl _
      · exact Nat.le_succ _
    obtain ⟨e', at', own', ih⟩ := gloop (j := j) G (L := (takeStep j (L, M, c) p).1) (M := (takeStep j (L, M, c) p).2.1) (c := (takeStep j (L, M, c) p).2.2) (e := none) (at_ := none) (own := none) (fun q hq => by rw [k1]; exact h1 q (List.mem_cons_of_mem _ hq)) h2.2 (fun q hq z => by
      rcases k2 _ z with z | z
      · have : q.2 = p.2 := congrArg Prod.fst z
        exact h2.1 (this ▸ List.mem_map_of_mem (f := (·.2)) hq)
      · exact h3 q (List.mem_cons_of_mem _ hq) z) (by rw [List.length_cons] at h4; omega)
    refine ⟨e', at', own', ?_⟩
    rw [List.map_cons, goFor]
    have s1 : gTup' 2 (gCons (gSet 11) (gCons (gSet 12) gNil)) (rowT [p.1, (p.2 : Int)]) (gM TR ws L M K (some (.d (.int (j : Nat)))) good kind day (some (.d (.int c))) e at_ own) = some (gM TR ws L M K (some (.d (.int (j : Nat)))) good kind day (some (.d (.int c))) (some (.d (.int p.1))) (some (.d (.int (p.2 : Nat)))) own) := by
      show gTup' 2 _ (.tuple [.int p.1, .int (p.2 : Nat)]) _ = _
      rw [gTup2 (by simp [gM]) (by simp [gM])]
      rfl
    rw [s1]
    dsimp only
    rw [gb2 (h1 p (by simp)) (h3 p (by simp)) (by rw [List.length_cons] at h4; omega), ← hs]
    exact ih
theorem foldl_take {j : Nat} : ∀ (G : List (Int × Nat)) (s : Gv), (G.foldl (takeStep j) s).1.length = s.1.length ∧ (∀ q, q ∈ (G.foldl (takeStep j) s).2.1.map (·.1) → q ∈ s.2.1.map (·.1) ∨ q.2 = j) ∧ (G.foldl (takeStep j) s).2.1.length ≤ s.2.1.length + G.length
  | [], s => ⟨rfl, fun q h => .inl h, Nat.le_refl _⟩
  | p :: G, s => by
    obtain ⟨h1, h2, h3⟩ := foldl_take G (takeStep j s p)
    rw [List.foldl_cons, List.length_cons]
    have k1 : (takeStep j s p).1.length = s.1.length := by
      unfold takeStep; split
      · rw [List.length_set]
      · rfl
    have k2 : ∀ q, q ∈ (takeStep j s p).2.1.map (·.1) → q ∈ s.2.1.map (·.1) ∨ q.2 = j := by
      intro q hq
      unfold takeStep at hq
      split at hq
      · rw [List.map_append, List.mem_append] at hq
        rcases hq with hq | hq
        · exact .inl hq
        · rw [List.mem_singleton.mp hq]; exact .inr rfl
      · exact .inl hq
    have k3 : (takeStep j s p).2.1.length ≤ s.2.1.length + 1 := by
      unfold takeStep; split
      · rw [List.length_append]; exact Nat.le_refl _
      · exact Nat.le_succ _
    refine ⟨h1.trans k1, fun q hq => ?_, by omega⟩
    rcases h2 q hq with z | z
    · exact k2 q z
    · exact .inr z
theorem good_len {k d : Int} : (goodG TR k d).length ≤ TR.length := by
  unfold goodG
  rw [List.length_mergeSort, List.length_map]
  refine Nat.le_trans (List.length_filter_le _ _) ?_
  rw [List.length_zipIdx]; exact Nat.le_refl _
theorem lc_g1 {k d : Int} {good : Option W} : lc__given_1 (gM TR ws L M K num good (some (.d (.int k))) (some (.d (.int d))) cnt none none none) = .ok (.l (((TR.zipIdx.filter fun p => hasB p.1 k d).map fun p => [p.1.b + p.1.s, (p.2 : Int)]).map rowT)) := by
  rw [List.map_map]
  unfold lc__given_1
  refine lc_fil TR.zipIdx (fun p => .tuple [.int ((p.2 : Nat) : Int), tD p.1]) (fun p => hasB p.1 k d) _ (by rfl) (by simp [gM, trD, enum_zip]) fun p hp => ⟨[some (.d (trD TR)), ws, some (.l (L.map .int)), some (.m true (kvP M)), some (.l (K.map .int)), num, good, some (.d (tD p.1)), some (.d (.int k)), some (.d (.int d)), cnt, none, some (.d (.int (p.2 : Nat))), none], ?_, ?_, fun _ => ?_⟩
  · rw [gTup2 (by simp [gM]) (by simp [gM])]; rfl
  · simp only [tV_s, vFn_s, evalAll_cons, evalAll_nil, vVar_s, List.getElem?_cons_succ, List.getElem?_cons_zero, Rz.bind_ok, List.map_cons, List.map_nil, m_has_ok, boolD_s]
  · simp [tD, rowT, Tray.row]
theorem sort_g {k d : Int} (hl : TR.length ≤ 1000) : sortD (.list (((TR.zipIdx.filter fun p => hasB p.1 k d).map fun p => [p.1.b + p.1.s, (p.2 : Int)]).map rowT)) = some (.l ((goodG TR k d).map fun p => rowT [p.1, (p.2 : Int)])) := by
  rw [sortD_rowsL]
  · congr 2
    unfold goodG
    have e : (TR.zipIdx.filter fun p => hasB p.1 k d).map (fun p => [p.1.b + p.1.s, (p.2 : Int)]) = ((TR.zipIdx.filter fun p => hasB p.1 k d).map fun p => (p.1.b + p.1.s, p.2)).map fun q => [q.1, (q.2 : Int)] := by
      rw [List.map_map]; rfl
    rw [e, ← List.map_mergeSort (r := leG) (s := leR) (fun a _ b _ => rfl), List.map_map]
    rfl
  · rw [List.length_map]
    refine Nat.le_trans (List.length_filter_le _ _) ?_
    rw [List.length_zipIdx]; omega
  · intro r hr
    obtain ⟨p, _, rfl⟩ := List.mem_map.mp hr
    simp
/-- one wish -/
theorem gb3 {j : Nat} {w : Wish} (hL : L.length = TR.length) (hT : TR.length ≤ 12) (hf : ∀ q ∈ M.map (·.1), q.2 ≠ j) (hM : M.length ≤ 1000) (hK : K.length ≤ 1000) :
    fb__given_3 (gM TR ws L M K (some (.d (.int (j : Nat)))) none (some (.d (.int w.k))) (some (.d (.int w.d))) (some (.d (.int w.c))) none none none) =
    .nx (gM TR none (wishStep TR (L, M, K) (w, j)).1 (wishStep TR (L, M, K) (w, j)).2.1 (wishStep TR (L, M, K) (w, j)).2.2 none none none none none none none none) := by
  have gl := good_len (TR := TR) (k := w.k) (d := w.d)
  obtain ⟨e', at', own', hloop⟩ := gloop (TR := TR) (ws := none) (K := K) (good := some (.d (.list ((goodG TR w.k w.d).map fun p => rowT [p.1, (p.2 : Int)])))) (kind := none) (day := none) (j := j) (goodG TR w.k w.d) (L := L) (M := M) (c := w.c) (e := none) (at_ := none) (own := none)
    (fun p hp => by
      obtain ⟨t, ht, _⟩ := mem_good.mp hp
      rw [hL]; exact (List.getElem?_eq_some_iff.mp ht).1) good_nodup (fun p hp z => hf _ z rfl) (by omega)
  have s1 : sSet 6 (ofV (toV (eCall (g1 sortD) [(toV lc__given_1)]))) (gM TR ws L M K (some (.d (.int (j : Nat)))) none (some (.d (.int w.k))) (some (.d (.int w.d))) (some (.d (.int w.c))) none none none) =
      .nx (gM TR ws L M K (some (.d (.int (j : Nat)))) (some (.d (.list ((goodG TR w.k w.d).map fun p => rowT [p.1, (p.2 : Int)])))) (some (.d (.int w.k))) (some (.d (.int w.d))) (some (.d (.int w.c))) none none none) := by
    simp only [sSet_s, ofV_s, toV_s, eCall_s, evalAll_cons, evalAll_nil, lc_g1, Rz.bind_ok, g1_s, sort_g (TR := TR) (by omega : TR.length ≤ 1000), ofO_some', rz_map_ok]
    rfl
  have s2 : (sCut [5, 6, 11, 12, 13] (sPre [1, 8, 9, 11, 12, 13] (sFor (iSeq (vVar 6)) (gTup' 2 (gCons (gSet 11) (gCons (gSet 12) gNil))) fb__given_2))) (gM TR ws L M K (some (.d (.int (j : Nat)))) (some (.d (.list ((goodG TR w.k w.d).map fun p => rowT [p.1, (p.2 : Int)])))) (some (.d (.int w.k))) (some (.d (.int w.d))) (some (.d (.int w.c))) none none none) =
      .nx (gM TR none (wishStep TR (L, M, K) (w, j)).1 (wishStep TR (L, M, K) (w, j)).2.1 K none none none none (some (.d (.int ((goodG TR w.k w.d).foldl (takeStep j) (L, M, w.c)).2.2))) none none none) := by
    refine cut_nx (m' := gM TR none (wishStep TR (L, M, K) (w, j)).1 (wishStep TR (L, M, K) (w, j)).2.1 K (some (.d (.int (j : Nat)))) (some (.d (.list ((goodG TR w.k w.d).map fun p => rowT [p.1, (p.2 : Int)])))) none none (some (.d (.int ((goodG TR w.k w.d).foldl (takeStep j) (L, M, w.c)).2.2))) e' at' own') ?_
    rw [sPre_s, sFor_s]
    exact hloop
  unfold fb__given_3
  refine cut_nx (m' := gM TR none (wishStep TR (L, M, K) (w, j)).1 (wishStep TR (L, M, K) (w, j)).2.1 (wishStep TR (L, M, K) (w, j)).2.2 none none none none (some (.d (.int ((goodG TR w.k w.d).foldl (takeStep j) (L, M, w.c)).2.2))) none none none) ?_
  rw [seq_nx s1, seq_nx s2]
  have hk : K.length < 16777216 := by omega
  simp only [gM, sApp_s, lAt, vVar_s, List.getElem?_cons_succ, List.getElem?_cons_zero, List.length_map, hk, if_true, List.set, wishStep, List.map_append, List.map_cons, List.map_nil]
theorem gouter (hT : TR.length ≤ 12) : ∀ (W : List Wish) (i : Nat) {L : List Int} {M : List ((Nat × Nat) × Int)} {K : List Int} {ws : Option Dl.W}, L.length = TR.length → (∀ q ∈ M.map (·.1), q.2 < i) → M.length ≤ 12 * i → K.length ≤ i → W.length + i ≤ 12 →
    ∃ ws', goFor (gTup' 2 (gCons (gSet 5) (gCons (gTup' 3 (gCons (gSet 8) (gCons (gSet 9) (gCons (gSet 10) gNil)))) gNil))) fb__given_3 ((W.zipIdx i).map fun p => .tuple [.int ((p.2 : Nat) : Int), wD p.1]) (gM TR ws L M K none none none none none none none none) =
      .nx (gM TR ws' ((W.zipIdx i).foldl (wishStep TR) (L, M, K)).1 ((W.zipIdx i).foldl (wishStep TR) (L, M, K)).2.1 ((W.zipIdx i).foldl (wishStep TR) (L, M, K)).2.2 none none none none none none none none)
  | [], i, L, M, K, ws, _, _, _, _, _ => ⟨ws, rfl⟩
  | w :: W, i, L, M, K, ws, h1, h2, h3, h4, h5 => by
    obtain ⟨f1, f2, f3⟩ := foldl_take (j := i) (goodG TR w.k w.d) (L, M, w.c)
    have gl := good_len (TR := TR) (k := w.k) (d := w.d)
    rw [List.length_cons] at h5
    have e := gb3 (TR := TR) (ws := ws) (L := L) (M := M) (K := K) (j := i) (w := w) h1 hT (fun q hq => by have := h2 q hq; omega) (by omega) (by omega)
    obtain ⟨ws', ih⟩ := gouter hT W (i + 1) (L := (wishStep TR (L, M, K) (w, i)).1) (M := (wishStep TR (L, M, K) (w, i)).2.1) (K := (wishStep TR (L, M, K) (w, i)).2.2) (ws := none) (f1.trans h1) (fun q hq => by
      rcases f2 q hq with z | z
      · have := h2 q z; omega
      · omega) (by show (((goodG TR w.k w.d).foldl (takeStep i) (L, M, w.c)).2.1).length ≤ _; have f3' : (((goodG TR w.k w.d).foldl (takeStep i) (L, M, w.c)).2.1).length ≤ M.length + (goodG TR w.k w.d).length := f3; omega) (by show (K ++ _).length ≤ _; rw [List.length_append]; show K.length + 1 ≤ _; omega) (by omega)
    refine ⟨ws', ?_⟩
    rw [List.zipIdx_cons, List.map_cons, goFor, List.foldl_cons]
    have s1 : gTup' 2 (gCons (gSet 5) (gCons (gTup' 3 (gCons (gSet 8) (gCons (gSet 9) (gCons (gSet 10) gNil)))) gNil)) (.tuple [.int ((i : Nat) : Int), wD w]) (gM TR ws L M K none none none none none none none none) = some (gM TR ws L M K (some (.d (.int (i : Nat)))) none (some (.d (.int w.k))) (some (.d (.int w.d))) (some (.d (.int w.c))) none none none) := by
      simp [gM, wD, rowT, Wish.row]
    rw [s1]
    dsimp only
    rw [e]
    exact ih
end
theorem lc_g0 {TR : List Tray} {ws : Option W} : lc__given_0 [some (.d (trD TR)), ws, none, none, none, none, none, none, none, none, none, none, none, none] = .ok (.l ((TR.map (·.c)).map .int)) := by
  rw [List.map_map]
  unfold lc__given_0
  refine lc_map TR tD _ (by rfl) (by simp [trD]) fun t ht => ⟨[some (.d (trD TR)), ws, none, none, none, none, none, some (.d (tD t)), none, none, none, none, none, none], by simp, ?_⟩
  simp [tD, rowT, Tray.row, atI, ixN]
def givenD (TR : List Tray) (WS : List Wish) : PyData := .tuple [.dict (kvP (given TR WS).2.1), .list ((given TR WS).2.2.map .int)]
theorem m_given_ok {TR : List Tray} {WS : List Wish} (hT : TR.length ≤ 12) (hW : WS.length ≤ 12) : m__given [some (.d (trD TR)), some (.d (wsD WS))] = .ok (givenD TR WS) := by
  obtain ⟨ws', hl⟩ := gouter (TR := TR) hT WS 0 (L := TR.map (·.c)) (M := []) (K := []) (ws := some (.d (wsD WS))) (by rw [List.length_map]) (fun q h => absurd h List.not_mem_nil) (Nat.zero_le _) (Nat.zero_le _) (by omega)
  unfold m__given
  rw [fnQ_s]
  unfold b__given
  have s1 : sSet 2 lc__given_0 (([some (.d (trD TR)), some (.d (wsD WS))] : Ms) ++ List.replicate (14 - ([some (.d (trD TR)), some (.d (wsD WS))] : Ms).length) none) = .nx [some (.d (trD TR)), some (.d (wsD WS)), some (.l ((TR.map (·.c)).map .int)), none, none, none, none, none, none, none, none, none, none, none] := by
    refine set_nx lc_g0 (by simp)
  have s4 : (sCut [0, 1, 2, 5, 6, 8, 9, 10, 11, 12, 13] (sPre [5, 6, 8, 9, 10, 11, 12, 13] (sFor (iArg enumD [(vVar 1)]) (gTup' 2 (gCons (gSet 5) (gCons (gTup' 3 (gCons (gSet 8) (gCons (gSet 9) (gCons (gSet 10) gNil)))) gNil))) fb__given_3))) (gM TR (some (.d (wsD WS))) (TR.map (·.c)) [] [] none none none none none none none none) =
      .nx [none, none, none, some (.m true (kvP (given TR WS).2.1)), some (.l ((given TR WS).2.2.map .int)), none, none, none, none, none, none, none, none, none] := by
    refine cut_nx (m' := gM TR ws' (given TR WS).1 (given TR WS).2.1 (given TR WS).2.2 none none none none none none none none) ?_
    rw [sPre_s, sFor_s]
    have e : iArg enumD [(vVar 1)] (wipeM (gM TR (some (.d (wsD WS))) (TR.map (·.c)) [] [] none none none none none none none none) [5, 6, 8, 9, 10, 11, 12, 13]) = .ok ((WS.zipIdx 0).map fun p => .tuple [.int ((p.2 : Nat) : Int), wD p.1]) := by
      simp [gM, wsD, enum_zip]
    rw [e]
    exact hl
  rw [seq_nx s1]
  rw [seq_nx (m' := [some (.d (trD TR)), some (.d (wsD WS)), some (.l ((TR.map (·.c)).map .int)), some (.m true []), none, none, none, none, none, none, none, none, none, none]) (set_nx rfl (by simp))]
  rw [seq_nx (m' := gM TR (some (.d (wsD WS))) (TR.map (·.c)) [] [] none none none none none none none none) (set_nx rfl (by simp))]
  rw [seq_nx s4]
  simp only [sGive_s]
  rw [giveAt_m (T := true) (kvs := kvP (given TR WS).2.1) (by rfl)]
  simp [sFrz, frzAt, givenD]
end Dl
set_option Elab.async false
set_option linter.all false
set_option maxRecDepth 100000
namespace Dl
open PySem PySem.Spec PyProof.Rows L2
theorem goWhile_S {σ : Type} {t : Ms → Rz Bool} {b : Ms → Fl} (st : σ → Ms) (P : σ → Prop) (μ : σ → Nat) (step : ∀ s, P s → t (st s) = .ok false ∨ (t (st s) = .ok true ∧ ∃ s', b (st s) = .nx (st s') ∧ P s' ∧ μ s' < μ s)) : ∀ (k : Nat) (s : σ), P s → μ s < k → ∃ s', goWhile t b k (st s) = .nx (st s') ∧ P s' ∧ t (st s') = .ok false
  | 0, _, _, h => by omega
  | k + 1, s, hP, h => by
    rcases step s hP with h1 | ⟨h1, s2, h2, h3, h4⟩
    · exact ⟨s, by rw [goWhile, h1], hP, h1⟩
    · obtain ⟨s', h5, h6⟩ := goWhile_S st P μ step k s2 h3 (by omega)
      exact ⟨s', by rw [goWhile, h1]; dsimp only; rw [h2]; exact h5, h6⟩
/-! ### the found -/
def fD (F : List Nat) : List (PyData × PyData) := F.map fun (n : Nat) => (PyData.int n, PyData.bool true)
theorem fD_len {F : List Nat} : (fD F).length = F.length := by unfold fD; rw [List.length_map]
theorem kI_eq {a n : Nat} : (keyOfD (.int (n : Int)) = some (.inl (a : Int))) ↔ n = a := by
  simp only [keyOfD, Option.some.injEq, Sum.inl.injEq]
  omega
theorem dgetF {F : List Nat} {n : Nat} : dgetD false (fD F) (.int (n : Nat)) = some (if n ∈ F then some (.bool true) else none) := by
  unfold dgetD
  rw [if_neg (by decide)]
  show (some (Sum.inl (n : Int))).map _ = _
  rw [Option.map_some]
  congr 1
  unfold dfind
  induction F with
  | nil => rfl
  | cons a F ih =>
    unfold fD
    rw [List.map_cons, List.find?_cons]
    by_cases h : a = n
    · rw [decide_eq_true (kI_eq.mpr h), if_pos (by simp [h])]; rfl
    · rw [decide_eq_false fun z => h (kI_eq.mp z)]
      refine (show _ = _ from ih).trans ?_
      have : (n ∈ a :: F) ↔ n ∈ F := by
        rw [List.mem_cons]
        exact ⟨fun z => z.resolve_left fun e => h e.symm, .inr⟩
      by_cases hn : n ∈ F
      · rw [if_pos hn, if_pos (this.mpr hn)]
      · rw [if_neg hn, if_neg fun z => hn (this.mp z)]
theorem dputF {F : List Nat} {n : Nat} (h : n ∉ F) : dputD false (fD F) (.int (n : Nat)) (.bool true) = some (fD (F ++ [n])) := by
  unfold dputD
  rw [if_neg (by decide)]
  show (some (Sum.inl (n : Int))).map _ = _
  rw [Option.map_some]
  unfold dset
  rw [if_neg]
  · unfold fD; rw [List.map_append]; rfl
  · rw [Bool.not_eq_true, List.any_eq_false]
    intro k hk
    unfold fD at hk
    obtain ⟨p, hp, rfl⟩ := List.mem_map.mp hk
    rw [decide_eq_true_eq]
    intro z
    exact h (kI_eq.mp z ▸ hp)
abbrev Fq := List Nat × List Nat
def putStep (a : Nat) (s : Fq) (q : Nat × Nat) : Fq := if q.1 = a ∧ q.2 ∉ s.1 then (s.1 ++ [q.2], s.2 ++ [q.2]) else s
def trayStep (M : List (Nat × Nat)) (k d : Int) (s : Fq) (p : Tray × Nat) : Fq := if hasB p.1 k d = true then M.foldl (putStep p.2) s else s
def visit (TR : List Tray) (M : List (Nat × Nat)) (k d : Int) (s : Fq) : Fq := TR.zipIdx.foldl (trayStep M k d) s
def sM (TR : List Tray) (WS : List Wish) (M : List ((Nat × Nat) × Int)) (k : Int) (s : Fq) (here at_ tray own num : Option W) : Ms :=
  [some (.d (trD TR)), some (.d (wsD WS)), some (.q (.dict (kvP M))), none, some (.d (.int k)), some (.m false (fD s.1)), some (.l (s.2.map fun (n : Nat) => PyData.int n)), here, at_, tray, own, num]
section
variable {TR : List Tray} {WS : List Wish} {M : List ((Nat × Nat) × Int)} {k : Int} {s : Fq} {here at_ tray own num : Option W}
theorem fs0 {a : Nat} {q : Nat × Nat} (h1 : s.1.length ≤ 1000) (h2 : s.2.length ≤ 1000) :
    fb__short_days_0 (sM TR WS M k s here (some (.d (.int (a : Nat)))) tray (some (.d (.int (q.1 : Nat)))) (some (.d (.int (q.2 : Nat))))) =
    .nx (sM TR WS M k (putStep a s q) here (some (.d (.int (a : Nat)))) tray none none) := by
  have hd : tDin false 5 (vVar 11) (sM TR WS M k s here (some (.d (.int (a : Nat)))) tray (some (.d (.int (q.1 : Nat)))) (some (.d (.int (q.2 : Nat))))) = .ok (decide (q.2 ∉ s.1)) := by
    rw [tDin_s (k := .int (q.2 : Nat)) (T := false) (kvs := fD s.1) (by rfl) (by rfl) dgetF]
    by_cases h : q.2 ∈ s.1 <;> simp [h]
  have he : t2 eqD (rVar 10) (rVar 8) (sM TR WS M k s here (some (.d (.int (a : Nat)))) tray (some (.d (.int (q.1 : Nat)))) (some (.d (.int (q.2 : Nat))))) = .ok (decide (q.1 = a)) := by
    simp only [sM, t2_s, rVar_s, List.getElem?_cons_succ, List.getElem?_cons_zero, Rz.bind_ok, eq_i, ofO_some']
    congr 1
    rw [Bool.eq_iff_iff, beq_iff_eq, decide_eq_true_eq]
    omega
  unfold fb__short_days_0
  by_cases hc : q.1 = a ∧ q.2 ∉ s.1
  · have e : putStep a s q = (s.1 ++ [q.2], s.2 ++ [q.2]) := by unfold putStep; exact if_pos hc
    rw [e]
    refine cut_nx (m' := sM TR WS M k (s.1 ++ [q.2], s.2 ++ [q.2]) here (some (.d (.int (a : Nat)))) tray (some (.d (.int (q.1 : Nat)))) (some (.d (.int (q.2 : Nat))))) ?_
    rw [sIf_t (by rw [tAnd_s, he, Rz.bind_ok, decide_eq_true hc.1, if_pos rfl, hd, decide_eq_true hc.2])]
    have h5 : (fD s.1).length < 10000000 := by rw [fD_len]; omega
    refine (seq_nx (m' := sM TR WS M k (s.1 ++ [q.2], s.2) here (some (.d (.int (a : Nat)))) tray (some (.d (.int (q.1 : Nat)))) (some (.d (.int (q.2 : Nat))))) ?_).trans ?_
    · simp only [sM, sDput_s, vC_s, vVar_s, mAt, List.getElem?_cons_succ, List.getElem?_cons_zero, dputF hc.2, h5, if_true]
      rfl
    · have h6 : (s.2.map fun (n : Nat) => PyData.int n).length < 16777216 := by rw [List.length_map]; omega
      simp only [sM, sApp_s, lAt, vVar_s, List.getElem?_cons_succ, List.getElem?_cons_zero, h6, if_true, List.set, List.map_append, List.map_cons, List.map_nil]
  · have e : putStep a s q = s := by unfold putStep; exact if_neg hc
    rw [e]
    refine cut_nx (m' := sM TR WS M k s here (some (.d (.int (a : Nat)))) tray (some (.d (.int (q.1 : Nat)))) (some (.d (.int (q.2 : Nat))))) ?_
    rw [sIf_f]
    · rfl
    · rw [tAnd_s, he, Rz.bind_ok]
      by_cases h : q.1 = a
      · rw [decide_eq_true h, if_pos rfl, hd]
        exact congrArg Rz.ok (decide_eq_false fun z => hc ⟨h, z⟩)
      · rw [decide_eq_false h]; rfl
/-- the bounds of what is found -/
structure FB (n : Nat) (s : Fq) : Prop where
  nd : s.1.Nodup
  lt : ∀ x ∈ s.1, x < n
  qf : s.2.Sublist s.1
theorem FB.len {n : Nat} (h : FB n s) : s.1.length ≤ n ∧ s.2.length ≤ n := by
  have h1 : s.1.length ≤ n := by
    have := List.Nodup.length_le_of_subset h.nd (l₂ := List.range n) fun x hx => List.mem_range.mpr (h.lt x hx)
    rwa [List.length_range] at this
  exact ⟨h1, Nat.le_trans h.qf.length_le h1⟩
theorem FB.put {n a : Nat} {q : Nat × Nat} (h : FB n s) (hq : q.2 < n) : FB n (putStep a s q) := by
  unfold putStep
  split
  · rename_i hc
    refine ⟨?_, fun x hx => ?_, h.qf.append (List.Sublist.refl _)⟩
    · rw [List.nodup_append]
      exact ⟨h.nd, by simp, fun x hx y hy e => hc.2 (by rw [List.mem_singleton.mp hy] at e; exact e ▸ hx)⟩
    · rcases List.mem_append.mp hx with z | z
      · exact h.lt x z
      · rw [List.mem_singleton.mp z]; exact hq
  · exact h
theorem fsL {n a : Nat} (hn : n ≤ 1000) : ∀ (ks : List (Nat × Nat)) {s : Fq} {own num : Option W}, FB n s → (∀ q ∈ ks, q.2 < n) →
    ∃ own' num', goFor (gTup' 2 (gCons (gSet 10) (gCons (gSet 11) gNil))) fb__short_days_0 (ks.map fun q => PyData.tuple [.int (q.1 : Nat), .int (q.2 : Nat)]) (sM TR WS M k s here (some (.d (.int (a : Nat)))) tray own num) =
      .nx (sM TR WS M k (ks.foldl (putStep a) s) here (some (.d (.int (a : Nat)))) tray own' num') ∧ FB n (ks.foldl (putStep a) s)
  | [], s, own, num, h, _ => ⟨own, num, rfl, h⟩
  | q :: ks, s, own, num, h, hk => by
    obtain ⟨own', num', e, h'⟩ := fsL hn ks (s := putStep a s q) (own := none) (num := none) (h.put (hk q (by simp))) fun z hz => hk z (List.mem_cons_of_mem _ hz)
    refine ⟨own', num', ?_, h'⟩
    have hl := h.len
    rw [List.map_cons, goFor, gTup2 (by simp [sM]) (by simp [sM])]
    dsimp only
    have := fs0 (TR := TR) (WS := WS) (M := M) (k := k) (s := s) (here := here) (tray := tray) (a := a) (q := q) (by omega) (by omega)
    rw [show ((sM TR WS M k s here (some (.d (.int (a : Nat)))) tray own num).set 10 (some (.d (.int (q.1 : Nat))))).set 11 (some (.d (.int (q.2 : Nat)))) = sM TR WS M k s here (some (.d (.int (a : Nat)))) tray (some (.d (.int (q.1 : Nat)))) (some (.d (.int (q.2 : Nat)))) from rfl, this]
    exact e
theorem iKeys_kvP {m : Ms} {i : Nat} (h : m[i]? = some (some (.q (.dict (kvP M))))) (hM : M.length ≤ 10000) : iKeysD i m = .ok ((M.map (·.1)).map fun q => PyData.tuple [.int (q.1 : Nat), .int (q.2 : Nat)]) := by
  unfold iKeysD qdAt
  rw [h]
  dsimp only
  rw [if_pos (by rw [kvP_len]; omega)]
  unfold kvP
  rw [List.map_map, List.map_map]; rfl
/-- one tray -/
theorem fs1 {n a : Nat} {t : Tray} {d : Int} {x y : PyData} (hn : n ≤ 1000) (hM : M.length ≤ 10000) (hk : ∀ q ∈ M.map (·.1), q.2 < n) (h : FB n s) :
    fb__short_days_1 (sM TR WS M k s (some (.d (.tuple [x, .int d, y]))) (some (.d (.int (a : Nat)))) (some (.d (tD t))) none none) =
    .nx (sM TR WS M k (trayStep (M.map (·.1)) k d s (t, a)) (some (.d (.tuple [x, .int d, y]))) none none none none) ∧ FB n (trayStep (M.map (·.1)) k d s (t, a)) := by
  have ht : tV' (vFn m__has [(vVar 9), (vVar 4), (toV (e2 ixD (rVar 7) (vC (.int 1))))]) (sM TR WS M k s (some (.d (.tuple [x, .int d, y]))) (some (.d (.int (a : Nat)))) (some (.d (tD t))) none none) = .ok (hasB t k d) := by
    simp [sM, m_has_ok]
  unfold fb__short_days_1
  cases hc : hasB t k d with
  | true =>
    obtain ⟨own', num', e, h'⟩ := fsL (TR := TR) (WS := WS) (M := M) (k := k) (here := some (.d (.tuple [x, .int d, y]))) (tray := none) (n := n) (a := a) hn (M.map (·.1)) (s := s) (own := none) (num := none) h hk
    have e2 : trayStep (M.map (·.1)) k d s (t, a) = (M.map (·.1)).foldl (putStep a) s := by unfold trayStep; exact if_pos hc
    rw [e2]
    refine ⟨?_, h'⟩
    refine cut_nx (m' := sM TR WS M k ((M.map (·.1)).foldl (putStep a) s) (some (.d (.tuple [x, .int d, y]))) none none none none) ?_
    refine cut_nx (m' := sM TR WS M k ((M.map (·.1)).foldl (putStep a) s) (some (.d (.tuple [x, .int d, y]))) none none none none) ?_
    rw [sIf_t (ht.trans (by rw [hc])), sGive_s]
    refine cut_nx (m' := sM TR WS M k ((M.map (·.1)).foldl (putStep a) s) (some (.d (.tuple [x, .int d, y]))) (some (.d (.int (a : Nat)))) none own' num') ?_
    rw [sPre_s, sFor_s, iKeys_kvP (M := M) (by rfl) hM]
    exact e
  | false =>
    have e2 : trayStep (M.map (·.1)) k d s (t, a) = s := by unfold trayStep; exact if_neg (by simp [hc])
    rw [e2]
    refine ⟨?_, h⟩
    refine cut_nx (m' := sM TR WS M k s (some (.d (.tuple [x, .int d, y]))) (some (.d (.int (a : Nat)))) (some (.d (tD t))) none none) ?_
    refine cut_nx (m' := sM TR WS M k s (some (.d (.tuple [x, .int d, y]))) (some (.d (.int (a : Nat)))) (some (.d (tD t))) none none) ?_
    rw [sIf_f (ht.trans (by rw [hc]))]
    rfl
theorem fsT {n : Nat} {d : Int} {x y : PyData} (hn : n ≤ 1000) (hM : M.length ≤ 10000) (hk : ∀ q ∈ M.map (·.1), q.2 < n) : ∀ (T : List Tray) (i : Nat) {s : Fq} {at_ tray : Option W}, FB n s →
    ∃ at' tray', goFor (gTup' 2 (gCons (gSet 8) (gCons (gSet 9) gNil))) fb__short_days_1 ((T.zipIdx i).map fun p => PyData.tuple [.int ((p.2 : Nat) : Int), tD p.1]) (sM TR WS M k s (some (.d (.tuple [x, .int d, y]))) at_ tray none none) =
      .nx (sM TR WS M k ((T.zipIdx i).foldl (trayStep (M.map (·.1)) k d) s) (some (.d (.tuple [x, .int d, y]))) at' tray' none none) ∧ FB n ((T.zipIdx i).foldl (trayStep (M.map (·.1)) k d) s)
  | [], i, s, at_, tray, h => ⟨at_, tray, rfl, h⟩
  | t :: T, i, s, at_, tray, h => by
    obtain ⟨e1, h1⟩ := fs1 (TR := TR) (WS := WS) (M := M) (k := k) (s := s) (n := n) (a := i) (t := t) (d := d) (x := x) (y := y) hn hM hk h
    obtain ⟨at', tray', e, h'⟩ := fsT hn hM hk T (i + 1) (s := trayStep (M.map (·.1)) k d s (t, i)) (at_ := none) (tray := none) h1
    refine ⟨at', tray', ?_, h'⟩
    rw [List.zipIdx_cons, List.map_cons, goFor, gTup2 (by simp [sM]) (by simp [sM])]
    dsimp only
    rw [show ((sM TR WS M k s (some (.d (.tuple [x, .int d, y]))) at_ tray none none).set 8 (some (.d (.int ((i : Nat) : Int))))).set 9 (some (.d (tD t))) = sM TR WS M k s (some (.d (.tuple [x, .int d, y]))) (some (.d (.int (i : Nat)))) (some (.d (tD t))) none none from rfl, e1]
    exact e
def dayN (WS : List Wish) (n : Nat) : Int := match WS[n]? with
  | some w => w.d
  | none => 0
/-- one round of the search -/
theorem fs2 {Q : List Nat} {F : List Nat} {j : Nat} (hW : WS.length ≤ 1000) (hM : M.length ≤ 10000) (hk : ∀ q ∈ M.map (·.1), q.2 < WS.length) (h : FB WS.length (F, Q ++ [j])) :
    fb__short_days_2 (sM TR WS M k (F, Q ++ [j]) none none none none none) = .nx (sM TR WS M k (visit TR (M.map (·.1)) k (dayN WS j) (F, Q)) none none none none none) ∧ FB WS.length (visit TR (M.map (·.1)) k (dayN WS j) (F, Q)) := by
  have hj : j < WS.length := h.lt j (h.qf.subset (by simp))
  obtain ⟨w, hw⟩ : ∃ w, WS[j]? = some w := ⟨_, List.getElem?_eq_getElem hj⟩
  have hd : dayN WS j = w.d := by unfold dayN; rw [hw]
  have h0 : FB WS.length (F, Q) := ⟨h.nd, h.lt, (List.sublist_append_left Q [j]).trans h.qf⟩
  obtain ⟨at', tray', e, h'⟩ := fsT (TR := TR) (WS := WS) (M := M) (k := k) (n := WS.length) (d := w.d) (x := .int w.k) (y := .int w.c) hW hM hk TR 0 (s := (F, Q)) (at_ := none) (tray := none) h0
  rw [hd]
  refine ⟨?_, h'⟩
  unfold fb__short_days_2
  refine cut_nx (m' := sM TR WS M k (visit TR (M.map (·.1)) k w.d (F, Q)) none none none none none) ?_
  have hl : ((Q ++ [j]).map fun (n : Nat) => PyData.int n).getLast? = some (.int (j : Nat)) := by simp
  have hi : atI (WS.map wD) ((j : Nat) : Int) = some (wD w) := by rw [atI_nat, List.getElem?_map, hw]; rfl
  have s1 : sPopIx 7 6 (vVar 1) (sM TR WS M k (F, Q ++ [j]) none none none none none) = .nx (sM TR WS M k (F, Q) (some (.d (wD w))) none none none none) := by
    unfold sPopIx
    simp only [sM, flE, vVar_s, lAt, List.getElem?_cons_succ, List.getElem?_cons_zero, hl]
    simp only [wsD, itemsD, Option.bind_some, hi]
    simp [wsD]
  rw [seq_nx s1]
  refine cut_nx (m' := sM TR WS M k (visit TR (M.map (·.1)) k w.d (F, Q)) (some (.d (wD w))) at' tray' none none) ?_
  rw [sPre_s, sFor_s]
  have he : iArg enumD [(vVar 0)] (wipeM (sM TR WS M k (F, Q) (some (.d (wD w))) none none none none) [3, 8, 9, 10, 11]) = .ok ((TR.zipIdx 0).map fun p => PyData.tuple [.int ((p.2 : Nat) : Int), tD p.1]) := by
    simp [sM, trD, enum_zip]
  rw [he]
  exact e
end
end Dl
set_option Elab.async false
set_option linter.all false
set_option maxRecDepth 100000
namespace Dl
open PySem PySem.Spec PyProof.Rows L2
def Adj (TR : List Tray) (k d : Int) (a : Nat) : Prop := ∃ t, TR[a]? = some t ∧ hasB t k d = true
inductive Rch (TR : List Tray) (WS : List Wish) (ks : List (Nat × Nat)) (k : Int) (start : Nat) : Nat → Prop
  | start : Rch TR WS ks k start start
  | step {j a n : Nat} : Rch TR WS ks k start j → Adj TR k (dayN WS j) a → (a, n) ∈ ks → Rch TR WS ks k start n
theorem foldPut {a : Nat} : ∀ (ks : List (Nat × Nat)) (s : Fq), ∃ new, ks.foldl (putStep a) s = (s.1 ++ new, s.2 ++ new) ∧ (∀ x ∈ new, (a, x) ∈ ks) ∧ ∀ n, (a, n) ∈ ks → n ∈ s.1 ++ new
  | [], s => ⟨[], by simp, fun _ h => absurd h List.not_mem_nil, fun _ h => absurd h List.not_mem_nil⟩
  | q :: ks, s => by
    obtain ⟨new, h1, h2, h3⟩ := foldPut ks (putStep a s q)
    rw [List.foldl_cons]
    by_cases hc : q.1 = a ∧ q.2 ∉ s.1
    · have e : putStep a s q = (s.1 ++ [q.2], s.2 ++ [q.2]) := by unfold putStep; exact if_pos hc
      rw [e] at h1 h3 ⊢
      have eq : (a, q.2) = q := by rw [← hc.1]
      refine ⟨q.2 :: new, by rw [h1]; simp, fun x hx => ?_, fun n hn => ?_⟩
      · rcases List.mem_cons.mp hx with rfl | hx
        · rw [eq]; simp
        · exact List.mem_cons_of_mem _ (h2 x hx)
      · rcases List.mem_cons.mp hn with z | hn
        · rw [← z]; simp
        · have := h3 n hn
          simpa using this
    · have e : putStep a s q = s := by unfold putStep; exact if_neg hc
      rw [e] at h1 h3 ⊢
      refine ⟨new, h1, fun x hx => List.mem_cons_of_mem _ (h2 x hx), fun n hn => ?_⟩
      rcases List.mem_cons.mp hn with z | hn
      · refine List.mem_append.mpr (.inl ?_)
        by_cases hm : q.2 ∈ s.1
        · rw [← z] at hm; exact hm
        · exact absurd ⟨by rw [← z], hm⟩ hc
      · exact h3 n hn
theorem foldTray {ks : List (Nat × Nat)} {k d : Int} : ∀ (P : List (Tray × Nat)) (s : Fq), ∃ new, P.foldl (trayStep ks k d) s = (s.1 ++ new, s.2 ++ new) ∧ (∀ x ∈ new, ∃ p ∈ P, hasB p.1 k d = true ∧ (p.2, x) ∈ ks) ∧ ∀ p ∈ P, hasB p.1 k d = true → ∀ n, (p.2, n) ∈ ks → n ∈ s.1 ++ new
  | [], s => ⟨[], by simp, fun _ h => absurd h List.not_mem_nil, fun _ h => absurd h List.not_mem_nil⟩
  | p :: P, s => by
    obtain ⟨new, h1, h2, h3⟩ := foldTray P (trayStep ks k d s p)
    rw [List.foldl_cons]
    cases hc : hasB p.1 k d with
    | true =>
      have e : trayStep ks k d s p = ks.foldl (putStep p.2) s := by unfold trayStep; exact if_pos hc
      obtain ⟨n1, g1, g2, g3⟩ := foldPut (a := p.2) ks s
      rw [e, g1] at h1 h3 ⊢
      refine ⟨n1 ++ new, by rw [h1]; simp, fun x hx => ?_, fun q hq hh n hn => ?_⟩
      · rcases List.mem_append.mp hx with hx | hx
        · exact ⟨p, by simp, hc, g2 x hx⟩
        · obtain ⟨q, hq, z⟩ := h2 x hx
          exact ⟨q, List.mem_cons_of_mem _ hq, z⟩
      · rw [← List.append_assoc]
        rcases List.mem_cons.mp hq with rfl | hq
        · exact List.mem_append.mpr (.inl (g3 n hn))
        · exact h3 q hq hh n hn
    | false =>
      have e : trayStep ks k d s p = s := by unfold trayStep; exact if_neg (by simp [hc])
      rw [e] at h1 h3 ⊢
      refine ⟨new, h1, fun x hx => ?_, fun q hq hh n hn => ?_⟩
      · obtain ⟨q, hq, z⟩ := h2 x hx
        exact ⟨q, List.mem_cons_of_mem _ hq, z⟩
      · rcases List.mem_cons.mp hq with rfl | hq
        · rw [hc] at hh; cases hh
        · exact h3 q hq hh n hn
theorem visit_new {TR : List Tray} {ks : List (Nat × Nat)} {k d : Int} (s : Fq) : ∃ new, visit TR ks k d s = (s.1 ++ new, s.2 ++ new) ∧ (∀ x ∈ new, ∃ a, Adj TR k d a ∧ (a, x) ∈ ks) ∧ ∀ a, Adj TR k d a → ∀ n, (a, n) ∈ ks → n ∈ s.1 ++ new := by
  obtain ⟨new, h1, h2, h3⟩ := foldTray (ks := ks) (k := k) (d := d) TR.zipIdx s
  refine ⟨new, h1, fun x hx => ?_, fun a ⟨t, ht, hh⟩ n hn => ?_⟩
  · obtain ⟨p, hp, hh, hk⟩ := h2 x hx
    exact ⟨p.2, ⟨p.1, List.mem_zipIdx_iff_getElem?.mp hp, hh⟩, hk⟩
  · exact h3 (t, a) (List.mem_zipIdx_iff_getElem?.mpr ht) hh n hn
structure SInv (TR : List Tray) (WS : List Wish) (ks : List (Nat × Nat)) (k : Int) (start : Nat) (s : Fq) : Prop where
  fb : FB WS.length s
  st : start ∈ s.1
  rch : ∀ x ∈ s.1, Rch TR WS ks k start x
  cl : ∀ j ∈ s.1, j ∉ s.2 → ∀ a, Adj TR k (dayN WS j) a → ∀ n, (a, n) ∈ ks → n ∈ s.1
theorem plain_ints : ∀ l : List Int, PyData.plainAll (l.map .int) = true
  | [] => by simp [PyData.plainAll]
  | x :: l => by simp [PyData.plainAll, PyData.plain, plain_ints l]
theorem qW_ints (l : List Int) : qW (.list (l.map .int)) = .d (.list (l.map .int)) := by
  unfold qW
  rw [if_pos (by simp only [PyData.plain, plain_ints])]
theorem qW_dict (k : List (PyData × PyData)) : qW (.dict k) = .q (.dict k) := by
  unfold qW
  rw [if_neg (by simp [PyData.plain])]
def daysD (WS : List Wish) (F : List Nat) : PyData := .tuple (((F.map (dayN WS)).mergeSort leI).map .int)
theorem m_short_ok {TR : List Tray} {WS : List Wish} {M : List ((Nat × Nat) × Int)} {start : Nat} {w : Wish} (hW : WS.length ≤ 1000) (hM : M.length ≤ 10000) (hk : ∀ q ∈ M.map (·.1), q.2 < WS.length) (hs : WS[start]? = some w) :
    ∃ F : List Nat, F.Nodup ∧ (∀ x ∈ F, x < WS.length) ∧ (∀ x, x ∈ F ↔ Rch TR WS (M.map (·.1)) w.k start x) ∧
      m__short_days [some (.d (trD TR)), some (.d (wsD WS)), some (.q (.dict (kvP M))), some (.d (.int (start : Nat)))] = .ok (daysD WS F) := by
  have hlt : start < WS.length := (List.getElem?_eq_some_iff.mp hs).1
  have i0 : SInv TR WS (M.map (·.1)) w.k start ([start], [start]) := ⟨⟨by simp, fun x hx => by rw [List.mem_singleton.mp hx]; exact hlt, List.Sublist.refl _⟩, by simp, fun x hx => by rw [List.mem_singleton.mp hx]; exact .start, fun j hj hq => absurd hj hq⟩
  have test : ∀ s : Fq, t2 gtD (toV (eCall (g1 lenD) [(rVar 6)])) (vC (.int 0)) (sM TR WS M w.k s none none none none none) = .ok (decide (0 < s.2.length)) := fun s => by
    simp only [sM, t2_s, toV_s, eCall_s, evalAll_cons, evalAll_nil, rVar_s, List.getElem?_cons_succ, List.getElem?_cons_zero, Rz.bind_ok, g1_s, lenD_l, ofO_some', vC_s, gt_i, List.length_map]
    congr 1
    rw [Bool.eq_iff_iff, decide_eq_true_eq, decide_eq_true_eq]
    omega
  obtain ⟨⟨F, Q⟩, e, inv, hf⟩ := goWhile_S (t := t2 gtD (toV (eCall (g1 lenD) [(rVar 6)])) (vC (.int 0))) (b := fb__short_days_2) (fun s => sM TR WS M w.k s none none none none none) (SInv TR WS (M.map (·.1)) w.k start) (fun s => WS.length - (s.1.length - s.2.length)) (fun s inv => by
    obtain ⟨F, Q⟩ := s
    rcases List.eq_nil_or_concat Q with rfl | ⟨Q, j, rfl⟩
    · exact .inl (test _)
    · rw [List.concat_eq_append] at inv ⊢
      refine .inr ⟨(test _).trans (by simp), ?_⟩
      obtain ⟨e1, f1⟩ := fs2 (TR := TR) (M := M) (k := w.k) hW hM hk inv.fb
      obtain ⟨new, g1, g2, g3⟩ := visit_new (TR := TR) (ks := M.map (·.1)) (k := w.k) (d := dayN WS j) (F, Q)
      have hj : j ∈ F := inv.fb.qf.subset (by simp)
      refine ⟨_, e1, ⟨f1, ?_, fun x hx => ?_, fun i hi hq a ha n hn => ?_⟩, ?_⟩
      · rw [g1]; exact List.mem_append.mpr (.inl inv.st)
      · rw [g1] at hx
        rcases List.mem_append.mp hx with hx | hx
        · exact inv.rch x hx
        · obtain ⟨a, ha, hk⟩ := g2 x hx
          exact .step (inv.rch j hj) ha hk
      · rw [g1] at hi hq ⊢
        simp only [List.mem_append, not_or] at hi hq
        have hi' : i ∈ F := hi.resolve_right hq.2
        by_cases e : i = j
        · rw [e] at ha; exact g3 a ha n hn
        · exact List.mem_append.mpr (.inl (inv.cl i hi' (by simp only [List.mem_append, List.mem_singleton, not_or]; exact ⟨hq.1, e⟩) a ha n hn))
      · have l1 := f1.len
        have l2 := inv.fb.qf.length_le
        rw [g1] at l1 ⊢
        simp only [List.length_append, List.length_cons, List.length_nil] at l1 l2 ⊢
        omega) 1000000 ([start], [start]) i0 (by simp only [List.length_cons, List.length_nil]; omega)
  have hQ : Q = [] := by
    rw [test] at hf
    have : ¬ 0 < Q.length := by simpa using hf
    exact List.length_eq_zero_iff.mp (by omega)
  subst hQ
  refine ⟨F, inv.fb.nd, inv.fb.lt, fun x => ⟨inv.rch x, fun h => ?_⟩, ?_⟩
  · induction h with
    | start => exact inv.st
    | step h1 h2 h3 ih => exact inv.cl _ ih List.not_mem_nil _ h2 _ h3
  · have hi : atI (WS.map wD) ((start : Nat) : Int) = some (wD w) := by rw [atI_nat, List.getElem?_map, hs]; rfl
    unfold m__short_days
    refine fn_rt (M := [some (.d (trD TR)), some (.d (wsD WS)), some (.q (.dict (kvP M))), some (.d (.int (start : Nat))), none, none, none, none, none, none, none, none]) (by rfl) ?_
    unfold b__short_days
    rw [seq_nx (m' := [some (.d (trD TR)), some (.d (wsD WS)), some (.q (.dict (kvP M))), some (.d (.int (start : Nat))), some (.d (.int w.k)), none, none, none, none, none, none, none]) (set_nx (w := .d (.int w.k)) (by
      simp only [ofV_s, toV_s, e2_s, rVar_s, List.getElem?_cons_succ, List.getElem?_cons_zero, Rz.bind_ok, wsD, ix_t, hi, Option.map_some, ofO_some', vC_s]
      simp [wD, rowT, Wish.row]) (by simp))]
    rw [seq_nx (m' := [some (.d (trD TR)), some (.d (wsD WS)), some (.q (.dict (kvP M))), some (.d (.int (start : Nat))), some (.d (.int w.k)), some (.m false (fD [start])), none, none, none, none, none, none]) (set_nx (w := .m false (fD [start])) (by simp [fD]) (by simp))]
    rw [seq_nx (m' := [some (.d (trD TR)), some (.d (wsD WS)), some (.q (.dict (kvP M))), some (.d (.int (start : Nat))), some (.d (.int w.k)), some (.m false (fD [start])), some (.l [.int (start : Nat)]), none, none, none, none, none]) (set_nx (w := .l [.int (start : Nat)]) (by simp) (by simp))]
    rw [seq_nx (m' := [none, some (.d (wsD WS)), none, none, none, some (.m false (fD F)), none, none, none, none, none, none]) (cut_nx (m' := sM TR WS M w.k (F, []) none none none none none) (by rw [sPre_s]; exact e))]
    rw [sGive_s, giveAt_m (T := false) (kvs := fD F) (by rfl)]
    refine ret_rt ?_
    have hl := inv.fb.len.1
    have hlc : lc__short_days_3 ([none, some (.d (wsD WS)), none, none, none, some (.m false (fD F)), none, none, none, none, none, none].set 5 (some (.q (.dict (fD F))))) = .ok (.l ((F.map (dayN WS)).map .int)) := by
      rw [List.map_map]
      unfold lc__short_days_3
      refine lc_map F (fun (n : Nat) => PyData.int n) _ (by rfl) ?_ fun n hn => ⟨[none, some (.d (wsD WS)), none, none, none, some (.q (.dict (fD F))), none, none, none, none, none, some (.d (.int (n : Nat)))], by simp, ?_⟩
      · unfold iKeysD
        have : qdAt 5 ([none, some (.d (wsD WS)), none, none, none, some (.m false (fD F)), none, none, none, none, none, none].set 5 (some (.q (.dict (fD F))))) = some (fD F) := rfl
        rw [this]
        dsimp only
        have hl : F.length ≤ WS.length := hl
        rw [if_pos (by rw [fD_len]; omega)]
        unfold fD
        rw [List.map_map]; rfl
      · obtain ⟨u, hu⟩ : ∃ u, WS[n]? = some u := ⟨_, List.getElem?_eq_getElem (inv.fb.lt n hn)⟩
        have hi : atI (WS.map wD) ((n : Nat) : Int) = some (wD u) := by rw [atI_nat, List.getElem?_map, hu]; rfl
        have hd : dayN WS n = u.d := by unfold dayN; rw [hu]
        simp only [toV_s, e2_s, rVar_s, List.getElem?_cons_succ, List.getElem?_cons_zero, Rz.bind_ok, wsD, ix_t, hi, Option.map_some, ofO_some', vC_s, Function.comp, hd]
        simp [wD, rowT, Wish.row]
    have hl' : (F.map (dayN WS)).length ≤ 10000000 := by rw [List.length_map]; have hl : F.length ≤ WS.length := hl; omega
    simp only [toV_s, eCall_s, evalAll_cons, evalAll_nil, hlc, Rz.bind_ok, g1_s, sortD_intsL hl', ofO_some', tupleD_l, daysD]
end Dl
set_option Elab.async false
set_option linter.all false
set_option maxRecDepth 100000
namespace Dl
open PySem PySem.Spec PyProof.Rows L2
/-! ### what the shares keep -/
abbrev Ms3 := List ((Nat × Nat) × Int)
structure GI (TR : List Tray) (WS : List Wish) (i : Nat) (s : List Int × Ms3 × List Int) : Prop where
  nd : (s.2.1.map (·.1)).Nodup
  rw : ∀ p ∈ s.2.1, p.1.2 < i ∧ 0 < p.2 ∧ ∃ t w, TR[p.1.1]? = some t ∧ WS[p.1.2]? = some w ∧ hasB t w.k w.d = true
  ll : s.1.length = TR.length
  kl : s.2.2.length = i
  ml : s.2.1.length ≤ TR.length * i
theorem gi_take {j : Nat} {w : Wish} {TR : List Tray} {WS : List Wish} (hw : WS[j]? = some w) : ∀ (G : List (Int × Nat)) (s : Gv), (G.map (·.2)).Nodup → (∀ p ∈ G, ∃ t, TR[p.2]? = some t ∧ hasB t w.k w.d = true) → (∀ p ∈ G, (p.2, j) ∉ s.2.1.map (·.1)) → (s.2.1.map (·.1)).Nodup →
    (∀ p ∈ s.2.1, p.1.2 < j + 1 ∧ 0 < p.2 ∧ ∃ t w, TR[p.1.1]? = some t ∧ WS[p.1.2]? = some w ∧ hasB t w.k w.d = true) →
    ((G.foldl (takeStep j) s).2.1.map (·.1)).Nodup ∧ ∀ p ∈ (G.foldl (takeStep j) s).2.1, p.1.2 < j + 1 ∧ 0 < p.2 ∧ ∃ t w, TR[p.1.1]? = some t ∧ WS[p.1.2]? = some w ∧ hasB t w.k w.d = true
  | [], s, _, _, _, h4, h5 => ⟨h4, h5⟩
  | p :: G, s, h1, h2, h3, h4, h5 => by
    rw [List.map_cons, List.nodup_cons] at h1
    rw [List.foldl_cons]
    by_cases hc : 0 < min (s.1.getD p.2 0) s.2.2
    · have e : takeStep j s p = (s.1.set p.2 (s.1.getD p.2 0 - min (s.1.getD p.2 0) s.2.2), s.2.1 ++ [((p.2, j), min (s.1.getD p.2 0) s.2.2)], s.2.2 - min (s.1.getD p.2 0) s.2.2) := by unfold takeStep; exact if_pos hc
      rw [e]
      refine gi_take hw G _ h1.2 (fun q hq => h2 q (List.mem_cons_of_mem _ hq)) (fun q hq z => ?_) ?_ fun q hq => ?_
      · rw [List.map_append, List.mem_append] at z
        rcases z with z | z
        · exact h3 q (List.mem_cons_of_mem _ hq) z
        · have : q.2 = p.2 := congrArg Prod.fst (List.mem_singleton.mp z)
          exact h1.1 (this ▸ List.mem_map_of_mem (f := (·.2)) hq)
      · rw [List.map_append, List.nodup_append]
        refine ⟨h4, by simp, fun x hx y hy e => h3 p (by simp) ?_⟩
        have hy' : y = (p.2, j) := List.mem_singleton.mp hy
        rw [← hy', ← e]; exact hx
      · rcases List.mem_append.mp hq with hq | hq
        · exact h5 q hq
        · rw [List.mem_singleton.mp hq]
          obtain ⟨t, a, b⟩ := h2 p (by simp)
          exact ⟨Nat.lt_succ_self _, hc, t, w, a, hw, b⟩
    · have e : takeStep j s p = s := by unfold takeStep; exact if_neg hc
      rw [e]
      exact gi_take hw G s h1.2 (fun q hq => h2 q (List.mem_cons_of_mem _ hq)) (fun q hq => h3 q (List.mem_cons_of_mem _ hq)) h4 h5
theorem gi_wish {TR : List Tray} {WS : List Wish} {j : Nat} {w : Wish} {s : List Int × Ms3 × List Int} (hw : WS[j]? = some w) (h : GI TR WS j s) : GI TR WS (j + 1) (wishStep TR s (w, j)) := by
  obtain ⟨f1, f2, f3⟩ := foldl_take (j := j) (goodG TR w.k w.d) (s.1, s.2.1, w.c)
  have gl := good_len (TR := TR) (k := w.k) (d := w.d)
  obtain ⟨k1, k2⟩ := gi_take hw (goodG TR w.k w.d) (s.1, s.2.1, w.c) good_nodup (fun p hp => by
    obtain ⟨t, a, b, _⟩ := mem_good.mp hp
    exact ⟨t, a, b⟩) (fun p hp z => by
    obtain ⟨q, hq, e⟩ := List.mem_map.mp z
    have := (h.rw q hq).1
    rw [e] at this
    exact Nat.lt_irrefl _ this) h.nd fun p hp => by
    obtain ⟨a, b⟩ := h.rw p hp
    exact ⟨by omega, b⟩
  refine ⟨k1, k2, f1.trans h.ll, ?_, ?_⟩
  · show (s.2.2 ++ [_]).length = _
    rw [List.length_append, h.kl]; rfl
  · have f3' : ((goodG TR w.k w.d).foldl (takeStep j) (s.1, s.2.1, w.c)).2.1.length ≤ s.2.1.length + (goodG TR w.k w.d).length := f3
    show ((goodG TR w.k w.d).foldl (takeStep j) (s.1, s.2.1, w.c)).2.1.length ≤ _
    have := h.ml
    rw [Nat.mul_succ]
    omega
theorem fold_zip {α σ : Type} (f : σ → α × Nat → σ) (P : Nat → σ → Prop) (W : List α) (st : ∀ j w s, W[j]? = some w → P j s → P (j + 1) (f s (w, j))) : ∀ (V : List α) (i : Nat) (s : σ), (∀ j, V[j]? = W[i + j]?) → V.length + i = W.length → P i s → P W.length ((V.zipIdx i).foldl f s)
  | [], i, s, _, hl, h => by
    rw [List.length_nil, Nat.zero_add] at hl
    rw [← hl]; exact h
  | v :: V, i, s, hv, hl, h => by
    rw [List.zipIdx_cons, List.foldl_cons]
    refine fold_zip f P W st V (i + 1) _ (fun j => ?_) (by rw [List.length_cons] at hl; omega) (st i v s ?_ h)
    · have := hv (j + 1)
      rw [List.getElem?_cons_succ] at this
      rw [this]; congr 1; omega
    · have := hv 0
      rw [List.getElem?_cons_zero] at this
      exact this.symm
theorem given_gi (TR : List Tray) (WS : List Wish) : GI TR WS WS.length (given TR WS) := by
  unfold given
  exact fold_zip (wishStep TR) (GI TR WS) WS (fun j w s hw h => gi_wish hw h) WS 0 (TR.map Tray.c, [], []) (fun j => by rw [Nat.zero_add]) rfl ⟨by simp, fun p h => absurd h List.not_mem_nil, by rw [List.length_map], rfl, Nat.zero_le _⟩
/-! ### met -/
def shortN (K : List Int) : List Nat := (K.zipIdx.filter fun p => decide (0 < p.1)).map (·.2)
def rowM (p : (Nat × Nat) × Int) : List Int := [(p.1.1 : Int), (p.1.2 : Int), p.2]
def metRows (M : Ms3) : List (List Int) := (M.map rowM).mergeSort leR
def metD (M : Ms3) : PyData := .tuple [.str "met", .tuple ((metRows M).map rowT)]
def shortD (k : Int) (WS : List Wish) (F : List Nat) : PyData := .tuple [.str "short", .int k, daysD WS F]
theorem tr_ok {TR : List Tray} {WS : List Wish} (h1 : trB (trD TR) = true) (h2 : wsB (wsD WS) = true) : TR.length ≤ 12 ∧ WS.length ≤ 12 ∧ m__check [some (.d (trD TR)), some (.d (wsD WS))] = .ok .none := by
  rw [trD_eq] at h1 ⊢
  rw [wsD_eq] at h2 ⊢
  have l1 := (trB_1 h1).1
  have l2 := (wsB_1 h2).1
  simp only [Bool.and_eq_true, decide_eq_true_eq, List.length_map] at l1 l2
  exact ⟨l1.1, l2.1, m_check_ok h1 h2⟩
theorem m_met_ok {TR : List Tray} {WS : List Wish} (h1 : trB (trD TR) = true) (h2 : wsB (wsD WS) = true) :
    (shortN (given TR WS).2.2 = [] ∧ m_met [some (.d (trD TR)), some (.d (wsD WS))] = .ok (metD (given TR WS).2.1)) ∨
    ∃ start r w F, shortN (given TR WS).2.2 = start :: r ∧ WS[start]? = some w ∧ F.Nodup ∧ (∀ x ∈ F, x < WS.length) ∧ (∀ x, x ∈ F ↔ Rch TR WS ((given TR WS).2.1.map (·.1)) w.k start x) ∧
      m_met [some (.d (trD TR)), some (.d (wsD WS))] = .ok (shortD w.k WS F) := by
  obtain ⟨hT, hW, hc⟩ := tr_ok h1 h2
  have gi := given_gi TR WS
  have hg := m_given_ok hT hW
  generalize hgv : given TR WS = g at gi hg ⊢
  obtain ⟨L, M, K⟩ := g
  have hM : M.length ≤ 10000 := by
    have := gi.ml
    have h : TR.length * WS.length ≤ 12 * 12 := Nat.mul_le_mul hT hW
    simp only at this
    omega
  have s1 : sExpr (vFn m__check [(vVar 0), (vVar 1)]) (S_met (some (.d (trD TR))) (some (.d (wsD WS)))) = .nx (S_met (some (.d (trD TR))) (some (.d (wsD WS)))) := expr_nx (x := .none) (by simp [hc])
  have s2 : sAsg (vFnM m__given [(vVar 0), (vVar 1)]) (gTup' 2 (gCons (gSetQ 3) (gCons (gSetQ 4) gNil))) (S_met (some (.d (trD TR))) (some (.d (wsD WS)))) = .nx (S_met (some (.d (trD TR))) (some (.d (wsD WS))) none (some (.q (.dict (kvP M)))) (some (.d (.list (K.map .int))))) := by
    have q1 : qW (trD TR) = .d (trD TR) := by
      unfold qW; rw [if_pos]
      rw [trD_eq]
      simp only [PyData.plain]
      have : ∀ R : List (List Int), PyData.plainAll (R.map rowT) = true := fun R => by
        induction R with
        | nil => simp [PyData.plainAll]
        | cons r R ih => simp [PyData.plainAll, PyData.plain, rowT, plain_ints, ih]
      exact this _
    have q2 : qW (wsD WS) = .d (wsD WS) := by
      unfold qW; rw [if_pos]
      rw [wsD_eq]
      simp only [PyData.plain]
      have : ∀ R : List (List Int), PyData.plainAll (R.map rowT) = true := fun R => by
        induction R with
        | nil => simp [PyData.plainAll]
        | cons r R ih => simp [PyData.plainAll, PyData.plain, rowT, plain_ints, ih]
      exact this _
    have hv : vFnM m__given [(vVar 0), (vVar 1)] (S_met (some (.d (trD TR))) (some (.d (wsD WS)))) = .ok (givenD TR WS) := by
      simp [q1, q2, hg]
    rw [sAsg_s, hv]
    simp [givenD, hgv, qW_dict, qW_ints]
  have hsh : lc_met_0 (S_met (some (.d (trD TR))) (some (.d (wsD WS))) none (some (.q (.dict (kvP M)))) (some (.d (.list (K.map .int))))) = .ok (.l ((shortN K).map fun (n : Nat) => PyData.int n)) := by
    unfold shortN
    rw [List.map_map]
    unfold lc_met_0
    refine lc_fil K.zipIdx (fun p => .tuple [.int ((p.2 : Nat) : Int), .int p.1]) (fun p => decide (0 < p.1)) _ (by rfl) (by simp [enum_zip]) fun p hp => ⟨S_met (some (.d (trD TR))) (some (.d (wsD WS))) none (some (.q (.dict (kvP M)))) (some (.d (.list (K.map .int)))) (some (.d (.int (p.2 : Nat)))) (some (.d (.int p.1))), ?_, ?_, fun _ => ?_⟩
    · rw [gTup2 (by simp) (by simp)]; rfl
    · simp
    · simp
  have s3 : sPost 2 (sSet 2 lc_met_0) (S_met (some (.d (trD TR))) (some (.d (wsD WS))) none (some (.q (.dict (kvP M)))) (some (.d (.list (K.map .int))))) = .nx (S_met (some (.d (trD TR))) (some (.d (wsD WS))) (some (.d (.list ((shortN K).map fun (n : Nat) => PyData.int n)))) (some (.q (.dict (kvP M)))) (some (.d (.list (K.map .int))))) := by
    rw [sPost_s, set_nx hsh (by simp)]; rfl
  have hlen : t2 eqD (toV (eCall (g1 lenD) [(rVar 2)])) (vC (.int 0)) (S_met (some (.d (trD TR))) (some (.d (wsD WS))) (some (.d (.list ((shortN K).map fun (n : Nat) => PyData.int n)))) (some (.q (.dict (kvP M)))) (some (.d (.list (K.map .int))))) = .ok (decide ((shortN K).length = 0)) := by
    simp only [t2_s, toV_s, eCall_s, evalAll_cons, evalAll_nil, rVar_s, List.getElem?_cons_succ, List.getElem?_cons_zero, Rz.bind_ok, g1_s, lenD_l, ofO_some', vC_s, eq_i, List.length_map]
    congr 1
    rw [Bool.eq_iff_iff, beq_iff_eq, decide_eq_true_eq]
    omega
  cases hs : shortN K with
  | nil =>
    refine .inl ⟨rfl, ?_⟩
    unfold m_met
    refine fn_rt (M := S_met (some (.d (trD TR))) (some (.d (wsD WS)))) rfl ?_
    unfold b_met
    rw [seq_nx s1, seq_nx s2, seq_nx s3]
    refine seq_rt ?_
    rw [sIf_t (hlen.trans (by rw [hs]; rfl)), sGive_s]
    rw [giveAt_no (fun T kvs z => by cases z)]
    have hl1 : lc_met_1 (S_met (some (.d (trD TR))) (some (.d (wsD WS))) (some (.d (.list ((shortN K).map fun (n : Nat) => PyData.int n)))) (some (.q (.dict (kvP M)))) (some (.d (.list (K.map .int))))) = .ok (.l ((M.map rowM).map rowT)) := by
      rw [List.map_map]
      unfold lc_met_1
      refine lc_map M (fun p => .tuple [.int (p.1.1 : Nat), .int (p.1.2 : Nat)]) _ (by rfl) ?_ fun p hp => ⟨S_met (some (.d (trD TR))) (some (.d (wsD WS))) (some (.d (.list ((shortN K).map fun (n : Nat) => PyData.int n)))) (some (.q (.dict (kvP M)))) (some (.d (.list (K.map .int)))) none none (some (.d (.tuple [.int (p.1.1 : Nat), .int (p.1.2 : Nat)]))), by simp, ?_⟩
      · rw [iKeys_kvP (M := M) (by rfl) hM, List.map_map]; rfl
      · have hd : dAt 3 (S_met (some (.d (trD TR))) (some (.d (wsD WS))) (some (.d (.list ((shortN K).map fun (n : Nat) => PyData.int n)))) (some (.q (.dict (kvP M)))) (some (.d (.list (K.map .int)))) none none (some (.d (.tuple [.int (p.1.1 : Nat), .int (p.1.2 : Nat)])))) = some (true, kvP M) := by
          cases M with
          | nil => exact absurd hp List.not_mem_nil
          | cons a b => rfl
        simp only [toV_s, e2_s, rVar_s, List.getElem?_cons_succ, List.getElem?_cons_zero, Rz.bind_ok, eTup_s, evalAll_cons, evalAll_nil, eDget_s, hd, vVar_s, dgetP (show ((p.1.1, p.1.2), p.2) ∈ M from hp) gi.nd, rz_map_ok]
        rfl
    have hso : sortD (.list ((M.map rowM).map rowT)) = some (.l ((metRows M).map rowT)) := sortD_rowsL (by rw [List.length_map]; omega) fun r hr => by
      obtain ⟨p, _, rfl⟩ := List.mem_map.mp hr
      simp [rowM]
    rw [hs] at hl1
    refine ret_rt ?_
    rw [hs]
    simp only [eTup_s, evalAll_cons, evalAll_nil, vC_s, Rz.bind_ok, toV_s, eCall_s, hl1, g1_s, hso, ofO_some', tupleD_l, rz_map_ok, metD]
  | cons start r =>
    have hst : start ∈ shortN K := by rw [hs]; simp
    unfold shortN at hst
    obtain ⟨p, hp, e⟩ := List.mem_map.mp hst
    have hp' := List.mem_zipIdx_iff_getElem?.mp (List.mem_filter.mp hp).1
    have hlt : start < WS.length := by
      have h := (List.getElem?_eq_some_iff.mp hp').1
      have hk := gi.kl
      simp only at hk
      rw [← e]
      omega
    obtain ⟨w, hw⟩ : ∃ w, WS[start]? = some w := ⟨_, List.getElem?_eq_getElem hlt⟩
    obtain ⟨F, f1, f2, f3, f4⟩ := m_short_ok (TR := TR) (M := M) (by omega) hM (fun q hq => by
      obtain ⟨z, hz, e⟩ := List.mem_map.mp hq
      have := (gi.rw z hz).1
      rw [e] at this
      exact this) hw
    refine .inr ⟨start, r, w, F, rfl, hw, f1, f2, f3, ?_⟩
    unfold m_met
    refine fn_rt (M := S_met (some (.d (trD TR))) (some (.d (wsD WS)))) rfl ?_
    unfold b_met
    rw [seq_nx s1, seq_nx s2, seq_nx s3]
    rw [seq_nx (m' := S_met (some (.d (trD TR))) (some (.d (wsD WS))) (some (.d (.list ((shortN K).map fun (n : Nat) => PyData.int n)))) (some (.q (.dict (kvP M)))) (some (.d (.list (K.map .int))))) (by rw [sIf_f (hlen.trans (by rw [hs]; rfl))]; rfl)]
    rw [sGive_s, giveAt_no (fun T kvs z => by cases z)]
    refine ret_rt ?_
    have hi : atI (WS.map wD) ((start : Nat) : Int) = some (wD w) := by rw [atI_nat, List.getElem?_map, hw]; rfl
    have hq : ∀ x : PyData, x.plain = true → qW x = .d x := fun x hx => by unfold qW; rw [if_pos hx]
    have pr : ∀ R : List (List Int), PyData.plainAll (R.map rowT) = true := fun R => by
      induction R with
      | nil => simp [PyData.plainAll]
      | cons r R ih => simp [PyData.plainAll, PyData.plain, rowT, plain_ints, ih]
    have q1 : qW (trD TR) = .d (trD TR) := hq _ (by rw [trD_eq]; simp only [PyData.plain]; exact pr _)
    have q2 : qW (wsD WS) = .d (wsD WS) := hq _ (by rw [wsD_eq]; simp only [PyData.plain]; exact pr _)
    have q3 : qW (.int (start : Nat)) = .d (.int (start : Nat)) := hq _ (by simp [PyData.plain])
    rw [hs]
    simp only [eTup_s, evalAll_cons, evalAll_nil, vC_s, Rz.bind_ok, toV_s, e2_s, rVar_s, vVar_s, qVar_s, vFnM_s, List.getElem?_cons_succ, List.getElem?_cons_zero, List.map_cons, List.map_nil, ix_l, atI_0, Option.map_some, ofO_some', q1, q2, q3, qW_dict, f4, rz_map_ok]
    simp only [wsD, ix_t, hi, Option.map_some, ofO_some', Rz.bind_ok]
    simp [wD, rowT, Wish.row, shortD]
end Dl
set_option Elab.async false
set_option linter.all false
set_option maxRecDepth 100000
namespace Dl
open PySem PySem.Spec PyProof.Rows L2
/-! ### sums -/
def rowSum (M : Ms3) (a : Nat) : Int := (M.map fun p => if p.1.1 = a then p.2 else 0).sum
def colSum (M : Ms3) (j : Nat) : Int := (M.map fun p => if p.1.2 = j then p.2 else 0).sum
theorem rowSum_snoc {M : Ms3} {p : (Nat × Nat) × Int} {a : Nat} : rowSum (M ++ [p]) a = rowSum M a + if p.1.1 = a then p.2 else 0 := by simp [rowSum]
theorem colSum_snoc {M : Ms3} {p : (Nat × Nat) × Int} {a : Nat} : colSum (M ++ [p]) a = colSum M a + if p.1.2 = a then p.2 else 0 := by simp [colSum]
theorem getD_set {L : List Int} {a b : Nat} {v : Int} (ha : a < L.length) : (L.set a v).getD b 0 = if b = a then v else L.getD b 0 := by
  rw [List.getD_eq_getElem?_getD, List.getD_eq_getElem?_getD, List.getElem?_set]
  by_cases h : a = b
  · subst h; simp [ha]
  · rw [if_neg h, if_neg fun e => h e.symm]
/-- what a row of takings keeps -/
structure Tk (j : Nat) (G : List (Int × Nat)) (s s' : Gv) : Prop where
  ln : s'.1.length = s.1.length
  rs : ∀ a, s'.1.getD a 0 + rowSum s'.2.1 a = s.1.getD a 0 + rowSum s.2.1 a
  cs : s'.2.2 + colSum s'.2.1 j = s.2.2 + colSum s.2.1 j
  co : ∀ i, i ≠ j → colSum s'.2.1 i = colSum s.2.1 i
  nn : (∀ a, 0 ≤ s'.1.getD a 0) ∧ 0 ≤ s'.2.2
  le : ∀ a, s'.1.getD a 0 ≤ s.1.getD a 0
  ex : 0 < s'.2.2 → ∀ p ∈ G, s'.1.getD p.2 0 = 0
  ks : ∀ q ∈ s'.2.1.map (·.1), q ∈ s.2.1.map (·.1) ∨ (q.2 = j ∧ 0 < s.2.2 ∧ ∃ p ∈ G, p.2 = q.1 ∧ 0 < s.1.getD q.1 0 ∧ ∀ p' ∈ G, leG p p' = false → s'.1.getD p'.2 0 = 0)
  kk : ∀ q ∈ s.2.1.map (·.1), q ∈ s'.2.1.map (·.1)
theorem tk_one {j : Nat} {s : Gv} {p : Int × Nat} (hb : p.2 < s.1.length) (h1 : ∀ a, 0 ≤ s.1.getD a 0) (h2 : 0 ≤ s.2.2) : Tk j [p] s (takeStep j s p) := by
  have hp := h1 p.2
  unfold takeStep
  by_cases hc : 0 < min (s.1.getD p.2 0) s.2.2
  · rw [if_pos hc]
    have g : ∀ a, (s.1.set p.2 (s.1.getD p.2 0 - min (s.1.getD p.2 0) s.2.2)).getD a 0 = if a = p.2 then s.1.getD p.2 0 - min (s.1.getD p.2 0) s.2.2 else s.1.getD a 0 := fun a => getD_set hb
    generalize hm : min (s.1.getD p.2 0) s.2.2 = o at *
    refine ⟨by simp, fun a => ?_, ?_, fun i hi => ?_, ⟨fun a => ?_, ?_⟩, fun a => ?_, fun h q hq => ?_, fun q hq => ?_, fun q hq => ?_⟩
    · simp only [g, rowSum_snoc]
      by_cases e : a = p.2
      · subst e; simp only [if_true]; omega
      · rw [if_neg e, if_neg fun z => e z.symm]; omega
    · simp only [colSum_snoc, if_true]; omega
    · simp only [colSum_snoc]; rw [if_neg fun z => hi z.symm]; omega
    · simp only [g]
      split
      · omega
      · exact h1 a
    · simp only; omega
    · simp only [g]
      split
      · rename_i e; rw [e]; omega
      · exact Int.le_refl _
    · rw [List.mem_singleton.mp hq]
      simp only [g, if_true] at h ⊢
      omega
    · simp only [List.map_append, List.mem_append] at hq
      rcases hq with hq | hq
      · exact .inl hq
      · have hq' : q = (p.2, j) := List.mem_singleton.mp hq
        subst hq'
        refine .inr ⟨rfl, by omega, p, by simp, rfl, by simp only; omega, fun p' hp' hl => ?_⟩
        rw [List.mem_singleton.mp hp'] at hl
        unfold leG leR at hl
        simp only [Bool.not_eq_false', decide_eq_true_eq] at hl
        exact absurd hl (List.lt_irrefl _)
    · simp only [List.map_append, List.mem_append]
      exact .inl hq
  · rw [if_neg hc]
    refine ⟨rfl, fun _ => rfl, rfl, fun _ _ => rfl, ⟨h1, h2⟩, fun _ => Int.le_refl _, fun h q hq => ?_, fun q hq => .inl hq, fun q hq => hq⟩
    rw [List.mem_singleton.mp hq]
    omega
theorem tk_all {j : Nat} : ∀ (G : List (Int × Nat)) (s : Gv), G.Pairwise (fun p q => leG p q = true) → (∀ p ∈ G, p.2 < s.1.length) → (∀ a, 0 ≤ s.1.getD a 0) → 0 ≤ s.2.2 → Tk j G s (G.foldl (takeStep j) s)
  | [], s, _, _, h1, h2 => ⟨rfl, fun _ => rfl, rfl, fun _ _ => rfl, ⟨h1, h2⟩, fun _ => Int.le_refl _, fun _ q hq => absurd hq List.not_mem_nil, fun q hq => .inl hq, fun q hq => hq⟩
  | p :: G, s, hs, hb, h1, h2 => by
    rw [List.pairwise_cons] at hs
    have A := tk_one (j := j) (hb p (by simp)) h1 h2
    have B := tk_all (j := j) G (takeStep j s p) hs.2 (fun q hq => by rw [A.ln]; exact hb q (List.mem_cons_of_mem _ hq)) A.nn.1 A.nn.2
    rw [List.foldl_cons]
    refine ⟨B.ln.trans A.ln, fun a => (B.rs a).trans (A.rs a), B.cs.trans A.cs, fun i hi => (B.co i hi).trans (A.co i hi), B.nn, fun a => Int.le_trans (B.le a) (A.le a), fun h q hq => ?_, fun q hq => ?_, fun q hq => B.kk q (A.kk q hq)⟩
    · rcases List.mem_cons.mp hq with rfl | hq
      · have hc : 0 < (takeStep j s q).2.2 := by
          have h3 := B.cs
          have : ∀ a, 0 ≤ (G.foldl (takeStep j) (takeStep j s q)).1.getD a 0 := B.nn.1
          rcases Int.lt_or_le 0 (takeStep j s q).2.2 with z | z
          · exact z
          · exfalso
            -- nothing is given out any more
            have e0 : (takeStep j s q).2.2 = 0 := by have := A.nn.2; omega
            have : ∀ (G : List (Int × Nat)) (t : Gv), t.2.2 = 0 → (∀ a, 0 ≤ t.1.getD a 0) → (G.foldl (takeStep j) t).2.2 = 0 := fun G => by
              induction G with
              | nil => intro t h _; exact h
              | cons r G ih =>
                intro t h ht
                have e : takeStep j t r = t := by
                  unfold takeStep
                  rw [if_neg]
                  have := ht r.2
                  omega
                rw [List.foldl_cons, e]
                exact ih t h ht
            have := this G _ e0 A.nn.1
            omega
        have h4 := A.ex hc q (by simp)
        have h5 := B.le q.2
        have h6 := B.nn.1 q.2
        omega
      · exact B.ex h q hq
    · rcases B.ks q hq with h | ⟨h, hc, r, hr, er, h7, h8⟩
      · rcases A.ks q h with h | ⟨h, hc, r, hr, er, h7, h8⟩
        · exact .inl h
        · refine .inr ⟨h, hc, r, ?_, er, h7, fun p' hp' hl => ?_⟩
          · rw [List.mem_singleton.mp hr]; simp
          · rw [List.mem_singleton.mp hr] at hl h8
            rcases List.mem_cons.mp hp' with rfl | hp'
            · have h9 := h8 p' (by simp) hl
              have h5 := B.le p'.2
              have h6 := B.nn.1 p'.2
              omega
            · rw [hs.1 p' hp'] at hl; cases hl
      · refine .inr ⟨h, ?_, r, List.mem_cons_of_mem _ hr, er, ?_, fun p' hp' hl => ?_⟩
        · have := A.cs
          have h9 : (takeStep j s p).2.2 ≤ s.2.2 := by
            unfold takeStep
            split
            · simp only; omega
            · exact Int.le_refl _
          omega
        · have := A.le q.1; omega
        · rcases List.mem_cons.mp hp' with rfl | hp'
          · have h4 := A.ex hc p' (by simp)
            have h5 := B.le p'.2
            have h6 := B.nn.1 p'.2
            omega
          · exact h8 p' hp' hl
theorem good_sorted {TR : List Tray} {k d : Int} : (goodG TR k d).Pairwise fun p q => leG p q = true := by
  unfold goodG
  refine List.pairwise_mergeSort (le := leG) (fun a b c h1 h2 => ?_) (fun a b => ?_) _
  · unfold leG leR at *
    simp only [Bool.not_eq_true', decide_eq_false_iff_not, List.not_lt] at *
    exact List.le_trans h1 h2
  · unfold leG leR
    rw [Bool.or_eq_true]
    simp only [Bool.not_eq_true', decide_eq_false_iff_not, List.not_lt]
    exact List.le_total _ _
/-! ### what all the sharing keeps -/
def endA (TR : List Tray) (a : Nat) : Int := match TR[a]? with
  | some t => t.b + t.s
  | none => 0
/-- earlier in the order of the trays -/
def Bef (TR : List Tray) (a b : Nat) : Prop := endA TR a < endA TR b ∨ (endA TR a = endA TR b ∧ a < b)
def AdjW (TR : List Tray) (WS : List Wish) (j a : Nat) : Prop := ∃ t w, TR[a]? = some t ∧ WS[j]? = some w ∧ hasB t w.k w.d = true
structure GX (TR : List Tray) (WS : List Wish) (i : Nat) (s : List Int × Ms3 × List Int) : Prop where
  ll : s.1.length = TR.length
  kl : s.2.2.length = i
  lt : ∀ q ∈ s.2.1.map (·.1), q.2 < i
  rs : ∀ a t, TR[a]? = some t → s.1.getD a 0 + rowSum s.2.1 a = t.c
  cs : ∀ j w, j < i → WS[j]? = some w → s.2.2.getD j 0 + colSum s.2.1 j = w.c
  cz : ∀ j, i ≤ j → colSum s.2.1 j = 0
  nl : ∀ a, 0 ≤ s.1.getD a 0
  nk : ∀ j, 0 ≤ s.2.2.getD j 0
  sh : ∀ j, 0 < s.2.2.getD j 0 → ∀ a, AdjW TR WS j a → s.1.getD a 0 = 0 ∧ ∀ i, (a, i) ∈ s.2.1.map (·.1) → i ≤ j
  od : ∀ a j, (a, j) ∈ s.2.1.map (·.1) → ∀ b, AdjW TR WS j b → Bef TR b a → s.1.getD b 0 = 0 ∧ ∀ i, (b, i) ∈ s.2.1.map (·.1) → i ≤ j
theorem getD_snoc {K : List Int} {c : Int} {j : Nat} : (K ++ [c]).getD j 0 = if j = K.length then c else K.getD j 0 := by
  rw [List.getD_eq_getElem?_getD, List.getD_eq_getElem?_getD]
  by_cases h : j < K.length
  · rw [List.getElem?_append_left h, if_neg (by omega)]
  · rw [List.getElem?_append_right (by omega)]
    by_cases e : j = K.length
    · subst e; simp
    · rw [if_neg e, List.getElem?_eq_none (by simp; omega), List.getElem?_eq_none (by omega)]
theorem leG_bef {TR : List Tray} {p q : Int × Nat} (hp : p.1 = endA TR p.2) (hq : q.1 = endA TR q.2) (h : Bef TR q.2 p.2) : leG p q = false := by
  unfold leG leR
  simp only [Bool.not_eq_false', decide_eq_true_eq]
  rw [List.cons_lt_cons_iff]
  rw [hp, hq]
  rcases h with h | ⟨h1, h2⟩
  · exact .inl h
  · refine .inr ⟨h1, ?_⟩
    rw [List.cons_lt_cons_iff]
    exact .inl (by omega)
theorem gx_wish {TR : List Tray} {WS : List Wish} {j : Nat} {w : Wish} {s : List Int × Ms3 × List Int} (hw : WS[j]? = some w) (hc : 0 ≤ w.c) (h : GX TR WS j s) : GX TR WS (j + 1) (wishStep TR s (w, j)) := by
  have T := tk_all (j := j) (goodG TR w.k w.d) (s.1, s.2.1, w.c) good_sorted (fun p hp => by
    obtain ⟨t, ht, _⟩ := mem_good.mp hp
    show p.2 < s.1.length
    rw [h.ll]; exact (List.getElem?_eq_some_iff.mp ht).1) h.nl hc
  obtain ⟨L, M, K⟩ := s
  show GX TR WS (j + 1) (((goodG TR w.k w.d).foldl (takeStep j) (L, M, w.c)).1, ((goodG TR w.k w.d).foldl (takeStep j) (L, M, w.c)).2.1, K ++ [((goodG TR w.k w.d).foldl (takeStep j) (L, M, w.c)).2.2])
  generalize (goodG TR w.k w.d).foldl (takeStep j) (L, M, w.c) = r at T
  obtain ⟨L', M', c'⟩ := r
  have hkl : K.length = j := h.kl
  have good_of : ∀ b, AdjW TR WS j b → ∃ p ∈ goodG TR w.k w.d, p.2 = b ∧ p.1 = endA TR b := fun b ⟨t, u, ht, hu, hh⟩ => by
    rw [hw] at hu
    cases hu
    refine ⟨(t.b + t.s, b), mem_good.mpr ⟨t, ht, hh, rfl⟩, rfl, ?_⟩
    unfold endA; rw [ht]
  have endp : ∀ p ∈ goodG TR w.k w.d, p.1 = endA TR p.2 := fun p hp => by
    obtain ⟨t, ht, _, e⟩ := mem_good.mp hp
    unfold endA; rw [ht]; exact e
  have newk : ∀ q ∈ M'.map (·.1), q ∈ M.map (·.1) ∨ (q.2 = j ∧ 0 < L.getD q.1 0) := fun q hq => by
    rcases T.ks q hq with z | ⟨z, _, _, _, _, z2, _⟩
    · exact .inl z
    · exact .inr ⟨z, z2⟩
  have zero : ∀ a, L.getD a 0 = 0 → L'.getD a 0 = 0 := fun a ha => by
    have h1 : L'.getD a 0 ≤ L.getD a 0 := T.le a
    have h2 : 0 ≤ L'.getD a 0 := T.nn.1 a
    omega
  refine ⟨T.ln.trans h.ll, ?_, fun q hq => ?_, fun a t ht => ?_, fun i u hi hu => ?_, fun i hi => ?_, T.nn.1, fun i => ?_, fun i hi a ha => ?_, fun a i hk b hb hbef => ?_⟩
  · show (K ++ [c']).length = j + 1
    rw [List.length_append, hkl]; rfl
  · rcases newk q hq with z | ⟨z, _⟩
    · exact Nat.lt_succ_of_lt (h.lt q z)
    · omega
  · exact (T.rs a).trans (h.rs a t ht)
  · show (K ++ [c']).getD i 0 + colSum M' i = u.c
    rw [getD_snoc, hkl]
    by_cases e : i = j
    · subst e
      rw [if_pos rfl]
      rw [hw] at hu; cases hu
      have h1 : c' + colSum M' i = w.c + colSum M i := T.cs
      have h2 : colSum M i = 0 := h.cz i (Nat.le_refl _)
      omega
    · rw [if_neg e]
      have h1 : colSum M' i = colSum M i := T.co i e
      rw [h1]
      exact h.cs i u (by omega) hu
  · have h1 : colSum M' i = colSum M i := T.co i (by omega)
    show colSum M' i = 0
    rw [h1]; exact h.cz i (by omega)
  · show 0 ≤ (K ++ [c']).getD i 0
    rw [getD_snoc]
    split
    · exact T.nn.2
    · exact h.nk i
  · have hi : 0 < (K ++ [c']).getD i 0 := hi
    show L'.getD a 0 = 0 ∧ ∀ i', (a, i') ∈ M'.map (·.1) → i' ≤ i
    rw [getD_snoc, hkl] at hi
    by_cases e : i = j
    · subst e
      rw [if_pos rfl] at hi
      obtain ⟨p, hp, e1, _⟩ := good_of a ha
      refine ⟨e1 ▸ T.ex hi p hp, fun i' hi' => ?_⟩
      rcases newk _ hi' with z | ⟨z, _⟩
      · exact Nat.le_of_lt (h.lt _ z)
      · exact Nat.le_of_eq z
    · rw [if_neg e] at hi
      obtain ⟨z1, z2⟩ := h.sh i hi a ha
      refine ⟨zero a z1, fun i' hi' => ?_⟩
      rcases newk _ hi' with z | ⟨_, z⟩
      · exact z2 i' z
      · have z1 : L.getD a 0 = 0 := z1
        have z : 0 < L.getD a 0 := z
        omega
  · show L'.getD b 0 = 0 ∧ ∀ i', (b, i') ∈ M'.map (·.1) → i' ≤ i
    rcases T.ks _ hk with z | ⟨z, _, p, hp, e1, _, z3⟩
    · obtain ⟨z1, z2⟩ := h.od a i z b hb hbef
      refine ⟨zero b z1, fun i' hi' => ?_⟩
      rcases newk _ hi' with z | ⟨_, z⟩
      · exact z2 i' z
      · have z1 : L.getD b 0 = 0 := z1
        have z : 0 < L.getD b 0 := z
        omega
    · have z : i = j := z
      subst z
      obtain ⟨p', hp', e1', _⟩ := good_of b hb
      have e1 : p.2 = a := e1
      have := z3 p' hp' (leG_bef (TR := TR) (endp p hp) (endp p' hp') (by rw [e1', e1]; exact hbef))
      refine ⟨e1' ▸ this, fun i' hi' => ?_⟩
      rcases newk _ hi' with z | ⟨z, _⟩
      · exact Nat.le_of_lt (h.lt _ z)
      · exact Nat.le_of_eq z
theorem given_gx {TR : List Tray} {WS : List Wish} (hT : ∀ t ∈ TR, t.Ok) (hW : ∀ w ∈ WS, w.Ok) : GX TR WS WS.length (given TR WS) := by
  unfold given
  refine fold_zip (wishStep TR) (GX TR WS) WS (fun j w s hw h => gx_wish hw ?_ h) WS 0 (TR.map Tray.c, [], []) (fun j => by rw [Nat.zero_add]) rfl ⟨by rw [List.length_map], rfl, fun q h => absurd h List.not_mem_nil, fun a t ht => ?_, fun j w hj => absurd hj (Nat.not_lt_zero _), fun j _ => rfl, fun a => ?_, fun j => by simp, fun j hj => by simp at hj, fun a j h => absurd h List.not_mem_nil⟩
  · have := (hW w (List.mem_of_getElem? hw)).2.2.2.2.1; omega
  · show (TR.map Tray.c).getD a 0 + 0 = t.c
    rw [List.getD_eq_getElem?_getD, List.getElem?_map, ht]; simp
  · show 0 ≤ (TR.map Tray.c).getD a 0
    rw [List.getD_eq_getElem?_getD, List.getElem?_map]
    cases e : TR[a]? with
    | none => simp
    | some t => have := (hT t (List.mem_of_getElem? e)).2.2.2.2.2.2.1; simp; omega
end Dl
set_option Elab.async false
set_option linter.all false
set_option maxRecDepth 100000
namespace Dl
open PySem PySem.Spec PyProof.Rows L2
/-! ### sums over numbers -/
def sumR (n : Nat) (f : Nat → Int) : Int := ((List.range n).map f).sum
theorem sumR_succ {n : Nat} {f : Nat → Int} : sumR (n + 1) f = sumR n f + f n := by simp [sumR, List.range_succ]
theorem sumR_congr {n : Nat} {f g : Nat → Int} (h : ∀ j, j < n → f j = g j) : sumR n f = sumR n g := by
  unfold sumR
  congr 1
  exact List.map_congr_left fun j hj => h j (List.mem_range.mp hj)
theorem sumR_add {n : Nat} {f g : Nat → Int} : sumR n (fun j => f j + g j) = sumR n f + sumR n g := by
  induction n with
  | zero => rfl
  | succ n ih => rw [sumR_succ, sumR_succ, sumR_succ, ih]; omega
theorem sumR_le {n : Nat} {f g : Nat → Int} (h : ∀ j, j < n → f j ≤ g j) : sumR n f ≤ sumR n g := by
  induction n with
  | zero => exact Int.le_refl _
  | succ n ih =>
    rw [sumR_succ, sumR_succ]
    have := ih fun j hj => h j (by omega)
    have := h n (by omega)
    omega
theorem sumR_zero {n : Nat} : sumR n (fun _ => 0) = 0 := by
  induction n with
  | zero => rfl
  | succ n ih => rw [sumR_succ, ih]; rfl
theorem sumR_one {n a : Nat} {x : Int} {S : Nat → Bool} (h : a < n) : sumR n (fun j => if S j = true then (if a = j then x else 0) else 0) = if S a = true then x else 0 := by
  induction n with
  | zero => omega
  | succ n ih =>
    rw [sumR_succ]
    by_cases e : a = n
    · subst e
      have : sumR a (fun j => if S j = true then (if a = j then x else 0) else 0) = sumR a (fun _ => 0) := sumR_congr fun j hj => by
        rw [if_neg (show ¬ a = j by omega)]; split <;> rfl
      rw [this, sumR_zero]; simp
    · rw [ih (by omega), if_neg e]; simp
theorem col_total {S : Nat → Bool} {n : Nat} : ∀ {M : Ms3}, (∀ p ∈ M, p.1.2 < n) → sumR n (fun j => if S j = true then colSum M j else 0) = (M.map fun p => if S p.1.2 = true then p.2 else 0).sum
  | [], _ => by
    refine (sumR_congr (g := fun _ => 0) fun j _ => ?_).trans sumR_zero
    split <;> rfl
  | p :: M, h => by
    rw [List.map_cons, List.sum_cons, ← col_total fun q hq => h q (List.mem_cons_of_mem _ hq), ← sumR_one (S := S) (x := p.2) (h p (by simp)), ← sumR_add]
    refine sumR_congr fun j _ => ?_
    unfold colSum
    rw [List.map_cons, List.sum_cons]
    split <;> omega
theorem row_total {S : Nat → Bool} {n : Nat} : ∀ {M : Ms3}, (∀ p ∈ M, p.1.1 < n) → sumR n (fun j => if S j = true then rowSum M j else 0) = (M.map fun p => if S p.1.1 = true then p.2 else 0).sum
  | [], _ => by
    refine (sumR_congr (g := fun _ => 0) fun j _ => ?_).trans sumR_zero
    split <;> rfl
  | p :: M, h => by
    rw [List.map_cons, List.sum_cons, ← row_total fun q hq => h q (List.mem_cons_of_mem _ hq), ← sumR_one (S := S) (x := p.2) (h p (by simp)), ← sumR_add]
    refine sumR_congr fun j _ => ?_
    unfold rowSum
    rw [List.map_cons, List.sum_cons]
    split <;> omega
def total (M : Ms3) : Int := (M.map (·.2)).sum
theorem col_all {M : Ms3} {n : Nat} (h : ∀ p ∈ M, p.1.2 < n) : sumR n (colSum M) = total M := by
  have := col_total (S := fun _ => true) h
  simpa [total] using this
/-! ### what can be reached from a wish that is short -/
def cW (WS : List Wish) (j : Nat) : Int := match WS[j]? with
  | some w => w.c
  | none => 0
def cT (TR : List Tray) (a : Nat) : Int := match TR[a]? with
  | some t => t.c
  | none => 0
structure Flow (TR : List Tray) (WS : List Wish) (L : List Int) (M : Ms3) (K : List Int) : Prop where
  gi : GI TR WS WS.length (L, M, K)
  gx : GX TR WS WS.length (L, M, K)
  od : ∀ (i j : Nat) (u v : Wish), WS[i]? = some u → WS[j]? = some v → i < j → u.k = v.k → u.d < v.d
theorem hasB_iff {t : Tray} {k d : Int} : hasB t k d = true ↔ t.k = k ∧ t.b ≤ d ∧ d ≤ t.b + t.s := by
  unfold hasB
  simp only [Bool.and_eq_true, beq_iff_eq, Bool.not_eq_true', decide_eq_false_iff_not, Int.not_lt]
section
variable {TR : List Tray} {WS : List Wish} {L K : List Int} {M : Ms3} {s : Nat} {w : Wish}
inductive Dn (TR : List Tray) (WS : List Wish) (ks : List (Nat × Nat)) (k : Int) (s : Nat) : Nat → Prop
  | start : Dn TR WS ks k s s
  | step {j a n : Nat} : Dn TR WS ks k s j → n < j → Adj TR k (dayN WS j) a → (a, n) ∈ ks → Dn TR WS ks k s n
theorem Flow.key (f : Flow TR WS L M K) {a j : Nat} (h : (a, j) ∈ M.map (·.1)) : ∃ t u, TR[a]? = some t ∧ WS[j]? = some u ∧ hasB t u.k u.d = true := by
  obtain ⟨p, hp, e⟩ := List.mem_map.mp h
  obtain ⟨_, _, t, u, h1, h2, h3⟩ := f.gi.rw p hp
  rw [e] at h1 h2
  exact ⟨t, u, h1, h2, h3⟩
/-- of the kind, and there -/
theorem dn_kind (f : Flow TR WS L M K) (hs : WS[s]? = some w) {n : Nat} (h : Dn TR WS (M.map (·.1)) w.k s n) : ∃ u, WS[n]? = some u ∧ u.k = w.k := by
  cases h with
  | start => exact ⟨w, hs, rfl⟩
  | step h1 h2 h3 h4 =>
    obtain ⟨t, ht, hh⟩ := h3
    obtain ⟨t', u, ht', hu, hh'⟩ := f.key h4
    rw [ht] at ht'; cases ht'
    exact ⟨u, hu, (hasB_iff.mp hh').1.symm.trans (hasB_iff.mp hh).1⟩
theorem day_of {n : Nat} {u : Wish} (h : WS[n]? = some u) : dayN WS n = u.d := by unfold dayN; rw [h]
theorem adj_adjW {n a : Nat} {u : Wish} (h : WS[n]? = some u) : Adj TR u.k (dayN WS n) a ↔ AdjW TR WS n a := by
  rw [day_of h]
  constructor
  · rintro ⟨t, ht, hh⟩; exact ⟨t, u, ht, h, hh⟩
  · rintro ⟨t, v, ht, hv, hh⟩
    rw [h] at hv; cases hv
    exact ⟨t, ht, hh⟩
/-- what is not before is near the later wish, too -/
theorem near_up (f : Flow TR WS L M K) {j n a b : Nat} {u v : Wish} (hn : WS[n]? = some u) (hj : WS[j]? = some v) (hk : u.k = v.k) (hlt : n < j) (ha : AdjW TR WS j a) (hb : AdjW TR WS n b) (hnb : ¬ Bef TR b a) : AdjW TR WS j b := by
  obtain ⟨t, v', ht, hv', hh⟩ := ha
  obtain ⟨t2, u', ht2, hu', hh2⟩ := hb
  rw [hj] at hv'; cases hv'
  rw [hn] at hu'; cases hu'
  have h1 := hasB_iff.mp hh
  have h2 := hasB_iff.mp hh2
  have h3 := f.od n j u v hn hj hlt hk
  have e1 : endA TR a = t.b + t.s := by unfold endA; rw [ht]
  have e2 : endA TR b = t2.b + t2.s := by unfold endA; rw [ht2]
  have h4 : ¬ endA TR b < endA TR a := fun z => hnb (.inl z)
  refine ⟨t2, v, ht2, hj, hasB_iff.mpr ⟨h2.1.trans hk, by omega, by omega⟩⟩
theorem dn_next (f : Flow TR WS L M K) (hs : WS[s]? = some w) (h0 : 0 < K.getD s 0) {j : Nat} (h : Dn TR WS (M.map (·.1)) w.k s j) : ∀ {b n : Nat}, Adj TR w.k (dayN WS j) b → (b, n) ∈ M.map (·.1) → Dn TR WS (M.map (·.1)) w.k s n := by
  induction h with
  | start =>
    intro b n hb hk
    have h1 := (f.gx.sh s h0 b ((adj_adjW hs).mp hb)).2 n hk
    rcases Nat.lt_or_eq_of_le h1 with z | rfl
    · exact .step .start z hb hk
    · exact .start
  | @step j a n' h1 h2 h3 h4 ih =>
    intro b n hb hk
    have hd := Dn.step h1 h2 h3 h4
    obtain ⟨u, hu, ku⟩ := dn_kind f hs hd
    obtain ⟨v, hv, kv⟩ := dn_kind f hs h1
    rcases Nat.lt_trichotomy n n' with z | rfl | z
    · exact .step hd z hb hk
    · exact hd
    · rw [← ku] at hb
      have hb' := (adj_adjW hu).mp hb
      have hnb : ¬ Bef TR b a := fun q => by
        have := (f.gx.od a n' h4 b hb' q).2 n hk
        omega
      rw [← kv] at h3
      have := near_up f hu hv (ku.trans kv.symm) h2 ((adj_adjW hv).mp h3) hb' hnb
      refine ih ?_ hk
      rw [← kv]
      exact (adj_adjW hv).mpr this
theorem rch_dn (f : Flow TR WS L M K) (hs : WS[s]? = some w) (h0 : 0 < K.getD s 0) {n : Nat} (h : Rch TR WS (M.map (·.1)) w.k s n) : Dn TR WS (M.map (·.1)) w.k s n := by
  induction h with
  | start => exact .start
  | step _ h2 h3 ih => exact dn_next f hs h0 ih h2 h3
theorem dn_empty (f : Flow TR WS L M K) (hs : WS[s]? = some w) (h0 : 0 < K.getD s 0) {n : Nat} (h : Dn TR WS (M.map (·.1)) w.k s n) : ∀ {b : Nat}, AdjW TR WS n b → L.getD b 0 = 0 := by
  induction h with
  | start => intro b hb; exact (f.gx.sh s h0 b hb).1
  | @step j a n h1 h2 h3 h4 ih =>
    intro b hb
    obtain ⟨u, hu, ku⟩ := dn_kind f hs (.step h1 h2 h3 h4)
    obtain ⟨v, hv, kv⟩ := dn_kind f hs h1
    by_cases hbf : Bef TR b a
    · exact (f.gx.od a n h4 b hb hbf).1
    · rw [← kv] at h3
      exact ih (near_up f hu hv (ku.trans kv.symm) h2 ((adj_adjW hv).mp h3) hb hbf)
/-- a set of wishes that is closed, and whose trays are empty -/
structure Cl (TR : List Tray) (WS : List Wish) (L : List Int) (M : Ms3) (S N : Nat → Bool) : Prop where
  n : ∀ a, N a = true ↔ ∃ j, S j = true ∧ AdjW TR WS j a
  em : ∀ j a, S j = true → AdjW TR WS j a → L.getD a 0 = 0
  cl : ∀ j a i, S j = true → AdjW TR WS j a → (a, i) ∈ M.map (·.1) → S i = true
theorem Flow.lt1 (f : Flow TR WS L M K) : ∀ p ∈ M, p.1.1 < TR.length := fun p hp => by
  obtain ⟨t, u, h1, _, _⟩ := f.key (List.mem_map_of_mem (f := (·.1)) hp)
  exact (List.getElem?_eq_some_iff.mp h1).1
theorem Flow.lt2 (f : Flow TR WS L M K) : ∀ p ∈ M, p.1.2 < WS.length := fun p hp => f.gx.lt _ (List.mem_map_of_mem (f := (·.1)) hp)
theorem Flow.adj (f : Flow TR WS L M K) {p : (Nat × Nat) × Int} (hp : p ∈ M) : AdjW TR WS p.1.2 p.1.1 := by
  obtain ⟨t, u, h1, h2, h3⟩ := f.key (List.mem_map_of_mem (f := (·.1)) hp)
  exact ⟨t, u, h1, h2, h3⟩
theorem Flow.col (f : Flow TR WS L M K) {j : Nat} (hj : j < WS.length) : K.getD j 0 + colSum M j = cW WS j := by
  obtain ⟨w, hw⟩ : ∃ w, WS[j]? = some w := ⟨_, List.getElem?_eq_getElem hj⟩
  have := f.gx.cs j w hj hw
  unfold cW; rw [hw]; exact this
theorem Flow.row (f : Flow TR WS L M K) {a : Nat} (ha : a < TR.length) : L.getD a 0 + rowSum M a = cT TR a := by
  obtain ⟨t, ht⟩ : ∃ t, TR[a]? = some t := ⟨_, List.getElem?_eq_getElem ha⟩
  have := f.gx.rs a t ht
  unfold cT; rw [ht]; exact this
/-- what a closed set has, is all of its trays -/
theorem cl_sum (f : Flow TR WS L M K) {S N : Nat → Bool} (c : Cl TR WS L M S N) : sumR WS.length (fun j => if S j = true then colSum M j else 0) = sumR TR.length (fun a => if N a = true then cT TR a else 0) := by
  rw [col_total f.lt2]
  have e : (M.map fun p => if S p.1.2 = true then p.2 else 0) = M.map fun p => if N p.1.1 = true then p.2 else 0 := List.map_congr_left fun p hp => by
    have ha := f.adj hp
    cases hS : S p.1.2 with
    | true => rw [if_pos rfl, if_pos ((c.n _).mpr ⟨_, hS, ha⟩)]
    | false =>
      rw [if_neg (by decide), if_neg]
      intro hN
      obtain ⟨j, hj, hja⟩ := (c.n _).mp hN
      have := c.cl j _ p.1.2 hj hja (List.mem_map_of_mem (f := (·.1)) hp)
      rw [hS] at this; cases this
  rw [e, ← row_total f.lt1]
  refine sumR_congr fun a ha => ?_
  cases hN : N a with
  | false => rfl
  | true =>
    rw [if_pos rfl, if_pos rfl]
    obtain ⟨j, hj, hja⟩ := (c.n _).mp hN
    have h1 := c.em j a hj hja
    have h2 := f.row ha
    omega
/-- no flow is more than a cut -/
theorem cut_ge (f : Flow TR WS L M K) {S N : Nat → Bool} (hN : ∀ j a, S j = true → AdjW TR WS j a → N a = true) : total M ≤ sumR WS.length (fun j => if S j = true then 0 else cW WS j) + sumR TR.length (fun a => if N a = true then cT TR a else 0) := by
  have h1 : total M = sumR WS.length (fun j => if S j = true then 0 else colSum M j) + sumR WS.length (fun j => if S j = true then colSum M j else 0) := by
    rw [← col_all f.lt2, ← sumR_add]
    exact sumR_congr fun j _ => by split <;> omega
  have h2 : sumR WS.length (fun j => if S j = true then 0 else colSum M j) ≤ sumR WS.length (fun j => if S j = true then 0 else cW WS j) := sumR_le fun j hj => by
    split
    · exact Int.le_refl _
    · have := f.col hj; have := f.gx.nk j; simp only at this; omega
  have h3 : (M.map fun p => if S p.1.2 = true then p.2 else 0).sum ≤ (M.map fun p => if N p.1.1 = true then p.2 else 0).sum := by
    have : ∀ X : Ms3, (∀ p ∈ X, p ∈ M) → (X.map fun p => if S p.1.2 = true then p.2 else 0).sum ≤ (X.map fun p => if N p.1.1 = true then p.2 else 0).sum := fun X => by
      induction X with
      | nil => intro _; exact Int.le_refl _
      | cons p X ih =>
        intro hX
        have h := ih fun q hq => hX q (List.mem_cons_of_mem _ hq)
        rw [List.map_cons, List.map_cons, List.sum_cons, List.sum_cons]
        have hp := hX p (by simp)
        have pos := (f.gi.rw p hp).2.1
        cases hS : S p.1.2 with
        | true => rw [if_pos rfl, if_pos (hN _ _ hS (f.adj hp))]; omega
        | false =>
          rw [if_neg (by decide)]
          split <;> omega
    exact this M fun _ h => h
  have h4 : sumR TR.length (fun a => if N a = true then rowSum M a else 0) ≤ sumR TR.length (fun a => if N a = true then cT TR a else 0) := sumR_le fun a ha => by
    split
    · have := f.row ha; have := f.gx.nl a; simp only at this; omega
    · exact Int.le_refl _
  rw [← row_total f.lt1, ← col_total f.lt2] at h3
  omega
theorem cut_eq (f : Flow TR WS L M K) {S N : Nat → Bool} (c : Cl TR WS L M S N) (h : ∀ j, j < WS.length → S j = false → K.getD j 0 = 0) : total M = sumR WS.length (fun j => if S j = true then 0 else cW WS j) + sumR TR.length (fun a => if N a = true then cT TR a else 0) := by
  rw [← cl_sum f c, ← sumR_add, ← col_all f.lt2]
  refine sumR_congr fun j hj => ?_
  cases hS : S j with
  | true => simp
  | false =>
    have h1 := h j hj hS
    have h2 := f.col hj
    simp; omega
/-- wished by a closed set with a short one is more than there is -/
theorem cl_more (f : Flow TR WS L M K) {S N : Nat → Bool} (c : Cl TR WS L M S N) (hs : s < WS.length) (hS : S s = true) (h0 : 0 < K.getD s 0) : sumR TR.length (fun a => if N a = true then cT TR a else 0) < sumR WS.length (fun j => if S j = true then cW WS j else 0) := by
  rw [← cl_sum f c]
  have h1 : sumR WS.length (fun j => if S j = true then cW WS j else 0) = sumR WS.length (fun j => if S j = true then colSum M j else 0) + sumR WS.length (fun j => if S j = true then K.getD j 0 else 0) := by
    rw [← sumR_add]
    exact sumR_congr fun j hj => by have := f.col hj; split <;> omega
  have h2 : sumR WS.length (fun j => if S j = true then (if s = j then K.getD s 0 else 0) else 0) ≤ sumR WS.length (fun j => if S j = true then K.getD j 0 else 0) := sumR_le fun j hj => by
    split
    · have h3 := f.gx.nk j
      simp only at h3
      split
      · rename_i e; subst e; exact Int.le_refl _
      · exact h3
    · exact Int.le_refl _
  rw [sumR_one hs, if_pos hS] at h2
  omega
end
end Dl
set_option Elab.async false
set_option linter.all false
set_option maxRecDepth 100000
namespace Dl
open PySem PySem.Spec PyProof.Rows L2
theorem flow_of {TR : List Tray} {WS : List Wish} (h2 : wsB (wsD WS) = true) (hT : ∀ t ∈ TR, t.Ok) (hW : ∀ w ∈ WS, w.Ok) : Flow TR WS (given TR WS).1 (given TR WS).2.1 (given TR WS).2.2 := by
  refine ⟨given_gi TR WS, given_gx hT hW, fun i j u v hu hv hlt hk => ?_⟩
  rw [wsD_eq] at h2
  have a := ascR_iff.mp (wsB_1 h2).2
  rw [List.pairwise_map, List.pairwise_map] at a
  have hi := List.getElem?_eq_some_iff.mp hu
  have hj := List.getElem?_eq_some_iff.mp hv
  obtain ⟨hi, ei⟩ := hi
  obtain ⟨hj, ej⟩ := hj
  have := List.pairwise_iff_getElem.mp a i j hi hj hlt
  rw [ei, ej] at this
  have z : [u.k, u.d] < [v.k, v.d] := this
  rw [List.cons_lt_cons_iff] at z
  rcases z with z | ⟨_, z⟩
  · omega
  · rw [List.cons_lt_cons_iff] at z
    rcases z with z | ⟨_, z⟩
    · exact z
    · exact absurd z (by simp)
section
variable {TR : List Tray} {WS : List Wish} {L K : List Int} {M : Ms3} {s : Nat} {w : Wish}
open Classical in
noncomputable def nearB (TR : List Tray) (WS : List Wish) (S : Nat → Bool) (a : Nat) : Bool := decide (∃ j, S j = true ∧ AdjW TR WS j a)
open Classical in
theorem nearB_iff {S : Nat → Bool} {a : Nat} : nearB TR WS S a = true ↔ ∃ j, S j = true ∧ AdjW TR WS j a := by
  unfold nearB; exact decide_eq_true_iff
/-- all that is reached from one short wish -/
theorem cl_reach (f : Flow TR WS L M K) (hs : WS[s]? = some w) (h0 : 0 < K.getD s 0) {F : List Nat} (hF : ∀ x, x ∈ F ↔ Rch TR WS (M.map (·.1)) w.k s x) : Cl TR WS L M (fun j => decide (j ∈ F)) (nearB TR WS fun j => decide (j ∈ F)) where
  n := fun a => nearB_iff
  em := fun j a hj ha => dn_empty f hs h0 (rch_dn f hs h0 ((hF j).mp (of_decide_eq_true hj))) ha
  cl := fun j a i hj ha hk => by
    have hj := (hF j).mp (of_decide_eq_true hj)
    obtain ⟨u, hu, ku⟩ := dn_kind f hs (rch_dn f hs h0 hj)
    refine decide_eq_true ((hF i).mpr (.step hj ?_ hk))
    rw [← ku]
    exact (adj_adjW hu).mpr ha
open Classical in
noncomputable def shortB (TR : List Tray) (WS : List Wish) (M : Ms3) (K : List Int) (j : Nat) : Bool := decide (∃ s w, WS[s]? = some w ∧ 0 < K.getD s 0 ∧ Rch TR WS (M.map (·.1)) w.k s j)
open Classical in
theorem shortB_iff {j : Nat} : shortB TR WS M K j = true ↔ ∃ s w, WS[s]? = some w ∧ 0 < K.getD s 0 ∧ Rch TR WS (M.map (·.1)) w.k s j := by
  unfold shortB; exact decide_eq_true_iff
theorem cl_shorts (f : Flow TR WS L M K) : Cl TR WS L M (shortB TR WS M K) (nearB TR WS (shortB TR WS M K)) where
  n := fun a => nearB_iff
  em := fun j a hj ha => by
    obtain ⟨s, w, hs, h0, hr⟩ := shortB_iff.mp hj
    exact dn_empty f hs h0 (rch_dn f hs h0 hr) ha
  cl := fun j a i hj ha hk => by
    obtain ⟨s, w, hs, h0, hr⟩ := shortB_iff.mp hj
    obtain ⟨u, hu, ku⟩ := dn_kind f hs (rch_dn f hs h0 hr)
    refine shortB_iff.mpr ⟨s, w, hs, h0, .step hr ?_ hk⟩
    rw [← ku]
    exact (adj_adjW hu).mpr ha
theorem most_eq (f : Flow TR WS L M K) : total M = sumR WS.length (fun j => if shortB TR WS M K j = true then 0 else cW WS j) + sumR TR.length (fun a => if nearB TR WS (shortB TR WS M K) a = true then cT TR a else 0) := by
  refine cut_eq f (cl_shorts f) fun j hj hS => ?_
  have h1 := f.gx.nk j
  simp only at h1
  rcases Int.lt_or_le 0 (K.getD j 0) with z | z
  · exfalso
    have : shortB TR WS M K j = true := shortB_iff.mpr ⟨j, _, List.getElem?_eq_getElem hj, z, .start⟩
    rw [hS] at this; cases this
  · omega
theorem most_le (f : Flow TR WS L M K) (S : Nat → Bool) : total M ≤ sumR WS.length (fun j => if S j = true then 0 else cW WS j) + sumR TR.length (fun a => if nearB TR WS S a = true then cT TR a else 0) :=
  cut_ge f fun j a hj ha => nearB_iff.mpr ⟨j, hj, ha⟩
/-- all is met just if as many are given out as are wished -/
theorem met_iff (f : Flow TR WS L M K) : shortN K = [] ↔ total M = sumR WS.length (cW WS) := by
  have hk : K.length = WS.length := f.gx.kl
  have e : sumR WS.length (cW WS) = total M + sumR WS.length (fun j => K.getD j 0) := by
    rw [← col_all f.lt2, ← sumR_add]
    exact sumR_congr fun j hj => by have := f.col hj; omega
  have mem : ∀ j, j ∈ shortN K ↔ 0 < K.getD j 0 := fun j => by
    unfold shortN
    rw [List.mem_map]
    constructor
    · rintro ⟨p, hp, rfl⟩
      rw [List.mem_filter] at hp
      have h1 := List.mem_zipIdx_iff_getElem?.mp hp.1
      rw [List.getD_eq_getElem?_getD, h1]
      exact of_decide_eq_true hp.2
    · intro h
      rw [List.getD_eq_getElem?_getD] at h
      cases e : K[j]? with
      | none => rw [e] at h; simp at h
      | some c =>
        rw [e] at h
        exact ⟨(c, j), List.mem_filter.mpr ⟨List.mem_zipIdx_iff_getElem?.mpr e, decide_eq_true h⟩, rfl⟩
  constructor
  · intro h
    rw [e]
    have : sumR WS.length (fun j => K.getD j 0) = sumR WS.length (fun _ => 0) := sumR_congr fun j hj => by
      have h1 := f.gx.nk j
      simp only at h1
      rcases Int.lt_or_le 0 (K.getD j 0) with z | z
      · rw [← mem, h] at z; cases z
      · omega
    rw [this, sumR_zero]; omega
  · intro h
    rw [List.eq_nil_iff_forall_not_mem]
    intro j hj
    have h0 := (mem j).mp hj
    have hlt : j < WS.length := by
      rcases Nat.lt_or_ge j K.length with z | z
      · omega
      · rw [List.getD_eq_getElem?_getD, List.getElem?_eq_none z] at h0; simp at h0
    have h2 : sumR WS.length (fun i => if (fun _ => true) i = true then (if j = i then K.getD j 0 else 0) else 0) ≤ sumR WS.length (fun j => K.getD j 0) := sumR_le fun i hi => by
      have h3 := f.gx.nk i
      simp only at h3
      rw [if_pos rfl]
      split
      · rename_i e; subst e; exact Int.le_refl _
      · exact h3
    rw [sumR_one (S := fun _ => true) hlt, if_pos rfl] at h2
    omega
theorem mem_short {K : List Int} {j : Nat} {r : List Nat} (h : shortN K = j :: r) : 0 < K.getD j 0 := by
  have hj : j ∈ shortN K := by rw [h]; simp
  unfold shortN at hj
  obtain ⟨p, hp, rfl⟩ := List.mem_map.mp hj
  rw [List.mem_filter] at hp
  have h1 := List.mem_zipIdx_iff_getElem?.mp hp.1
  rw [List.getD_eq_getElem?_getD, h1]
  exact of_decide_eq_true hp.2
end
/-! ### sums over lists and over numbers -/
theorem sumR_shift {n : Nat} {f : Nat → Int} : sumR (n + 1) f = f 0 + sumR n fun i => f (i + 1) := by
  induction n with
  | zero => simp [sumR]
  | succ n ih => rw [sumR_succ, ih, sumR_succ]; omega
theorem sum_idx {α : Type} {f : α → Int} : ∀ {xs : List α} {g : Nat → Int}, (∀ i x, xs[i]? = some x → g i = f x) → (xs.map f).sum = sumR xs.length g
  | [], _, _ => rfl
  | x :: xs, g, h => by
    rw [List.map_cons, List.sum_cons, List.length_cons, sumR_shift, h 0 x rfl, sum_idx (g := fun i => g (i + 1)) fun i y hy => h (i + 1) y hy]
theorem sum_filter {α : Type} {p : α → Bool} {f : α → Int} : ∀ {xs : List α}, ((xs.filter p).map f).sum = (xs.map fun x => if p x = true then f x else 0).sum
  | [] => rfl
  | x :: xs => by
    rw [List.map_cons, List.sum_cons, ← sum_filter]
    cases h : p x with
    | true => rw [List.filter_cons_of_pos h, List.map_cons, List.sum_cons, if_pos rfl]
    | false => rw [List.filter_cons_of_neg (by simp [h]), if_neg (by simp)]; omega
end Dl
set_option Elab.async false
set_option linter.all false
set_option maxRecDepth 100000
namespace Dl
open PySem PySem.Spec PyProof.Rows L2
/-! ### the draws -/
theorem nn_app {D : List Int} {d : Int} (h : nn D) (hd : 0 ≤ d) : nn (D ++ [d]) := fun x hx => by
  rcases List.mem_append.mp hx with h1 | h1
  · exact h x h1
  · rw [List.mem_singleton.mp h1]; exact hd
def dSt (o : Option W) (D : List Int) (s : Int) (c k n : Option W) : Ms := [o, some (.d (.int 60)), some (.l (D.map .int)), some (.d (.int s)), c, k, n]
theorem mapInt_app (D : List Int) (d : Int) : D.map PyData.int ++ [.int d] = (D ++ [d]).map .int := by simp
theorem fa0 {o : Option W} {D : List Int} {s n : Int} {c k : Option W} (hD : D.length < 16777216) : fb__law_draws_0 (dSt o D s c k (some (.d (.int n)))) = if 0 < n then .nx (dSt o (D ++ [n % 1009]) s c none (some (.d (.int (n / 1009))))) else .nx (dSt o D s c none (some (.d (.int n)))) := by
  unfold fb__law_draws_0 dSt
  by_cases h : 0 < n
  · simp [h, lAt, hD]
  · simp [h]
theorem inner {o : Option W} {s : Int} {c : Option W} {D : List Int} {n : Int} {k : Option W} (hD : nn D) (hl : D.length ≤ 5000) (hn : 0 ≤ n) : ∃ D' k' n', goFor (gSet 5) fb__law_draws_0 (rngL 0 60) (dSt o D s c k (some (.d (.int n)))) = .nx (dSt o D' s c k' n') ∧ nn D' ∧ D'.length ≤ D.length + 60 := by
  obtain ⟨m', e, D', k', n', rfl, h1, h2, h3⟩ := goFor_inv (s := gSet 5) (b := fb__law_draws_0) (fun i m => ∃ D' k' n', m = dSt o D' s c k' (some (.d (.int n'))) ∧ nn D' ∧ D'.length ≤ D.length + i ∧ 0 ≤ n') (rngL 0 60) 0 _ ⟨D, k, n, rfl, hD, Nat.le_refl _, hn⟩ fun i x m hx ⟨D', k', n', e, h1, h2, h3⟩ => by
    subst e
    have hi : i < 60 := by
      have := (List.getElem?_eq_some_iff.mp hx).1
      rwa [rngL_len] at this
    refine ⟨dSt o D' s c (some (.d x)) (some (.d (.int n'))), by simp [dSt], ?_⟩
    rw [fa0 (by omega)]
    by_cases h : 0 < n'
    · rw [if_pos h]
      exact ⟨_, rfl, _, _, _, rfl, nn_app h1 (by omega), by simp; omega, by omega⟩
    · rw [if_neg h]
      exact ⟨_, rfl, _, _, _, rfl, h1, by omega, h3⟩
  rw [rngL_len] at h2
  exact ⟨D', k', _, e, h1, by omega⟩
theorem pow1018 : powD (.int 10) (.int 18) = some (.d (.int 1000000000000000000)) := by
  show (if 0 ≤ (18 : Int) ∧ (18 : Int) ≤ 1000000 ∧ (10 : Int).natAbs < 2 ^ 64 then some (W.d (.int ((10 : Int) ^ (18 : Int).toNat))) else none) = _
  rw [if_pos (by decide)]
  rfl
theorem rng60 : rng1 [.int 60] = .ok (rngL 0 60) := rngN (n := 60) (by decide)
theorem fa1 {o : Option W} {D : List Int} {s z : Int} {k n : Option W} (hD : nn D) (hl : D.length ≤ 4000) (hs : 0 ≤ s) : ∃ D' s' o', fb__law_draws_1 (dSt o D s (some (.d (.int z))) k n) = .nx (dSt o' D' s' none none none) ∧ nn D' ∧ D'.length ≤ D.length + 60 ∧ 0 ≤ s' := by
  unfold fb__law_draws_1
  have ha : 0 ≤ (if z < 0 then -z else z) := by split <;> omega
  generalize hn : (if z < 0 then -z else z) = n0 at ha
  have m1 : smallI 48271 := by decide
  have m2 : smallI 16807 := by decide
  have hs' : 0 ≤ (s * 48271 + n0 + 11) % 2147483647 := Int.emod_nonneg _ (by decide)
  generalize hs1 : (s * 48271 + n0 + 11) % 2147483647 = s1 at hs'
  by_cases hb : n0 < 1000000000000000000
  · have hd : 0 ≤ (s1 * 16807 + 5) / 3 % 65521 := Int.emod_nonneg _ (by decide)
    refine ⟨D ++ [(s1 * 16807 + 5) / 3 % 65521], s1, o, ?_, nn_app hD hd, by simp, hs'⟩
    have hl' : D.length < 16777216 := by omega
    simp [dSt, hn, m1, m2, hs1, pow1018, hb, lAt, hl']
  · obtain ⟨D', k', n', e, h1, h2⟩ := inner (o := none) (s := s1) (c := none) (k := none) hD (by omega) ha
    refine ⟨D', s1, none, ?_, h1, h2, hs'⟩
    unfold dSt at e ⊢
    simp [hn, m1, m2, hs1, pow1018, hb, rng60, e]
theorem fa2 {o : Option W} {D : List Int} {s j : Int} {c n : Option W} (hl : D.length ≤ 6000) : fb__law_draws_2 (dSt o D s c (some (.d (.int j))) n) = if D.length < 60 then .nx (dSt o (D ++ [(s * 69621 + j + 1) % 2147483647 / 7 % 65521]) ((s * 69621 + j + 1) % 2147483647) c none n) else .nx (dSt o D s c none n) := by
  unfold fb__law_draws_2 dSt
  have m1 : smallI 69621 := by decide
  have hl' : D.length < 16777216 := by omega
  by_cases h : D.length < 60
  · have h' : (D.length : Int) < 60 := by omega
    simp [h, h', m1, lAt, hl']
  · have h' : ¬ (D.length : Int) < 60 := by omega
    simp [h, h']
theorem m_draws_ok (ns : List Int) (hns : ns.length ≤ 63) : ∃ D : List Int, m__law_draws [some (.r ns), some (.d (.int 60))] = .ok (.list (D.map .int)) ∧ D.length = 60 ∧ nn D := by
  have hcut : (cutL ns none (some 63)).length ≤ 63 := Nat.le_trans (cutlen _ _ _) hns
  obtain ⟨m1, l1, D1, s1, o1, rfl, a1, a2, a3⟩ := goFor_inv (s := gSet 4) (b := fb__law_draws_1) (fun i m => ∃ D' s' o', m = dSt o' D' s' none none none ∧ nn D' ∧ D'.length ≤ 60 * i ∧ 0 ≤ s') ((cutL ns none (some 63)).map .int) 0 (dSt (some (.r ns)) [] 7 none none none) ⟨[], 7, some (.r ns), rfl, fun _ h => absurd h List.not_mem_nil, Nat.le_refl _, by decide⟩ fun i x m hx ⟨D', s', o', e, h1, h2, h3⟩ => by
    subst e
    rw [List.getElem?_map] at hx
    obtain ⟨z, hz, rfl⟩ := Option.map_eq_some_iff.mp hx
    have hi := (List.getElem?_eq_some_iff.mp hz).1
    refine ⟨dSt o' D' s' (some (.d (.int z))) none none, by simp [dSt], ?_⟩
    obtain ⟨D2, s2, o2, e, q1, q2, q3⟩ := fa1 (o := o') (z := z) (k := none) (n := none) h1 (by omega) h3
    exact ⟨_, e, D2, s2, o2, rfl, q1, by omega, q3⟩
  rw [List.length_map] at a2
  obtain ⟨m2, l2, D2, s2, rfl, b1, b2, b3, b4⟩ := goFor_inv (s := gSet 5) (b := fb__law_draws_2) (fun i m => ∃ D' s', m = dSt none D' s' none none none ∧ nn D' ∧ D'.length ≤ 3780 + i ∧ 0 ≤ s' ∧ (60 ≤ D'.length ∨ i ≤ D'.length)) (rngL 0 60) 0 (dSt none D1 s1 none none none) ⟨D1, s1, rfl, a1, by omega, a3, .inr (Nat.zero_le _)⟩ fun i x m hx ⟨D', s', e, h1, h2, h3, h4⟩ => by
    subst e
    have hi : i < 60 := by
      have := (List.getElem?_eq_some_iff.mp hx).1
      rwa [rngL_len] at this
    obtain ⟨j, _, rfl⟩ := rngL_mem (List.mem_of_getElem? hx)
    refine ⟨dSt none D' s' none (some (.d (.int (j : Nat)))) none, by simp [dSt], ?_⟩
    rw [fa2 (by omega)]
    by_cases h : D'.length < 60
    · rw [if_pos h]
      exact ⟨_, rfl, _, _, rfl, nn_app h1 (Int.emod_nonneg _ (by decide)), by simp; omega, Int.emod_nonneg _ (by decide), .inr (by simp; omega)⟩
    · rw [if_neg h]
      exact ⟨_, rfl, _, _, rfl, h1, by omega, h3, .inl (by omega)⟩
  rw [rngL_len] at b2 b4
  refine ⟨D2.take 60, ?_, by rw [List.length_take]; omega, fun d hd => b1 d (List.mem_of_mem_take hd)⟩
  unfold m__law_draws b__law_draws
  have t60 : ∀ xs : List PyData, cutL xs none (some 60) = xs.take 60 := fun xs => takeN xs 60
  unfold dSt at l1 l2
  rw [List.map_nil] at l1
  simp [eScr, rAt, l1, l2, rng60, t60]
/-! ### what the law draws -/
theorem insC_len {B : Int} {x : List Int} : ∀ {R : List (List Int)}, (insC B x R).length ≤ R.length + 1
  | [] => by simp [insC]
  | y :: r => by
    unfold insC
    split
    · exact Nat.le_succ _
    · split
      · exact Nat.le_refl _
      · rw [List.length_cons, List.length_cons]; have := insC_len (B := B) (x := x) (R := r); omega
theorem ssort_len {B : Int} : ∀ {R : List (List Int)}, (ssort B R).length ≤ R.length
  | [] => Nat.le_refl _
  | y :: r => by
    show (insC B y (ssort B r)).length ≤ _
    have h1 := insC_len (B := B) (x := y) (R := ssort B r)
    have h2 := ssort_len (B := B) (R := r)
    rw [List.length_cons]; omega
theorem ssort_asc {d : Nat} {R : List (List Int)} (h : AllR ssetB d R) : ascR (ssort ssetB R) = true := by
  have h' : AllR ssetB d (ssort ssetB R) := fun r hr => h r (ssort_mem.mp hr)
  have inj : ∀ x ∈ R, ∀ y ∈ R, TS.code ssetB x = TS.code ssetB y → x = y := fun x hx y hy e => code_inj (by decide) (h x hx).2 (h y hy).2 ((h x hx).1.trans (h y hy).1.symm) e
  exact ascR_iff.mpr ((ssort_pw inj).imp_of_mem fun {a b} ha hb z => (code_lt (by decide) (h' a ha).2 (h' b hb).2 ((h' a ha).1.trans (h' b hb).1.symm)).mp z)
def drawn (r : List Int) : Prop := trayP r ∧ ∃ a r', r = a :: r' ∧ a ≤ 1
theorem fb_lt {E : List Int} (hE : nn E) {R : List (List Int)} {i : Nat} (hi : i + 1 < E.length) (hl : R.length ≤ 100) (hR : ∀ r ∈ R, drawn r) : ∃ R' : List (List Int), fb__law_trays_0 [some (.d (.list (E.map .int))), some (.l (R.map rowT)), some (.d (.int (i : Nat))), none] = .nx [some (.d (.list (E.map .int))), some (.l (R'.map rowT)), none, none] ∧ R'.length = R.length + 1 ∧ ∀ r ∈ R', drawn r := by
  obtain ⟨x, hx, x0⟩ := at_map hi hE
  have e : ((i + 1 : Nat) : Int) = 1 + (i : Nat) := by omega
  rw [e] at hx
  have hl' : R.length < 16777216 := by omega
  refine ⟨R ++ [[x % 2, x / 2 % 7, x / 16 % 4, 1 + x / 64 % 6]], ?_, by simp, fun r hr => ?_⟩
  · unfold fb__law_trays_0
    simp [hx, lAt, hl', rowT]
  · rcases List.mem_append.mp hr with hr | hr
    · exact hR r hr
    · rw [List.mem_singleton.mp hr]
      exact ⟨⟨_, _, _, _, rfl, by omega, by omega, by omega, by omega, by omega, by omega, by omega, by omega⟩, _, _, rfl, by omega⟩
theorem m_law_trays_ok {E : List Int} (hE : nn E) (hl : 7 ≤ E.length) : ∃ R : List (List Int), m__law_trays [some (.d (.list (E.map .int)))] = .ok (.tuple (R.map rowT)) ∧ R.length ≤ 6 ∧ (∀ r ∈ R, drawn r) ∧ ascR R = true := by
  obtain ⟨x, hx, x0⟩ := at_map (i := 0) (by omega) hE
  obtain ⟨n, hn⟩ : ∃ n : Nat, x % 7 = (n : Nat) := ⟨(x % 7).toNat, by omega⟩
  have hn6 : n < 7 := by omega
  obtain ⟨m', e, R, rfl, h1, h2⟩ := goFor_inv (s := gSet 2) (b := fb__law_trays_0) (fun i m => ∃ R : List (List Int), m = [some (.d (.list (E.map .int))), some (.l (R.map rowT)), none, none] ∧ R.length = i ∧ ∀ r ∈ R, drawn r) (rngL 0 n) 0 [some (.d (.list (E.map .int))), some (.l []), none, none] ⟨[], rfl, rfl, fun _ h => absurd h List.not_mem_nil⟩ fun i z m hz ⟨R, e, h1, h2⟩ => by
    subst e
    have hi : i < n := by
      have := (List.getElem?_eq_some_iff.mp hz).1
      rwa [rngL_len] at this
    obtain rfl : z = .int (i : Nat) := by
      unfold rngL at hz
      rw [List.getElem?_map, List.getElem?_range hi] at hz
      have := Option.some.inj hz
      rw [← this]
      show PyData.int (0 + (i : Int)) = _
      rw [Int.zero_add]
    obtain ⟨R', e, q1, q2⟩ := fb_lt hE (R := R) (i := i) (by omega) (by omega) h2
    exact ⟨_, by simp, _, e, R', rfl, by omega, q2⟩
  rw [rngL_len] at h1
  have hA : AllR ssetB 4 R := fun r hr => tray_code (h2 r hr).1
  refine ⟨ssort ssetB R, ?_, by have := ssort_len (B := ssetB) (R := R); omega, fun r hr => h2 r (ssort_mem.mp hr), ssort_asc hA⟩
  have hG := ssetG_rows (x := .list (R.map rowT)) (R := R) rfl (by decide) (by omega) hA
  have hr : rng1 [.int (n : Nat)] = .ok (rngL 0 n) := rngN (by omega)
  have hx' : (Option.map (fun a => PyData.int a) E[0]?) = some (.int x) := by
    rw [show ((0 : Nat) : Int) = 0 from rfl, atI_0, List.getElem?_map] at hx; exact hx
  unfold m__law_trays b__law_trays
  simp [hx', hn, hr, e, hG]
end Dl
set_option Elab.async false
set_option linter.all false
set_option maxRecDepth 100000
namespace Dl
open PySem PySem.Spec PyProof.Rows L2
/-! ### a dict that may be written anew -/
def putM (M : Ms3) (q : Nat × Nat) (x : Int) : Ms3 := if q ∈ M.map (·.1) then M.map (fun p => if p.1 = q then (p.1, x) else p) else M ++ [(q, x)]
theorem dput_put {M : Ms3} {a b : Nat} {x : Int} : dputD true (kvP M) (.tuple [.int (a : Nat), .int (b : Nat)]) (.int x) = some (kvP (putM M (a, b) x)) := by
  by_cases h : (a, b) ∈ M.map (·.1)
  · unfold putM
    rw [if_pos h]
    unfold dputD
    rw [if_pos rfl]
    show (some [Sum.inl (a : Int), Sum.inl (b : Int)]).map _ = _
    rw [Option.map_some]
    unfold dset
    rw [if_pos]
    · congr 1
      unfold kvP
      rw [List.map_map, List.map_map]
      refine List.map_congr_left fun p _ => ?_
      by_cases hp : p.1 = (a, b)
      · simp only [Function.comp, hp, if_true]
        rw [if_pos ((kP_eq (a := a) (b := b) (p := ((a, b), x)) rfl).mpr rfl)]
      · simp only [Function.comp, hp, if_false]
        rw [if_neg fun z => hp ((kP_eq (p := p) rfl).mp z)]
    · rw [List.any_eq_true]
      obtain ⟨p, hp, e⟩ := List.mem_map.mp h
      refine ⟨(.tuple [.int p.1.1, .int p.1.2], .int p.2), ?_, decide_eq_true ((kP_eq (p := p) rfl).mpr e)⟩
      unfold kvP
      exact List.mem_map_of_mem (f := fun (p : (Nat × Nat) × Int) => (PyData.tuple [.int p.1.1, .int p.1.2], PyData.int p.2)) hp
  · unfold putM
    rw [if_neg h]
    exact dputP h
theorem putM_keys {M : Ms3} {q : Nat × Nat} {x : Int} : (putM M q x).map (·.1) = if q ∈ M.map (·.1) then M.map (·.1) else M.map (·.1) ++ [q] := by
  unfold putM
  split
  · rw [List.map_map]
    refine List.map_congr_left fun p _ => ?_
    simp only [Function.comp]
    split <;> rfl
  · rw [List.map_append]; rfl
theorem putM_mem {M : Ms3} {q : Nat × Nat} {x : Int} {p : (Nat × Nat) × Int} (h : p ∈ putM M q x) : p = (q, x) ∨ p ∈ M := by
  unfold putM at h
  split at h
  · obtain ⟨r, hr, e⟩ := List.mem_map.mp h
    split at e
    · rename_i hq
      rw [hq] at e
      exact .inl e.symm
    · rw [← e]; exact .inr hr
  · rcases List.mem_append.mp h with h | h
    · exact .inr h
    · exact .inl (List.mem_singleton.mp h)
structure WI (M : Ms3) (i : Nat) : Prop where
  nd : (M.map (·.1)).Nodup
  ml : M.length ≤ i
  ok : ∀ p ∈ M, p.1.1 ≤ 1 ∧ p.1.2 ≤ 13 ∧ 1 ≤ p.2 ∧ p.2 ≤ 50
theorem WI.put {M : Ms3} {i : Nat} {q : Nat × Nat} {x : Int} (h : WI M i) (h1 : q.1 ≤ 1) (h2 : q.2 ≤ 13) (h3 : 1 ≤ x) (h4 : x ≤ 50) : WI (putM M q x) (i + 1) := by
  refine ⟨?_, ?_, fun p hp => ?_⟩
  · rw [putM_keys]
    split
    · exact h.nd
    · rename_i hq
      rw [List.nodup_append]
      exact ⟨h.nd, by simp, fun a ha b hb e => hq (by rw [← List.mem_singleton.mp hb, ← e]; exact ha)⟩
  · have : ((putM M q x).map (·.1)).length ≤ i + 1 := by
      rw [putM_keys]
      have := h.ml
      split
      · rw [List.length_map]; omega
      · rw [List.length_append, List.length_map]; simp only [List.length_cons, List.length_nil]; omega
    rwa [List.length_map] at this
  · rcases putM_mem hp with rfl | hp
    · exact ⟨h1, h2, h3, h4⟩
    · exact h.ok p hp
theorem fb_lw {E : List Int} (hE : nn E) {M : Ms3} {i : Nat} (hi : i + 1 < E.length) (h : WI M i) (hl : i ≤ 100) : ∃ M', fb__law_wishes_0 [some (.d (.list (E.map .int))), some (.m true (kvP M)), some (.d (.int (i : Nat))), none, none] = .nx [some (.d (.list (E.map .int))), some (.m true (kvP M')), none, none, none] ∧ WI M' (i + 1) := by
  obtain ⟨x, hx, x0⟩ := at_map hi hE
  have e : ((i + 1 : Nat) : Int) = 1 + (i : Nat) := by omega
  rw [e] at hx
  obtain ⟨a, ha⟩ : ∃ a : Nat, x % 2 = (a : Nat) := ⟨(x % 2).toNat, by omega⟩
  obtain ⟨b, hb⟩ : ∃ b : Nat, x / 2 % 8 = (b : Nat) := ⟨(x / 2 % 8).toNat, by omega⟩
  have hd : dputD true (kvP M) (.tuple [.int (x % 2), .int (x / 2 % 8)]) (.int (1 + x / 16 % 5)) = some (kvP (putM M (a, b) (1 + x / 16 % 5))) := by
    rw [ha, hb]; exact dput_put
  have hl' : (kvP M).length < 10000000 := by rw [kvP_len]; have := h.ml; omega
  refine ⟨putM M (a, b) (1 + x / 16 % 5), ?_, h.put (by show a ≤ 1; omega) (by show b ≤ 13; omega) (by omega) (by omega)⟩
  unfold fb__law_wishes_0
  simp [hx, mAt, hd, hl']
/-! ### sorted keys -/
def keyR (q : Nat × Nat) : List Int := [(q.1 : Int), (q.2 : Int)]
def leK (x y : Nat × Nat) : Bool := leR (keyR x) (keyR y)
def sortK (M : Ms3) : List (Nat × Nat) := (M.map (·.1)).mergeSort leK
theorem leR_trans {a b c : List Int} (h1 : leR a b = true) (h2 : leR b c = true) : leR a c = true := by
  unfold leR at *
  simp only [Bool.not_eq_true', decide_eq_false_iff_not, List.not_lt] at *
  exact List.le_trans h1 h2
theorem leR_total (a b : List Int) : (leR a b || leR b a) = true := by
  unfold leR
  rw [Bool.or_eq_true]
  simp only [Bool.not_eq_true', decide_eq_false_iff_not, List.not_lt]
  exact List.le_total a b
theorem keyR_inj {x y : Nat × Nat} (h : keyR x = keyR y) : x = y := by
  obtain ⟨a, b⟩ := x
  obtain ⟨c, d⟩ := y
  simp only [keyR, List.cons.injEq, and_true] at h
  ext <;> simp only <;> omega
theorem sortK_asc {M : Ms3} (nd : (M.map (·.1)).Nodup) : ((sortK M).map keyR).Pairwise (· < ·) := by
  have h1 : (sortK M).Pairwise fun a b => leK a b = true := List.pairwise_mergeSort (le := leK) (fun a b c => leR_trans (a := keyR a) (b := keyR b) (c := keyR c)) (fun a b => leR_total (keyR a) (keyR b)) _
  have h2 : (sortK M).Nodup := (List.mergeSort_perm _ _).nodup_iff.mpr nd
  rw [List.pairwise_map]
  refine (h1.and h2).imp fun {a b} ⟨h, ne⟩ => ?_
  have : keyR a ≤ keyR b := by
    unfold leK leR at h
    simpa only [Bool.not_eq_true', decide_eq_false_iff_not, List.not_lt] using h
  rcases List.le_iff_lt_or_eq.mp this with z | z
  · exact z
  · exact absurd (keyR_inj z) ne
theorem sortF_kvP {M : Ms3} {m : Ms} {i : Nat} (h : m[i]? = some (some (.q (.dict (kvP M))))) (hl : M.length ≤ 1000) : eSortF i m = .ok (.l ((sortK M).map fun q => rowT (keyR q))) := by
  have hk : (kvP M).map (·.1) = (M.map (·.1)).map fun q => rowT (keyR q) := by
    unfold kvP; rw [List.map_map, List.map_map]; rfl
  have e : (M.map (·.1)).map (fun q => rowT (keyR q)) = ((M.map (·.1)).map keyR).map rowT := by rw [List.map_map (f := keyR)]; rfl
  unfold eSortF qdAt
  rw [h]
  dsimp only
  rw [hk, if_pos]
  · congr 2
    rw [e, dsort_rows]
    unfold sortK
    rw [← List.map_mergeSort (r := leK) (s := leR) (fun a _ b _ => rfl), List.map_map]
    rfl
  · refine ⟨.of fun b b' => alike_rowT _ _, .inl fun d hd => ?_, by rw [List.length_map, List.length_map]; omega, ?_⟩
    · obtain ⟨r, hr, rfl⟩ := List.mem_map.mp hd
      exact ⟨_, _, rfl⟩
    · rw [e]; have := depth_rows ((M.map (·.1)).map keyR); omega
/-- the wishes that are drawn -/
def valK (M : Ms3) (q : Nat × Nat) : Int := match M.find? fun p => decide (p.1 = q) with
  | some p => p.2
  | none => 0
theorem valK_mem : ∀ {M : Ms3} {q : Nat × Nat}, q ∈ M.map (·.1) → (q, valK M q) ∈ M
  | [], _, h => absurd h List.not_mem_nil
  | p :: M, q, h => by
    unfold valK
    rw [List.find?_cons]
    by_cases hp : p.1 = q
    · rw [decide_eq_true hp]
      dsimp only
      rw [← hp]; simp
    · rw [decide_eq_false hp]
      dsimp only
      have : q ∈ M.map (·.1) := by
        rcases List.mem_cons.mp h with z | z
        · exact absurd z.symm hp
        · exact z
      exact List.mem_cons_of_mem _ (valK_mem this)
def wishK (M : Ms3) (q : Nat × Nat) : Wish := ⟨q.1, q.2, valK M q⟩
def wishesK (M : Ms3) : List Wish := (sortK M).map (wishK M)
theorem m_law_wishes_ok {E : List Int} (hE : nn E) (hl : 7 ≤ E.length) : ∃ WS : List Wish, m__law_wishes [some (.d (.list (E.map .int)))] = .ok (wsD WS) ∧ WS.length ≤ 6 ∧ (∀ w ∈ WS, w.Ok ∧ w.k ≤ 1) ∧ ascR ((WS.map Wish.row).map fun r => r.take 2) = true := by
  obtain ⟨x, hx, x0⟩ := at_map (i := 0) (by omega) hE
  obtain ⟨n, hn⟩ : ∃ n : Nat, x % 7 = (n : Nat) := ⟨(x % 7).toNat, by omega⟩
  have hn6 : n < 7 := by omega
  obtain ⟨m', e, M, rfl, h1⟩ := goFor_inv (s := gSet 2) (b := fb__law_wishes_0) (fun i m => ∃ M : Ms3, m = [some (.d (.list (E.map .int))), some (.m true (kvP M)), none, none, none] ∧ WI M i) (rngL 0 n) 0 [some (.d (.list (E.map .int))), some (.m true []), none, none, none] ⟨[], rfl, ⟨by simp, Nat.le_refl _, fun p h => absurd h List.not_mem_nil⟩⟩ fun i z m hz ⟨M, e, h1⟩ => by
    subst e
    have hi : i < n := by
      have := (List.getElem?_eq_some_iff.mp hz).1
      rwa [rngL_len] at this
    obtain rfl : z = .int (i : Nat) := by
      unfold rngL at hz
      rw [List.getElem?_map, List.getElem?_range hi] at hz
      have := Option.some.inj hz
      rw [← this]
      show PyData.int (0 + (i : Int)) = _
      rw [Int.zero_add]
    rw [Nat.zero_add] at h1
    obtain ⟨M', e, q2⟩ := fb_lw hE (M := M) (i := i) (by omega) h1 (by omega)
    exact ⟨_, by simp, _, e, M', rfl, by rw [Nat.zero_add]; exact q2⟩
  rw [rngL_len, Nat.zero_add] at h1
  have hx' : (Option.map (fun a => PyData.int a) E[0]?) = some (.int x) := by
    rw [show ((0 : Nat) : Int) = 0 from rfl, atI_0, List.getElem?_map] at hx; exact hx
  have hr : rng1 [.int (n : Nat)] = .ok (rngL 0 n) := rngN (by omega)
  have hml := h1.ml
  have hperm : (sortK M).Perm (M.map (·.1)) := List.mergeSort_perm _ _
  refine ⟨wishesK M, ?_, ?_, fun w hw => ?_, ?_⟩
  · have hs : (sCut [0, 2, 3] (sPre [2, 3] (sFor (iArg rng1 [(toV (e2 modD (toV (eCall (g1 toIntD) [(toV (e2 ixD (rVar 0) (vC (.int 0))))])) (vC (.int 7))))]) (gSet 2) fb__law_wishes_0))) [some (.d (.list (E.map .int))), some (.m true []), none, none, none] = .nx [none, some (.m true (kvP M)), none, none, none] := by
      refine cut_nx (m' := [some (.d (.list (E.map .int))), some (.m true (kvP M)), none, none, none]) ?_
      rw [sPre_s, sFor_s]
      have : iArg rng1 [(toV (e2 modD (toV (eCall (g1 toIntD) [(toV (e2 ixD (rVar 0) (vC (.int 0))))])) (vC (.int 7))))] (wipeM [some (.d (.list (E.map .int))), some (.m true []), none, none, none] [2, 3]) = .ok (rngL 0 n) := by
        simp [hx', hn, hr]
      rw [this]
      exact e
    have hlc : lc__law_wishes_1 [none, some (.q (.dict (kvP M))), none, none, none] = .ok (.l ((wishesK M).map wD)) := by
      unfold wishesK
      rw [List.map_map]
      unfold lc__law_wishes_1
      refine lc_map (sortK M) (fun q => rowT (keyR q)) _ (by rfl) ?_ fun q hq => ⟨[none, some (.q (.dict (kvP M))), none, none, some (.d (rowT (keyR q)))], by simp, ?_⟩
      · rw [iSeq_s, toV_s, sortF_kvP (M := M) (by rfl) (by omega)]; rfl
      · have hm := valK_mem (hperm.mem_iff.mp hq)
        have hd : dAt 1 [none, some (.q (.dict (kvP M))), none, none, some (.d (.tuple [.int (q.1 : Nat), .int (q.2 : Nat)]))] = some (true, kvP M) := by
          cases M with
          | nil => exact absurd hm List.not_mem_nil
          | cons a b => rfl
        have hg := dgetP hm h1.nd
        simp only [toV_s, e2_s, rVar_s, List.getElem?_cons_succ, List.getElem?_cons_zero, Rz.bind_ok, eTup_s, evalAll_cons, evalAll_nil, eDget_s, vVar_s, rowT, keyR, List.map_cons, List.map_nil, hd, hg, rz_map_ok]
        rfl
    unfold m__law_wishes b__law_wishes
    refine fn_rt (M := [some (.d (.list (E.map .int))), none, none, none, none]) rfl ?_
    rw [seq_nx (m' := [some (.d (.list (E.map .int))), some (.m true []), none, none, none]) (set_nx rfl (by simp)), seq_nx hs, sGive_s, giveAt_m (T := true) (kvs := kvP M) (by rfl)]
    refine ret_rt ?_
    rw [show ([none, some (.m true (kvP M)), none, none, none] : Ms).set 1 (some (.q (.dict (kvP M)))) = [none, some (.q (.dict (kvP M))), none, none, none] from rfl]
    simp only [toV_s, eCall_s, evalAll_cons, evalAll_nil, hlc, Rz.bind_ok, g1_s, tupleD_l, ofO_some', wsD]
  · unfold wishesK
    rw [List.length_map, hperm.length_eq, List.length_map]; omega
  · unfold wishesK at hw
    obtain ⟨q, hq, rfl⟩ := List.mem_map.mp hw
    have hm := valK_mem (hperm.mem_iff.mp hq)
    obtain ⟨a, b, c, d⟩ := h1.ok _ hm
    simp only at a b c d
    refine ⟨⟨?_, ?_, ?_, ?_, ?_, ?_⟩, ?_⟩ <;> simp only [wishK] <;> omega
  · rw [ascR_iff]
    have := sortK_asc h1.nd
    unfold wishesK
    rw [List.map_map, List.map_map]
    exact this
end Dl
set_option Elab.async false
set_option linter.all false
set_option maxRecDepth 100000
namespace Dl
open PySem PySem.Spec PyProof.Rows L2
theorem sumD_ints (l : List Int) : sumD (.list (l.map .int)) = some (.d (.int l.sum)) := by
  show (intsOf (l.map .int)).map _ = _
  rw [intsOf_map]; rfl
theorem m_law_has_ok {t : Tray} {k d : Int} {r : List PyData} : m__law_has [some (.d (tD t)), some (.d (.tuple (.int k :: .int d :: r)))] = .ok (.bool (hasB t k d)) := by
  unfold m__law_has b__law_has
  simp only [tD, rowT, Tray.row, List.map_cons, List.map_nil]
  by_cases h1 : t.k = k
  · by_cases h2 : d < t.b
    · have h2' : ¬ t.b ≤ d := by omega
      simp [hasB, h1, h2, h2']
    · have h2' : t.b ≤ d := by omega
      have e : decide (t.s < d - t.b) = decide (t.b + t.s < d) := by
        rw [Bool.eq_iff_iff, decide_eq_true_eq, decide_eq_true_eq]; omega
      have e2 : (d - t.b ≤ t.s) ↔ (d ≤ t.b + t.s) := by omega
      simp [hasB, h1, h2, h2', e, e2]
  · simp [hasB, h1]
section
variable {TR : List Tray} {WS : List Wish} {k group groups best others there : Option W} {L K : List Int} {M : Ms3}
theorem rngL_map {n : Nat} : rngL 0 n = (List.range n).map fun (i : Nat) => PyData.int i := by
  unfold rngL
  refine List.map_congr_left fun i _ => ?_
  rw [Int.zero_add]
theorem ws_at {j : Nat} {u : Wish} (h : WS[j]? = some u) : atI (WS.map wD) ((j : Nat) : Int) = some (.tuple [.int u.k, .int u.d, .int u.c]) := by
  rw [atI_nat, List.getElem?_map, h]; rfl
end
end Dl
set_option Elab.async false
set_option linter.all false
set_option maxRecDepth 100000
namespace Dl
open PySem PySem.Spec PyProof.Rows L2
/-! ### rows that are told -/
theorem goFor_findS {α : Type} {s : PyData → Ms → Option Ms} {b : Ms → Fl} (enc : α → PyData) (P : Ms → Prop) (f : α → Option PyData) : ∀ (xs : List α) (m : Ms), P m →
    (∀ x ∈ xs, ∀ m, P m → ∃ m1, s (enc x) m = some m1 ∧ (f x = none → ∃ m2, b m1 = .nx m2 ∧ P m2) ∧ ∀ r, f x = some r → b m1 = .rt r) →
    (xs.findSome? f = none → ∃ m', goFor s b (xs.map enc) m = .nx m' ∧ P m') ∧ ∀ r, xs.findSome? f = some r → goFor s b (xs.map enc) m = .rt r
  | [], m, h, _ => ⟨fun _ => ⟨m, rfl, h⟩, fun r z => by simp at z⟩
  | x :: xs, m, h, st => by
    obtain ⟨m1, h1, h2, h3⟩ := st x (by simp) m h
    rw [List.findSome?_cons, List.map_cons, goFor, h1]
    dsimp only
    cases hx : f x with
    | some r =>
      refine ⟨fun z => by simp at z, fun r' z => ?_⟩
      rw [h3 r hx]
      simp only [Option.some.injEq] at z
      rw [z]
    | none =>
      obtain ⟨m2, h4, h5⟩ := h2 hx
      rw [h4]
      exact goFor_findS enc P f xs m2 h5 fun y hy => st y (List.mem_cons_of_mem _ hy)
theorem findSome_head {α β : Type} {p : α → Bool} {g : α → β} : ∀ {xs : List α}, xs.findSome? (fun x => if p x = true then some (g x) else none) = (xs.filter p).head?.map g
  | [] => rfl
  | x :: xs => by
    rw [List.findSome?_cons]
    cases h : p x with
    | true => rw [List.filter_cons_of_pos h]; simp
    | false => rw [List.filter_cons_of_neg (by simp [h])]; simp [findSome_head]
theorem filter_zip {α : Type} {xs : List α} {p : α × Nat → Bool} {q : Nat → Bool} (h : ∀ x i, xs[i]? = some x → p (x, i) = q i) : (xs.zipIdx.filter p).map (·.2) = (List.range xs.length).filter q := by
  have e : xs.zipIdx.filter p = xs.zipIdx.filter (q ∘ (·.2)) := List.filter_congr fun z hz => h z.1 z.2 (List.mem_zipIdx_iff_getElem?.mp hz)
  rw [e, ← List.filter_map, List.zipIdx_map_snd, List.range_eq_range']
def rowP (p : (Nat × Nat) × Int) : PyData := rowT (rowM p)
theorem rowP_eq (p : (Nat × Nat) × Int) : rowP p = .tuple [.int (p.1.1 : Nat), .int (p.1.2 : Nat), .int p.2] := rfl
def rowB (n m : Nat) (v : PyData) : Bool := match v with
  | .tuple [x, y, z] => numB x 0 ((n : Int) - 1) && (numB y 0 ((m : Int) - 1) && numB z 1 50)
  | _ => false
structure XOk (n m : Nat) (X : Ms3) : Prop where
  b : ∀ p ∈ X, p.1.1 < n ∧ p.1.2 < m ∧ 1 ≤ p.2 ∧ p.2 ≤ 50
theorem rowB_row {n m : Nat} {v : PyData} (h : rowB n m v = true) : ∃ p : (Nat × Nat) × Int, v = rowP p ∧ p.1.1 < n ∧ p.1.2 < m ∧ 1 ≤ p.2 ∧ p.2 ≤ 50 := by
  unfold rowB at h
  split at h
  · simp only [Bool.and_eq_true] at h
    obtain ⟨a, rfl, a1, a2⟩ := numB_int h.1
    obtain ⟨b, rfl, b1, b2⟩ := numB_int h.2.1
    obtain ⟨c, rfl, c1, c2⟩ := numB_int h.2.2
    obtain ⟨a, rfl⟩ := Int.eq_ofNat_of_zero_le a1
    obtain ⟨b, rfl⟩ := Int.eq_ofNat_of_zero_le b1
    exact ⟨((a, b), c), rfl, by show a < n; omega, by show b < m; omega, c1, c2⟩
  · cases h
theorem rowB_of {n m : Nat} {p : (Nat × Nat) × Int} (h : p.1.1 < n ∧ p.1.2 < m ∧ 1 ≤ p.2 ∧ p.2 ≤ 50) : rowB n m (rowP p) = true := by
  rw [rowP_eq]
  show (numB (.int (p.1.1 : Nat)) 0 ((n : Int) - 1) && (numB (.int (p.1.2 : Nat)) 0 ((m : Int) - 1) && numB (.int p.2) 1 50)) = true
  rw [numB_of (by omega) (by omega), numB_of (by omega) (by omega), numB_of h.2.2.1 h.2.2.2]; rfl
theorem ms_of {n m : Nat} : ∀ {xs : List PyData}, xs.all (rowB n m) = true → ∃ X : Ms3, xs = X.map rowP ∧ XOk n m X
  | [], _ => ⟨[], rfl, ⟨fun p h => absurd h List.not_mem_nil⟩⟩
  | x :: xs, h => by
    rw [List.all_cons, Bool.and_eq_true] at h
    obtain ⟨X, e, hX⟩ := ms_of h.2
    obtain ⟨p, rfl, hp⟩ := rowB_row h.1
    refine ⟨p :: X, by rw [e]; rfl, ⟨fun q hq => ?_⟩⟩
    rcases List.mem_cons.mp hq with rfl | hq
    · exact hp
    · exact hX.b q hq
theorem rowB_3 {n m : Nat} {v : PyData} (h : rowB n m v = true) : isLen 3 v = true := by
  obtain ⟨p, rfl, _⟩ := rowB_row h
  rfl
def keyX (p : (Nat × Nat) × Int) : List Int := [(p.1.1 : Int), (p.1.2 : Int)]
def formB (n m : Nat) (v : PyData) : Bool := match v with
  | .tuple xs => xs.all (rowB n m) && rowsB xs fun r => r.take 2
  | _ => false
theorem rowP_map (X : Ms3) : X.map rowP = (X.map rowM).map rowT := by rw [List.map_map]; rfl
theorem formB_X {n m : Nat} {X : Ms3} (h : XOk n m X) : formB n m (.tuple (X.map rowP)) = ascR (X.map keyX) := by
  have e : (X.map rowP).all (rowB n m) = true := by
    rw [List.all_eq_true]
    intro v hv
    obtain ⟨p, hp, rfl⟩ := List.mem_map.mp hv
    exact rowB_of (h.b p hp)
  show ((X.map rowP).all (rowB n m) && rowsB (X.map rowP) fun r => r.take 2) = _
  rw [e, Bool.true_and, rowP_map, rowsB_map, List.map_map]
  rfl
theorem formB_no {n m : Nat} {xs : List PyData} (h : xs.all (rowB n m) = false) : formB n m (.tuple xs) = false := by
  show (xs.all (rowB n m) && _) = _
  rw [h]; rfl
section
variable {TR : List Tray} {WS : List Wish} {v : PyData}
def aS (TR : List Tray) (WS : List Wish) (v : PyData) (x y z o : Option W) : Ms := [some (.d (trD TR)), some (.d (wsD WS)), some (.d v), x, y, z, o]
theorem lca0 {xs : List PyData} : lc__are_rows_0 (aS TR WS (.tuple xs) none none none none) = .ok (.l (xs.map fun z => .bool (isLen 3 z))) := by
  unfold lc__are_rows_0
  refine lc_map xs id _ (by rfl) (by simp [aS]) fun z hz => ⟨aS TR WS (.tuple xs) none none none (some (.d z)), by simp [aS], ?_⟩
  cases z <;> simp [isLen, aS]
  rename_i ys
  by_cases h : ys.length = 3
  · simp [h]
  · have : (ys.length : Int) ≠ 3 := by omega
    simp [h, this]
theorem fba1 {x y z : PyData} : fb__are_rows_1 (aS TR WS v (some (.d x)) (some (.d y)) (some (.d z)) none) = if rowB TR.length WS.length (.tuple [x, y, z]) = true then .nx (aS TR WS v none none none none) else .rt (.bool false) := by
  unfold fb__are_rows_1
  by_cases ha : numB x 0 ((TR.length : Int) - 1) = true
  · by_cases hb : numB y 0 ((WS.length : Int) - 1) = true
    · by_cases hc : numB z 1 50 = true
      · simp [aS, trD, wsD, m_is_whole_ok, rowB, ha, hb, hc]
      · simp [aS, trD, wsD, m_is_whole_ok, rowB, ha, hb, hc]
    · simp [aS, trD, wsD, m_is_whole_ok, rowB, ha, hb]
  · simp [aS, trD, wsD, m_is_whole_ok, rowB, ha]
theorem lca2 {X : Ms3} : lc__are_rows_2 [none, none, some (.d (.tuple (X.map rowP))), none, none, none, none] = .ok (.l ((X.map keyX).map rowT)) := by
  rw [List.map_map]
  unfold lc__are_rows_2
  refine lc_map X rowP _ (by rfl) (by simp) fun p hp => ⟨[none, none, some (.d (.tuple (X.map rowP))), none, none, none, some (.d (rowP p))], by simp, ?_⟩
  have e : cutL [PyData.int (p.1.1 : Nat), .int (p.1.2 : Nat), .int p.2] none (some 2) = [.int (p.1.1 : Nat), .int (p.1.2 : Nat)] := takeN _ 2
  simp [rowP_eq, e, keyX, rowT]
theorem m_are_rows_ok : m__are_rows [some (.d (trD TR)), some (.d (wsD WS)), some (.d v)] = .ok (.bool (formB TR.length WS.length v)) := by
  unfold m__are_rows
  refine fn_rt (M := aS TR WS v none none none none) rfl ?_
  unfold b__are_rows
  cases v with
  | tuple xs =>
    cases h3 : xs.all (isLen 3) with
    | false =>
      have e5 : formB TR.length WS.length (.tuple xs) = false := by
        refine formB_no ?_
        rw [Bool.eq_false_iff]
        intro z
        rw [Bool.eq_false_iff] at h3
        apply h3
        rw [List.all_eq_true] at z ⊢
        exact fun w hw => rowB_3 (z w hw)
      refine seq_rt ?_
      rw [sIf_t (show _ = Rz.ok true by
        rw [or_f (by simp [aS])]
        simp only [tNot_s, tV_s, toV_s, eCall_s, evalAll_cons, evalAll_nil, lca0, Rz.bind_ok, g1_s, allD_map, h3, ofO_some', boolD_s, rz_map_ok]
        rfl), e5]
      rfl
    | true =>
      rw [seq_nx (m' := aS TR WS (.tuple xs) none none none none) (by
        rw [sIf_f (show _ = Rz.ok false by
          rw [or_f (by simp [aS])]
          simp only [tNot_s, tV_s, toV_s, eCall_s, evalAll_cons, evalAll_nil, lca0, Rz.bind_ok, g1_s, allD_map, h3, ofO_some', boolD_s, rz_map_ok]
          rfl)]
        rfl)]
      have z := goFor_all (s := gTup' 3 (gCons (gSet 3) (gCons (gSet 4) (gCons (gSet 5) gNil)))) (b := fb__are_rows_1) (fun m => m = aS TR WS (.tuple xs) none none none none) (rowB TR.length WS.length) (.bool false) xs _ rfl fun y hy m hm => by
        subst hm
        obtain ⟨ys, rfl, hl⟩ := isLen_eq (List.all_eq_true.mp h3 y hy)
        obtain ⟨a, b, c, rfl⟩ := len3 hl
        refine ⟨aS TR WS (.tuple xs) (some (.d a)) (some (.d b)) (some (.d c)) none, by simp [aS], fun h => ⟨_, by rw [fba1, if_pos h], rfl⟩, fun h => by rw [fba1, if_neg (by simp [h])]⟩
      cases hr : xs.all (rowB TR.length WS.length) with
      | false =>
        rw [formB_no hr]
        refine seq_rt (cut_rt ?_)
        rw [sPre_s, sFor_s]
        exact z.2 hr
      | true =>
        obtain ⟨m', e, rfl⟩ := z.1 hr
        rw [seq_nx (m' := [none, none, some (.d (.tuple xs)), none, none, none, none]) (by
          refine cut_nx (m' := aS TR WS (.tuple xs) none none none none) ?_
          rw [sPre_s, sFor_s]
          exact e)]
        obtain ⟨X, rfl, hX⟩ := ms_of hr
        rw [formB_X hX]
        refine ret_rt ?_
        simp only [vFn_s, evalAll_cons, evalAll_nil, toV_s, lca2, Rz.bind_ok, List.map_cons, List.map_nil, m_ascends_ok (x := .list ((X.map keyX).map rowT)) (R := X.map keyX) (.inl rfl)]
  | _ => exact seq_rt (by rw [sIf_t (by rw [or_t (by rfl)])]; rfl)
/-! ### the faults of rows -/
def hasX (TR : List Tray) (WS : List Wish) (p : (Nat × Nat) × Int) : Bool := match TR[p.1.1]?, WS[p.1.2]? with
  | some t, some w => hasB t w.k w.d
  | _, _ => false
def dueX (TR : List Tray) (WS : List Wish) (X : Ms3) : PyData :=
  match (X.filter fun p => !hasX TR WS p).head? with
  | some p => .tuple [.str "tray", .int (p.1.1 : Nat), .int (p.1.2 : Nat)]
  | none => match ((List.range TR.length).filter fun k => decide (cT TR k < rowSum X k)).head? with
    | some (k : Nat) => .tuple [.str "much", .int k]
    | none => match ((List.range WS.length).filter fun k => !decide (colSum X k = cW WS k)).head? with
      | some (k : Nat) => .tuple [.str "few", .int k]
      | none => .none
def dueM (TR : List Tray) (WS : List Wish) (v : PyData) (X : Ms3) : PyData := if formB TR.length WS.length v = true then dueX TR WS X else .tuple [.str "form"]
def fS (tr ws : Option W) (X : Ms3) (x y z k : Option W) : Ms := [tr, ws, some (.d (.tuple (X.map rowP))), x, y, z, k, none, none, none, none]
theorem tr_at {a : Nat} {t : Tray} (h : TR[a]? = some t) : atI (TR.map tD) ((a : Nat) : Int) = some (tD t) := by
  rw [atI_nat, List.getElem?_map, h]; rfl
theorem fbf0 {X : Ms3} {p : (Nat × Nat) × Int} (hp : p.1.1 < TR.length ∧ p.1.2 < WS.length) {k : Option W} : fb__fault_0 (fS (some (.d (trD TR))) (some (.d (wsD WS))) X (some (.d (.int (p.1.1 : Nat)))) (some (.d (.int (p.1.2 : Nat)))) (some (.d (.int p.2))) k) =
    if hasX TR WS p = true then .nx (fS (some (.d (trD TR))) (some (.d (wsD WS))) X none none none k) else .rt (.tuple [.str "tray", .int (p.1.1 : Nat), .int (p.1.2 : Nat)]) := by
  obtain ⟨t, ht⟩ : ∃ t, TR[p.1.1]? = some t := ⟨_, List.getElem?_eq_getElem hp.1⟩
  obtain ⟨w, hw⟩ : ∃ w, WS[p.1.2]? = some w := ⟨_, List.getElem?_eq_getElem hp.2⟩
  have e : hasX TR WS p = hasB t w.k w.d := by unfold hasX; rw [ht, hw]
  have et : (tNot' (tV' (vFn m__has [(toV (e2 ixD (rVar 0) (rVar 3))), (toV (e2 ixD (toV (e2 ixD (rVar 1) (rVar 4))) (vC (.int 0)))), (toV (e2 ixD (toV (e2 ixD (rVar 1) (rVar 4))) (vC (.int 1))))]))) (fS (some (.d (trD TR))) (some (.d (wsD WS))) X (some (.d (.int (p.1.1 : Nat)))) (some (.d (.int (p.1.2 : Nat)))) (some (.d (.int p.2))) k) = .ok (!hasB t w.k w.d) := by
    simp only [fS, tNot_s, tV_s, vFn_s, evalAll_cons, evalAll_nil, toV_s, e2_s, rVar_s, List.getElem?_cons_succ, List.getElem?_cons_zero, Rz.bind_ok, trD, wsD, ix_t, tr_at ht, ws_at hw, Option.map_some, ofO_some', vC_s, atI_0, atI_1, List.map_cons, List.map_nil, m_has_ok, boolD_s, rz_map_ok]
  unfold fb__fault_0
  rw [e]
  cases hb : hasB t w.k w.d with
  | true =>
    rw [if_pos rfl]
    refine cut_nx (m' := fS (some (.d (trD TR))) (some (.d (wsD WS))) X (some (.d (.int (p.1.1 : Nat)))) (some (.d (.int (p.1.2 : Nat)))) (some (.d (.int p.2))) k) ?_
    rw [sIf_f (et.trans (by rw [hb]; rfl))]; rfl
  | false =>
    rw [if_neg (by decide)]
    refine cut_rt ?_
    rw [sIf_t (et.trans (by rw [hb]; rfl))]
    rfl
theorem gTup3 {i k l : Nat} {m : Ms} {x y z : PyData} (h1 : i < m.length) (h2 : k < m.length) (h3 : l < m.length) : gTup' 3 (gCons (gSet i) (gCons (gSet k) (gCons (gSet l) gNil))) (.tuple [x, y, z]) m = some (((m.set i (some (.d x))).set k (some (.d y))).set l (some (.d z))) := by
  simp [h1, h2, h3]
theorem lcf1 {X : Ms3} {tr ws x y z : Option W} {k : Nat} : lc__fault_1 (fS tr ws X x y z (some (.d (.int (k : Nat))))) = .ok (.l (((X.filter fun p => decide (p.1.1 = k)).map (·.2)).map .int)) := by
  rw [List.map_map]
  unfold lc__fault_1
  refine lc_fil X rowP (fun p => decide (p.1.1 = k)) _ (by rfl) (by simp [fS]) fun p hp => ⟨[tr, ws, some (.d (.tuple (X.map rowP))), x, y, z, some (.d (.int (k : Nat))), some (.d (.int (p.1.1 : Nat))), some (.d (.int (p.1.2 : Nat))), some (.d (.int p.2)), none], ?_, ?_, fun _ => ?_⟩
  · rw [rowP_eq, gTup3 (by simp [fS]) (by simp [fS]) (by simp [fS])]; rfl
  · simp only [t2_s, rVar_s, List.getElem?_cons_succ, List.getElem?_cons_zero, Rz.bind_ok, eq_i, ofO_some']
    congr 1
    rw [Bool.eq_iff_iff, beq_iff_eq, decide_eq_true_eq]
    omega
  · simp
theorem lcf3 {X : Ms3} {tr ws x y z : Option W} {k : Nat} : lc__fault_3 (fS tr ws X x y z (some (.d (.int (k : Nat))))) = .ok (.l (((X.filter fun p => decide (p.1.2 = k)).map (·.2)).map .int)) := by
  rw [List.map_map]
  unfold lc__fault_3
  refine lc_fil X rowP (fun p => decide (p.1.2 = k)) _ (by rfl) (by simp [fS]) fun p hp => ⟨[tr, ws, some (.d (.tuple (X.map rowP))), x, y, z, some (.d (.int (k : Nat))), some (.d (.int (p.1.2 : Nat))), none, some (.d (.int p.2)), some (.d (.int (p.1.1 : Nat)))], ?_, ?_, fun _ => ?_⟩
  · rw [rowP_eq, gTup3 (by simp [fS]) (by simp [fS]) (by simp [fS])]; rfl
  · simp only [t2_s, rVar_s, List.getElem?_cons_succ, List.getElem?_cons_zero, Rz.bind_ok, eq_i, ofO_some']
    congr 1
    rw [Bool.eq_iff_iff, beq_iff_eq, decide_eq_true_eq]
    omega
  · simp
theorem rs_eq {X : Ms3} {k : Nat} : ((X.filter fun p => decide (p.1.1 = k)).map (·.2)).sum = rowSum X k := by
  rw [sum_filter]; unfold rowSum; simp only [decide_eq_true_eq]
theorem cs_eq {X : Ms3} {k : Nat} : ((X.filter fun p => decide (p.1.2 = k)).map (·.2)).sum = colSum X k := by
  rw [sum_filter]; unfold colSum; simp only [decide_eq_true_eq]
theorem fbf2 {X : Ms3} {t : Tray} {k : Nat} {tr ws : Option W} : fb__fault_2 (fS tr ws X (some (.d (tD t))) none none (some (.d (.int (k : Nat))))) =
    if decide (t.c < rowSum X k) = true then .rt (.tuple [.str "much", .int (k : Nat)]) else .nx (fS tr ws X none none none none) := by
  have et : (t2 gtD (toV (eCall (g1 sumD) [(toV lc__fault_1)])) (toV (e2 ixD (rVar 3) (vC (.int 3))))) (fS tr ws X (some (.d (tD t))) none none (some (.d (.int (k : Nat))))) = .ok (decide (t.c < rowSum X k)) := by
    have h3 : toV (e2 ixD (rVar 3) (vC (.int 3))) (fS tr ws X (some (.d (tD t))) none none (some (.d (.int (k : Nat))))) = .ok (.int t.c) := by simp [fS, tD, rowT, Tray.row, atI, ixN]
    rw [t2_s, h3]
    simp only [toV_s, eCall_s, evalAll_cons, evalAll_nil, lcf1, Rz.bind_ok, g1_s, sumD_ints, ofO_some', rs_eq, gt_i]
  unfold fb__fault_2
  cases hb : decide (t.c < rowSum X k) with
  | true =>
    rw [if_pos rfl]
    refine cut_rt ?_
    rw [sIf_t (et.trans (by rw [hb]))]; rfl
  | false =>
    rw [if_neg (by decide)]
    refine cut_nx (m' := fS tr ws X (some (.d (tD t))) none none (some (.d (.int (k : Nat))))) ?_
    rw [sIf_f (et.trans (by rw [hb]))]; rfl
theorem fbf4 {X : Ms3} {w : Wish} {k : Nat} {tr ws : Option W} : fb__fault_4 (fS tr ws X none (some (.d (wD w))) none (some (.d (.int (k : Nat))))) =
    if (!decide (colSum X k = w.c)) = true then .rt (.tuple [.str "few", .int (k : Nat)]) else .nx (fS tr ws X none none none none) := by
  have et : (t2 neD (toV (eCall (g1 sumD) [(toV lc__fault_3)])) (toV (e2 ixD (rVar 4) (vC (.int 2))))) (fS tr ws X none (some (.d (wD w))) none (some (.d (.int (k : Nat))))) = .ok (!decide (colSum X k = w.c)) := by
    have h3 : toV (e2 ixD (rVar 4) (vC (.int 2))) (fS tr ws X none (some (.d (wD w))) none (some (.d (.int (k : Nat))))) = .ok (.int w.c) := by simp [fS, wD, rowT, Wish.row]
    rw [t2_s, h3]
    simp only [toV_s, eCall_s, evalAll_cons, evalAll_nil, lcf3, Rz.bind_ok, g1_s, sumD_ints, ofO_some', cs_eq, ne_i]
    by_cases h : colSum X k = w.c <;> simp [h]
  unfold fb__fault_4
  cases hb : (!decide (colSum X k = w.c)) with
  | true =>
    rw [if_pos rfl]
    refine cut_rt ?_
    rw [sIf_t (et.trans (by rw [hb]))]; rfl
  | false =>
    rw [if_neg (by decide)]
    refine cut_nx (m' := fS tr ws X none (some (.d (wD w))) none (some (.d (.int (k : Nat))))) ?_
    rw [sIf_f (et.trans (by rw [hb]))]; rfl
theorem m_fault_ok {X : Ms3} (hv : formB TR.length WS.length v = true → v = .tuple (X.map rowP) ∧ XOk TR.length WS.length X) : m__fault [some (.d (trD TR)), some (.d (wsD WS)), some (.d v)] = .ok (dueM TR WS v X) := by
  unfold m__fault dueM
  cases hf : formB TR.length WS.length v with
  | false =>
    rw [if_neg (by decide)]
    refine fn_rt (M := [some (.d (trD TR)), some (.d (wsD WS)), some (.d v), none, none, none, none, none, none, none, none]) rfl ?_
    unfold b__fault
    refine seq_rt ?_
    rw [sIf_t (by simp [m_are_rows_ok, hf])]
    rfl
  | true =>
    rw [if_pos rfl]
    obtain ⟨rfl, hX⟩ := hv hf
    refine fn_rt (M := fS (some (.d (trD TR))) (some (.d (wsD WS))) X none none none none) rfl ?_
    unfold b__fault
    rw [seq_nx (m' := fS (some (.d (trD TR))) (some (.d (wsD WS))) X none none none none) (by
      rw [sIf_f (by simp [fS, m_are_rows_ok, hf])]; rfl)]
    have l0 := goFor_findS (s := gTup' 3 (gCons (gSet 3) (gCons (gSet 4) (gCons (gSet 5) gNil)))) (b := fb__fault_0) rowP (fun m => m = fS (some (.d (trD TR))) (some (.d (wsD WS))) X none none none none)
      (fun p => if (!hasX TR WS p) = true then some (.tuple [.str "tray", .int (p.1.1 : Nat), .int (p.1.2 : Nat)]) else none) X _ rfl fun p hp m hm => by
        subst hm
        have hb := hX.b p hp
        refine ⟨fS (some (.d (trD TR))) (some (.d (wsD WS))) X (some (.d (.int (p.1.1 : Nat)))) (some (.d (.int (p.1.2 : Nat)))) (some (.d (.int p.2))) none, by rw [rowP_eq, gTup3 (by simp [fS]) (by simp [fS]) (by simp [fS])]; rfl, ?_⟩
        rw [fbf0 ⟨hb.1, hb.2.1⟩]
        cases hasX TR WS p with
        | true => exact ⟨fun _ => ⟨_, if_pos rfl, rfl⟩, fun r z => by simp at z⟩
        | false => exact ⟨fun z => by simp at z, fun r z => by rw [if_neg (by decide)]; simp at z; rw [z]⟩
    rw [findSome_head] at l0
    unfold dueX
    cases h0 : (X.filter fun p => !hasX TR WS p).head? with
    | some p =>
      rw [h0] at l0
      refine seq_rt (cut_rt ?_)
      rw [sPre_s, sFor_s]
      exact l0.2 _ rfl
    | none =>
      rw [h0] at l0
      obtain ⟨m', e0, rfl⟩ := l0.1 rfl
      rw [seq_nx (m' := fS (some (.d (trD TR))) (some (.d (wsD WS))) X none none none none) (by
        refine cut_nx (m' := fS (some (.d (trD TR))) (some (.d (wsD WS))) X none none none none) ?_
        rw [sPre_s, sFor_s]
        exact e0)]
      have l1 := goFor_findS (s := gTup' 2 (gCons (gSet 6) (gCons (gSet 3) gNil))) (b := fb__fault_2) (fun q : Tray × Nat => PyData.tuple [.int ((q.2 : Nat) : Int), tD q.1]) (fun m => m = fS (some (.d (trD TR))) (some (.d (wsD WS))) X none none none none)
        (fun q => if decide (q.1.c < rowSum X q.2) = true then some (PyData.tuple [.str "much", .int (q.2 : Nat)]) else none) TR.zipIdx _ rfl fun q hq m hm => by
          subst hm
          refine ⟨fS (some (.d (trD TR))) (some (.d (wsD WS))) X (some (.d (tD q.1))) none none (some (.d (.int (q.2 : Nat)))), by rw [gTup2 (by simp [fS]) (by simp [fS])]; rfl, ?_⟩
          rw [fbf2]
          by_cases h : decide (q.1.c < rowSum X q.2) = true
          · rw [if_pos h, if_pos h]
            exact ⟨fun z => by simp at z, fun r z => by cases z; rfl⟩
          · rw [if_neg h, if_neg h]
            exact ⟨fun _ => ⟨_, rfl, rfl⟩, fun r z => by simp at z⟩
      have eh : (TR.zipIdx.findSome? fun q => if decide (q.1.c < rowSum X q.2) = true then some (PyData.tuple [.str "much", .int (q.2 : Nat)]) else none) = ((List.range TR.length).filter fun k => decide (cT TR k < rowSum X k)).head?.map fun (k : Nat) => PyData.tuple [.str "much", .int k] := by
        rw [findSome_head (p := fun q : Tray × Nat => decide (q.1.c < rowSum X q.2)) (g := fun q : Tray × Nat => PyData.tuple [.str "much", .int (q.2 : Nat)])]
        rw [← filter_zip (xs := TR) (p := fun q => decide (q.1.c < rowSum X q.2)) (q := fun k => decide (cT TR k < rowSum X k)) (fun t i h => by unfold cT; rw [h]), List.head?_map, Option.map_map]
        rfl
      rw [eh] at l1
      have ei : iArg enumD [(vVar 0)] (fS (some (.d (trD TR))) (some (.d (wsD WS))) X none none none none) = .ok (TR.zipIdx.map fun q : Tray × Nat => PyData.tuple [.int ((q.2 : Nat) : Int), tD q.1]) := by
        simp [fS, trD, enum_zip]
      cases h1 : ((List.range TR.length).filter fun k => decide (cT TR k < rowSum X k)).head? with
      | some k =>
        rw [h1] at l1
        refine seq_rt (cut_rt ?_)
        rw [sPre_s, sFor_s, show wipeM (fS (some (.d (trD TR))) (some (.d (wsD WS))) X none none none none) [3, 4, 5, 6] = fS (some (.d (trD TR))) (some (.d (wsD WS))) X none none none none from rfl, ei]
        exact l1.2 _ rfl
      | none =>
        rw [h1] at l1
        obtain ⟨m', e1, rfl⟩ := l1.1 rfl
        rw [seq_nx (m' := fS none (some (.d (wsD WS))) X none none none none) (by
          refine cut_nx (m' := fS (some (.d (trD TR))) (some (.d (wsD WS))) X none none none none) ?_
          rw [sPre_s, sFor_s, show wipeM (fS (some (.d (trD TR))) (some (.d (wsD WS))) X none none none none) [3, 4, 5, 6] = fS (some (.d (trD TR))) (some (.d (wsD WS))) X none none none none from rfl, ei]
          exact e1)]
        have l2 := goFor_findS (s := gTup' 2 (gCons (gSet 6) (gCons (gSet 4) gNil))) (b := fb__fault_4) (fun q : Wish × Nat => PyData.tuple [.int ((q.2 : Nat) : Int), wD q.1]) (fun m => m = fS none (some (.d (wsD WS))) X none none none none)
          (fun q => if (!decide (colSum X q.2 = q.1.c)) = true then some (PyData.tuple [.str "few", .int (q.2 : Nat)]) else none) WS.zipIdx _ rfl fun q hq m hm => by
            subst hm
            refine ⟨fS none (some (.d (wsD WS))) X none (some (.d (wD q.1))) none (some (.d (.int (q.2 : Nat)))), by rw [gTup2 (by simp [fS]) (by simp [fS])]; rfl, ?_⟩
            rw [fbf4]
            by_cases h : (!decide (colSum X q.2 = q.1.c)) = true
            · rw [if_pos h, if_pos h]
              exact ⟨fun z => by simp at z, fun r z => by cases z; rfl⟩
            · rw [if_neg h, if_neg h]
              exact ⟨fun _ => ⟨_, rfl, rfl⟩, fun r z => by simp at z⟩
        have eh2 : (WS.zipIdx.findSome? fun q => if (!decide (colSum X q.2 = q.1.c)) = true then some (PyData.tuple [.str "few", .int (q.2 : Nat)]) else none) = ((List.range WS.length).filter fun k => !decide (colSum X k = cW WS k)).head?.map fun (k : Nat) => PyData.tuple [.str "few", .int k] := by
          rw [findSome_head (p := fun q : Wish × Nat => !decide (colSum X q.2 = q.1.c)) (g := fun q : Wish × Nat => PyData.tuple [.str "few", .int (q.2 : Nat)])]
          rw [← filter_zip (xs := WS) (p := fun q => !decide (colSum X q.2 = q.1.c)) (q := fun k => !decide (colSum X k = cW WS k)) (fun t i h => by unfold cW; rw [h]), List.head?_map, Option.map_map]
          rfl
        rw [eh2] at l2
        have ei2 : iArg enumD [(vVar 1)] (fS none (some (.d (wsD WS))) X none none none none) = .ok (WS.zipIdx.map fun q : Wish × Nat => PyData.tuple [.int ((q.2 : Nat) : Int), wD q.1]) := by
          simp [fS, wsD, enum_zip]
        cases h2 : ((List.range WS.length).filter fun k => !decide (colSum X k = cW WS k)).head? with
        | some k =>
          rw [h2] at l2
          refine seq_rt (cut_rt ?_)
          rw [sPre_s, sFor_s, show wipeM (fS none (some (.d (wsD WS))) X none none none none) [0, 3, 4, 5, 6] = fS none (some (.d (wsD WS))) X none none none none from rfl, ei2]
          exact l2.2 _ rfl
        | none =>
          rw [h2] at l2
          obtain ⟨m', e2, rfl⟩ := l2.1 rfl
          rw [seq_nx (m' := [none, none, none, none, none, none, none, none, none, none, none]) (by
            refine cut_nx (m' := fS none (some (.d (wsD WS))) X none none none none) ?_
            rw [sPre_s, sFor_s, show wipeM (fS none (some (.d (wsD WS))) X none none none none) [0, 3, 4, 5, 6] = fS none (some (.d (wsD WS))) X none none none none from rfl, ei2]
            exact e2)]
          rfl
end
end Dl
set_option Elab.async false
set_option linter.all false
set_option maxRecDepth 100000
namespace Dl
open PySem PySem.Spec PyProof.Rows L2
theorem ne_rows (xs ys : List (List Int)) : neD (.list (xs.map rowT)) (.list (ys.map rowT)) = some (!decide (xs = ys)) := by
  unfold neD
  have h1 := depth_rows xs
  rw [if_pos (by simp only [PyData.depth]; omega)]
  simp only [PyData.eqv, eqv_rows]
theorem zip_range {α β : Type} {xs : List α} {f : α × Nat → β} {g : Nat → β} (h : ∀ x i, xs[i]? = some x → f (x, i) = g i) : xs.zipIdx.map f = (List.range xs.length).map g := by
  have e : xs.zipIdx.map f = xs.zipIdx.map (g ∘ (·.2)) := List.map_congr_left fun z hz => h z.1 z.2 (List.mem_zipIdx_iff_getElem?.mp hz)
  rw [e, ← List.map_map, List.zipIdx_map_snd, List.range_eq_range']
section
variable {TR : List Tray} {WS : List Wish} {v : PyData} {X : Ms3}
def leftL (TR : List Tray) (X : Ms3) : List Int := (List.range TR.length).map fun k => cT TR k - rowSum X k
theorem m_met_fault_ok (hc : m__check [some (.d (trD TR)), some (.d (wsD WS))] = .ok .none) (hv : formB TR.length WS.length v = true → v = .tuple (X.map rowP) ∧ XOk TR.length WS.length X) : m_met_fault [some (.d (trD TR)), some (.d (wsD WS)), some (.d v)] = .ok (dueM TR WS v X) := by
  unfold m_met_fault b_met_fault
  refine fn_rt (M := [some (.d (trD TR)), some (.d (wsD WS)), some (.d v)]) rfl ?_
  rw [seq_nx (m' := [some (.d (trD TR)), some (.d (wsD WS)), some (.d v)]) (expr_nx (x := .none) (by simp [hc]))]
  exact ret_rt (by simp [m_fault_ok hv])
theorem lcl0 {a b : Option W} {k : Nat} {t : Option W} : lc_left_on_0 [a, b, some (.d (.tuple (X.map rowP))), some (.d (.int (k : Nat))), t, none] = .ok (.l (((X.filter fun p => decide (p.1.1 = k)).map (·.2)).map .int)) := by
  rw [List.map_map]
  unfold lc_left_on_0
  refine lc_fil X rowP (fun p => decide (p.1.1 = k)) _ (by rfl) (by simp) fun p hp => ⟨[a, b, some (.d (.tuple (X.map rowP))), some (.d (.int (k : Nat))), t, some (.d (rowP p))], by simp, ?_, fun _ => ?_⟩
  · simp only [t2_s, toV_s, e2_s, rVar_s, List.getElem?_cons_succ, List.getElem?_cons_zero, Rz.bind_ok, rowP_eq, ix_t, vC_s, atI_0, Option.map_some, ofO_some', eq_i]
    congr 1
    rw [Bool.eq_iff_iff, beq_iff_eq, decide_eq_true_eq]
    omega
  · simp [rowP_eq]
theorem lcl1 : lc_left_on_1 [some (.d (trD TR)), some (.d (wsD WS)), some (.d (.tuple (X.map rowP))), none, none, none] = .ok (.l ((leftL TR X).map .int)) := by
  have e : (leftL TR X).map PyData.int = TR.zipIdx.map fun q => PyData.int (q.1.c - rowSum X q.2) := by
    unfold leftL
    rw [List.map_map]
    exact (zip_range fun t i h => by simp only [Function.comp]; unfold cT; rw [h]).symm
  rw [e]
  unfold lc_left_on_1
  refine lc_map TR.zipIdx (fun q : Tray × Nat => PyData.tuple [.int ((q.2 : Nat) : Int), tD q.1]) _ (by rfl) (by simp [trD, enum_zip]) fun q hq => ⟨[some (.d (trD TR)), some (.d (wsD WS)), some (.d (.tuple (X.map rowP))), some (.d (.int (q.2 : Nat))), some (.d (tD q.1)), none], ?_, ?_⟩
  · rw [gTup2 (by simp) (by simp)]; rfl
  · have h3 : toV (e2 ixD (rVar 4) (vC (.int 3))) [some (.d (trD TR)), some (.d (wsD WS)), some (.d (.tuple (X.map rowP))), some (.d (.int (q.2 : Nat))), some (.d (tD q.1)), none] = .ok (.int q.1.c) := by simp [tD, rowT, Tray.row, atI, ixN]
    rw [toV_s, e2_s, h3]
    simp only [toV_s, eCall_s, evalAll_cons, evalAll_nil, lcl0, Rz.bind_ok, g1_s, sumD_ints, ofO_some', rs_eq, sub_i]
theorem m_left_on_ok (hc : m__check [some (.d (trD TR)), some (.d (wsD WS))] = .ok .none) (hv : formB TR.length WS.length v = true → v = .tuple (X.map rowP) ∧ XOk TR.length WS.length X) : m_left_on [some (.d (trD TR)), some (.d (wsD WS)), some (.d v)] = if isNoneD (dueM TR WS v X) = true then .ok (.tuple ((leftL TR X).map .int)) else .ex 3 := by
  unfold m_left_on
  have et : (t2 notN (vFn m__fault [(vVar 0), (vVar 1), (vVar 2)]) (vC .none)) [some (.d (trD TR)), some (.d (wsD WS)), some (.d v), none, none, none] = .ok (!isNoneD (dueM TR WS v X)) := by
    simp only [t2_s, vFn_s, evalAll_cons, evalAll_nil, vVar_s, List.getElem?_cons_succ, List.getElem?_cons_zero, Rz.bind_ok, List.map_cons, List.map_nil, m_fault_ok hv, vC_s]
    rfl
  cases hn : isNoneD (dueM TR WS v X) with
  | true =>
    rw [if_pos rfl]
    refine fn_rt (M := [some (.d (trD TR)), some (.d (wsD WS)), some (.d v), none, none, none]) rfl ?_
    unfold b_left_on
    rw [seq_nx (m' := [some (.d (trD TR)), some (.d (wsD WS)), some (.d v), none, none, none]) (expr_nx (x := .none) (by simp [hc]))]
    rw [seq_nx (m' := [some (.d (trD TR)), some (.d (wsD WS)), some (.d v), none, none, none]) (by rw [sIf_f (et.trans (by rw [hn]; rfl))]; rfl)]
    have hf : formB TR.length WS.length v = true := by
      cases h : formB TR.length WS.length v with
      | true => rfl
      | false => unfold dueM at hn; rw [h, if_neg (by decide)] at hn; cases hn
    obtain ⟨rfl, _⟩ := hv hf
    refine ret_rt ?_
    simp only [toV_s, eCall_s, evalAll_cons, evalAll_nil, lcl1, Rz.bind_ok, g1_s, tupleD_l, ofO_some']
  | false =>
    rw [if_neg (by decide)]
    refine fn_ex (M := [some (.d (trD TR)), some (.d (wsD WS)), some (.d v), none, none, none]) (m' := [some (.d (trD TR)), some (.d (wsD WS)), some (.d v), none, none, none]) rfl ?_
    unfold b_left_on
    rw [seq_nx (m' := [some (.d (trD TR)), some (.d (wsD WS)), some (.d v), none, none, none]) (expr_nx (x := .none) (by simp [hc]))]
    refine seq_ex ?_
    rw [sIf_t (et.trans (by rw [hn]; rfl))]
    rfl
/-! ### the law's own look at rows -/
def mD (TR : List Tray) (WS : List Wish) (v : PyData) (wrong much few x y z r k : Option W) : Ms := [some (.d (trD TR)), some (.d (wsD WS)), some (.d v), wrong, much, few, x, y, z, r, k]
theorem lcd0 {xs : List PyData} : lc__law_met_due_0 (mD TR WS (.tuple xs) none none none none none none none none) = .ok (.l (xs.map fun z => .bool (isLen 3 z))) := by
  unfold lc__law_met_due_0
  refine lc_map xs id _ (by rfl) (by simp [mD]) fun z hz => ⟨mD TR WS (.tuple xs) none none none none none none (some (.d z)) none, by simp [mD], ?_⟩
  cases z <;> simp [isLen, mD]
  rename_i ys
  by_cases h : ys.length = 3
  · simp [h]
  · have : (ys.length : Int) ≠ 3 := by omega
    simp [h, this]
theorem fbd1 {x y z : PyData} : fb__law_met_due_1 (mD TR WS v none none none (some (.d x)) (some (.d y)) (some (.d z)) none none) = if rowB TR.length WS.length (.tuple [x, y, z]) = true then .nx (mD TR WS v none none none none none none none none) else .rt (.tuple [.str "form"]) := by
  unfold fb__law_met_due_1
  by_cases ha : numB x 0 ((TR.length : Int) - 1) = true
  · by_cases hb : numB y 0 ((WS.length : Int) - 1) = true
    · by_cases hc : numB z 1 50 = true
      · simp [mD, trD, wsD, m_number_ok, rowB, ha, hb, hc]
      · simp [mD, trD, wsD, m_number_ok, rowB, ha, hb, hc]
    · simp [mD, trD, wsD, m_number_ok, rowB, ha, hb]
  · simp [mD, trD, wsD, m_number_ok, rowB, ha]
theorem key_cut (p : (Nat × Nat) × Int) : cutL [PyData.int (p.1.1 : Nat), .int (p.1.2 : Nat), .int p.2] none (some 2) = [.int (p.1.1 : Nat), .int (p.1.2 : Nat)] := takeN _ 2
theorem lcd2 : lc__law_met_due_2 (mD TR WS (.tuple (X.map rowP)) none none none none none none none none) = .ok (.l ((X.map keyX).map rowT)) := by
  rw [List.map_map]
  unfold lc__law_met_due_2
  refine lc_map X rowP _ (by rfl) (by simp [mD]) fun p hp => ⟨mD TR WS (.tuple (X.map rowP)) none none none none none none (some (.d (rowP p))) none, by simp [mD], ?_⟩
  simp [mD, rowP_eq, key_cut, keyX, rowT]
theorem lcd3 : lc__law_met_due_3 (mD TR WS (.tuple (X.map rowP)) none none none none none none none none) = .ok (.l ((X.map keyX).map rowT)) := by
  rw [List.map_map]
  unfold lc__law_met_due_3
  refine lc_map X rowP _ (by rfl) (by simp [mD]) fun p hp => ⟨mD TR WS (.tuple (X.map rowP)) none none none none none none (some (.d (rowP p))) none, by simp [mD], ?_⟩
  simp [mD, rowP_eq, key_cut, keyX, rowT]
theorem lcd4 (hX : XOk TR.length WS.length X) : lc__law_met_due_4 (mD TR WS (.tuple (X.map rowP)) none none none none none none none none) = .ok (.l ((X.filter fun p => !hasX TR WS p).map rowP)) := by
  unfold lc__law_met_due_4
  refine lc_fil X rowP (fun p => !hasX TR WS p) _ (by rfl) (by simp [mD]) fun p hp => ⟨mD TR WS (.tuple (X.map rowP)) none none none none none none (some (.d (rowP p))) none, by simp [mD], ?_, fun _ => by simp [mD]⟩
  have hb := hX.b p hp
  obtain ⟨t, ht⟩ : ∃ t, TR[p.1.1]? = some t := ⟨_, List.getElem?_eq_getElem hb.1⟩
  obtain ⟨w, hw⟩ : ∃ w, WS[p.1.2]? = some w := ⟨_, List.getElem?_eq_getElem hb.2.1⟩
  have e : hasX TR WS p = hasB t w.k w.d := by unfold hasX; rw [ht, hw]
  simp only [mD, tNot_s, tV_s, vFn_s, evalAll_cons, evalAll_nil, toV_s, e2_s, rVar_s, List.getElem?_cons_succ, List.getElem?_cons_zero, Rz.bind_ok, rowP_eq, trD, wsD, ix_t, vC_s, atI_0, atI_1, Option.map_some, ofO_some', tr_at ht, ws_at hw, List.map_cons, List.map_nil, m_law_has_ok, boolD_s, rz_map_ok, e]
theorem lcd5 {w m f : Option W} {k : Nat} : lc__law_met_due_5 (mD TR WS (.tuple (X.map rowP)) w m f none none none none (some (.d (.int (k : Nat))))) = .ok (.l (((X.filter fun p => decide (p.1.1 = k)).map (·.2)).map .int)) := by
  rw [List.map_map]
  unfold lc__law_met_due_5
  refine lc_fil X rowP (fun p => decide (p.1.1 = k)) _ (by rfl) (by simp [mD]) fun p hp => ⟨mD TR WS (.tuple (X.map rowP)) w m f none none none (some (.d (rowP p))) (some (.d (.int (k : Nat)))), by simp [mD], ?_, fun _ => ?_⟩
  · simp only [mD, t2_s, toV_s, e2_s, rVar_s, List.getElem?_cons_succ, List.getElem?_cons_zero, Rz.bind_ok, rowP_eq, ix_t, vC_s, atI_0, Option.map_some, ofO_some', eq_i]
    congr 1
    rw [Bool.eq_iff_iff, beq_iff_eq, decide_eq_true_eq]
    omega
  · simp [mD, rowP_eq]
theorem lcd7 {w m f : Option W} {k : Nat} : lc__law_met_due_7 (mD TR WS (.tuple (X.map rowP)) w m f none none none none (some (.d (.int (k : Nat))))) = .ok (.l (((X.filter fun p => decide (p.1.2 = k)).map (·.2)).map .int)) := by
  rw [List.map_map]
  unfold lc__law_met_due_7
  refine lc_fil X rowP (fun p => decide (p.1.2 = k)) _ (by rfl) (by simp [mD]) fun p hp => ⟨mD TR WS (.tuple (X.map rowP)) w m f none none none (some (.d (rowP p))) (some (.d (.int (k : Nat)))), by simp [mD], ?_, fun _ => ?_⟩
  · simp only [mD, t2_s, toV_s, e2_s, rVar_s, List.getElem?_cons_succ, List.getElem?_cons_zero, Rz.bind_ok, rowP_eq, ix_t, vC_s, atI_1, Option.map_some, ofO_some', eq_i]
    congr 1
    rw [Bool.eq_iff_iff, beq_iff_eq, decide_eq_true_eq]
    omega
  · simp [mD, rowP_eq]
theorem rng_len0 {m : Ms} (h : m[0]? = some (some (.d (trD TR)))) (hn : TR.length ≤ 1000) : iArg rng1 [(toV (eCall (g1 lenD) [(rVar 0)]))] m = .ok ((List.range TR.length).map fun (i : Nat) => PyData.int i) := by
  rw [← rngL_map, iArg_s]
  simp only [evalAll_cons, evalAll_nil, toV_s, eCall_s, rVar_s, h, Rz.bind_ok, g1_s, trD, lenD_t, ofO_some', List.length_map]
  exact rngN hn
theorem rng_len1 {m : Ms} (h : m[1]? = some (some (.d (wsD WS)))) (hn : WS.length ≤ 1000) : iArg rng1 [(toV (eCall (g1 lenD) [(rVar 1)]))] m = .ok ((List.range WS.length).map fun (i : Nat) => PyData.int i) := by
  rw [← rngL_map, iArg_s]
  simp only [evalAll_cons, evalAll_nil, toV_s, eCall_s, rVar_s, h, Rz.bind_ok, g1_s, wsD, lenD_t, ofO_some', List.length_map]
  exact rngN hn
theorem lcd6 {w m f : Option W} (hn : TR.length ≤ 1000) : lc__law_met_due_6 (mD TR WS (.tuple (X.map rowP)) w m f none none none none none) = .ok (.l (((List.range TR.length).filter fun k => decide (cT TR k < rowSum X k)).map fun (i : Nat) => PyData.int i)) := by
  unfold lc__law_met_due_6
  refine lc_fil (List.range TR.length) (fun (i : Nat) => PyData.int i) (fun k => decide (cT TR k < rowSum X k)) _ (by rfl) (rng_len0 rfl hn) fun k hk => ⟨mD TR WS (.tuple (X.map rowP)) w m f none none none none (some (.d (.int (k : Nat)))), by simp [mD], ?_, fun _ => by simp [mD]⟩
  obtain ⟨t, ht⟩ : ∃ t, TR[k]? = some t := ⟨_, List.getElem?_eq_getElem (List.mem_range.mp hk)⟩
  have h3 : toV (e2 ixD (toV (e2 ixD (rVar 0) (rVar 10))) (vC (.int 3))) (mD TR WS (.tuple (X.map rowP)) w m f none none none none (some (.d (.int (k : Nat))))) = .ok (.int (cT TR k)) := by
    have e : cT TR k = t.c := by unfold cT; rw [ht]
    simp only [mD, toV_s, e2_s, rVar_s, List.getElem?_cons_succ, List.getElem?_cons_zero, Rz.bind_ok, trD, ix_t, tr_at ht, Option.map_some, ofO_some', vC_s, e]
    simp [tD, rowT, Tray.row, atI, ixN]
  rw [t2_s, h3]
  simp only [toV_s, eCall_s, evalAll_cons, evalAll_nil, lcd5, Rz.bind_ok, g1_s, sumD_ints, ofO_some', rs_eq, gt_i]
theorem lcd8 {w m f : Option W} (hn : WS.length ≤ 1000) : lc__law_met_due_8 (mD TR WS (.tuple (X.map rowP)) w m f none none none none none) = .ok (.l (((List.range WS.length).filter fun k => !decide (colSum X k = cW WS k)).map fun (i : Nat) => PyData.int i)) := by
  unfold lc__law_met_due_8
  refine lc_fil (List.range WS.length) (fun (i : Nat) => PyData.int i) (fun k => !decide (colSum X k = cW WS k)) _ (by rfl) (rng_len1 rfl hn) fun k hk => ⟨mD TR WS (.tuple (X.map rowP)) w m f none none none none (some (.d (.int (k : Nat)))), by simp [mD], ?_, fun _ => by simp [mD]⟩
  obtain ⟨t, ht⟩ : ∃ t, WS[k]? = some t := ⟨_, List.getElem?_eq_getElem (List.mem_range.mp hk)⟩
  have h3 : toV (e2 ixD (toV (e2 ixD (rVar 1) (rVar 10))) (vC (.int 2))) (mD TR WS (.tuple (X.map rowP)) w m f none none none none (some (.d (.int (k : Nat))))) = .ok (.int (cW WS k)) := by
    have e : cW WS k = t.c := by unfold cW; rw [ht]
    simp only [mD, toV_s, e2_s, rVar_s, List.getElem?_cons_succ, List.getElem?_cons_zero, Rz.bind_ok, wsD, ix_t, ws_at ht, Option.map_some, ofO_some', vC_s, e]
    simp
  rw [t2_s, h3]
  simp only [toV_s, eCall_s, evalAll_cons, evalAll_nil, lcd7, Rz.bind_ok, g1_s, sumD_ints, ofO_some', cs_eq, ne_i]
  by_cases h : colSum X k = cW WS k <;> simp [h]
theorem key_code (hn : TR.length ≤ 1000) (hm : WS.length ≤ 1000) (hX : XOk TR.length WS.length X) : AllR ssetB 2 (X.map keyX) := fun r hr => by
  obtain ⟨p, hp, rfl⟩ := List.mem_map.mp hr
  have := hX.b p hp
  refine ⟨rfl, fun m hm => ?_⟩
  simp only [ssetB]
  simp only [keyX, List.mem_cons, List.not_mem_nil, or_false] at hm
  omega
theorem len_pos {α : Type} (L : List α) (g : α → PyData) {m : Ms} {i : Nat} (h : m[i]? = some (some (.d (.list (L.map g))))) : t2 gtD (toV (eCall (g1 lenD) [(rVar i)])) (vC (.int 0)) m = .ok (L.head?.isSome) := by
  simp only [t2_s, toV_s, eCall_s, evalAll_cons, evalAll_nil, rVar_s, h, Rz.bind_ok, g1_s, lenD_l, ofO_some', vC_s, gt_i, List.length_map]
  cases L with
  | nil => rfl
  | cons a L => simp
theorem rowP_inj (p q : (Nat × Nat) × Int) (h : rowP p = rowP q) : p = q := by
  rw [rowP_eq, rowP_eq] at h
  simp only [PyData.tuple.injEq, List.cons.injEq, PyData.int.injEq, and_true] at h
  obtain ⟨⟨a, b⟩, c⟩ := p
  obtain ⟨⟨a', b'⟩, c'⟩ := q
  simp only at h
  have h1 : a = a' := by omega
  have h2 : b = b' := by omega
  rw [h1, h2, h.2.2]
theorem m_law_met_due_ok (hn : TR.length ≤ 1000) (hm : WS.length ≤ 1000) (hv : formB TR.length WS.length v = true → v = .tuple (X.map rowP) ∧ XOk TR.length WS.length X) (hl : ∀ xs, v = .tuple xs → xs.length < 64) : m__law_met_due [some (.d (trD TR)), some (.d (wsD WS)), some (.d v)] = .ok (dueM TR WS v X) := by
  unfold m__law_met_due
  refine fn_rt (M := mD TR WS v none none none none none none none none) rfl ?_
  unfold b__law_met_due
  cases v with
  | tuple xs =>
    have lx := hl xs rfl
    cases h3 : xs.all (isLen 3) with
    | false =>
      have e5 : formB TR.length WS.length (.tuple xs) = false := by
        refine formB_no ?_
        rw [Bool.eq_false_iff]
        intro z
        rw [Bool.eq_false_iff] at h3
        apply h3
        rw [List.all_eq_true] at z ⊢
        exact fun w hw => rowB_3 (z w hw)
      refine seq_rt ?_
      unfold dueM
      rw [sIf_t (show _ = Rz.ok true by
        rw [or_f (by simp [mD])]
        simp only [tNot_s, tV_s, toV_s, eCall_s, evalAll_cons, evalAll_nil, lcd0, Rz.bind_ok, g1_s, allD_map, h3, ofO_some', boolD_s, rz_map_ok]
        rfl), e5]
      rfl
    | true =>
      rw [seq_nx (m' := mD TR WS (.tuple xs) none none none none none none none none) (by
        rw [sIf_f (show _ = Rz.ok false by
          rw [or_f (by simp [mD])]
          simp only [tNot_s, tV_s, toV_s, eCall_s, evalAll_cons, evalAll_nil, lcd0, Rz.bind_ok, g1_s, allD_map, h3, ofO_some', boolD_s, rz_map_ok]
          rfl)]
        rfl)]
      have z := goFor_all (s := gTup' 3 (gCons (gSet 6) (gCons (gSet 7) (gCons (gSet 8) gNil)))) (b := fb__law_met_due_1) (fun m => m = mD TR WS (.tuple xs) none none none none none none none none) (rowB TR.length WS.length) (.tuple [.str "form"]) xs _ rfl fun y hy m hm => by
        subst hm
        obtain ⟨ys, rfl, hl⟩ := isLen_eq (List.all_eq_true.mp h3 y hy)
        obtain ⟨a, b, c, rfl⟩ := len3 hl
        refine ⟨mD TR WS (.tuple xs) none none none (some (.d a)) (some (.d b)) (some (.d c)) none none, by simp [mD], fun h => ⟨_, by rw [fbd1, if_pos h], rfl⟩, fun h => by rw [fbd1, if_neg (by simp [h])]⟩
      cases hr : xs.all (rowB TR.length WS.length) with
      | false =>
        unfold dueM
        rw [formB_no hr]
        refine seq_rt (cut_rt ?_)
        rw [sPre_s, sFor_s]
        exact z.2 hr
      | true =>
        obtain ⟨m', e, rfl⟩ := z.1 hr
        rw [seq_nx (m' := mD TR WS (.tuple xs) none none none none none none none none) (by
          refine cut_nx (m' := mD TR WS (.tuple xs) none none none none none none none none) ?_
          rw [sPre_s, sFor_s]
          exact e)]
        obtain ⟨Y, rfl, hY⟩ := ms_of hr
        rw [List.length_map] at lx
        obtain ⟨S, es, hs⟩ := sortD_rows (x := .list ((Y.map keyX).map rowT)) (R := Y.map keyX) rfl (by rw [List.length_map]; exact lx) ⟨2, by decide, key_code hn hm hY⟩
        have et : (t2 neD (toV lc__law_met_due_2) (toV (eSsetG (toV lc__law_met_due_3)))) (mD TR WS (.tuple (Y.map rowP)) none none none none none none none none) = .ok (!ascR (Y.map keyX)) := by
          have ed : decide (Y.map keyX = S) = ascR (Y.map keyX) := by rw [Bool.eq_iff_iff, decide_eq_true_eq]; exact hs
          simp only [t2_s, toV_s, eSsetG_s, lcd2, lcd3, Rz.bind_ok, es, ofO_some', ne_rows, ed]
        unfold dueM
        cases ha : ascR (Y.map keyX) with
        | false =>
          rw [formB_X hY, ha]
          refine seq_rt ?_
          rw [sIf_t (et.trans (by rw [ha]; rfl))]
          rfl
        | true =>
          have hf : formB TR.length WS.length (.tuple (Y.map rowP)) = true := by rw [formB_X hY, ha]
          obtain ⟨exy, hX⟩ := hv hf
          have exy' : Y.map rowP = X.map rowP := by simpa using exy
          rw [hf, if_pos rfl]
          obtain rfl : X = Y := ((List.map_inj_right rowP_inj).mp exy').symm
          rw [seq_nx (m' := mD TR WS (.tuple (X.map rowP)) none none none none none none none none) (by rw [sIf_f (et.trans (by rw [ha]; rfl))]; rfl)]
          rw [seq_nx (m' := mD TR WS (.tuple (X.map rowP)) (some (.d (.list ((X.filter fun p => !hasX TR WS p).map rowP)))) none none none none none none none) (by rw [sPost_s, set_nx (lcd4 hX) (by simp [mD])]; rfl)]
          unfold dueX
          cases h0 : (X.filter fun p => !hasX TR WS p).head? with
          | some p =>
            refine seq_rt ?_
            rw [sIf_t ((len_pos (X.filter fun p => !hasX TR WS p) rowP (by rfl)).trans (by rw [h0]; rfl))]
            refine ret_rt ?_
            have h00 : ((X.filter fun p => !hasX TR WS p).map rowP)[0]? = some (rowP p) := by rw [← List.head?_eq_getElem?, List.head?_map, h0]; rfl
            simp only [toV_s, e2_s, eTup_s, evalAll_cons, evalAll_nil, vC_s, Rz.bind_ok, rz_map_ok, eSl_s, mD, rVar_s, List.getElem?_cons_succ, List.getElem?_cons_zero, ix_l, atI_0, h00, Option.map_some, ofO_some', oNone_s, oSome_s, intD_s, rowP_eq, slD_t, key_cut]
            rfl
          | none =>
            rw [seq_nx (m' := mD TR WS (.tuple (X.map rowP)) (some (.d (.list ((X.filter fun p => !hasX TR WS p).map rowP)))) none none none none none none none) (by
              rw [sIf_f ((len_pos (X.filter fun p => !hasX TR WS p) rowP (by rfl)).trans (by rw [h0]; rfl))]; rfl)]
            rw [seq_nx (m' := mD TR WS (.tuple (X.map rowP)) (some (.d (.list ((X.filter fun p => !hasX TR WS p).map rowP)))) (some (.d (.list (((List.range TR.length).filter fun k => decide (cT TR k < rowSum X k)).map fun (i : Nat) => PyData.int i)))) none none none none none none) (by rw [sPost_s, set_nx (lcd6 hn) (by simp [mD])]; rfl)]
            cases h1 : ((List.range TR.length).filter fun k => decide (cT TR k < rowSum X k)).head? with
            | some k =>
              refine seq_rt ?_
              rw [sIf_t ((len_pos ((List.range TR.length).filter fun k => decide (cT TR k < rowSum X k)) (fun (i : Nat) => PyData.int i) (by rfl)).trans (by rw [h1]; rfl))]
              refine ret_rt ?_
              have h00 : (((List.range TR.length).filter fun k => decide (cT TR k < rowSum X k)).map fun (i : Nat) => PyData.int i)[0]? = some (.int (k : Nat)) := by rw [← List.head?_eq_getElem?, List.head?_map, h1]; rfl
              simp only [toV_s, e2_s, eTup_s, evalAll_cons, evalAll_nil, vC_s, Rz.bind_ok, rz_map_ok, mD, rVar_s, List.getElem?_cons_succ, List.getElem?_cons_zero, ix_l, atI_0, h00, Option.map_some, ofO_some']
            | none =>
              rw [seq_nx (m' := mD TR WS (.tuple (X.map rowP)) (some (.d (.list ((X.filter fun p => !hasX TR WS p).map rowP)))) (some (.d (.list (((List.range TR.length).filter fun k => decide (cT TR k < rowSum X k)).map fun (i : Nat) => PyData.int i)))) none none none none none none) (by
                rw [sIf_f ((len_pos ((List.range TR.length).filter fun k => decide (cT TR k < rowSum X k)) (fun (i : Nat) => PyData.int i) (by rfl)).trans (by rw [h1]; rfl))]; rfl)]
              rw [seq_nx (m' := mD TR WS (.tuple (X.map rowP)) (some (.d (.list ((X.filter fun p => !hasX TR WS p).map rowP)))) (some (.d (.list (((List.range TR.length).filter fun k => decide (cT TR k < rowSum X k)).map fun (i : Nat) => PyData.int i)))) (some (.d (.list (((List.range WS.length).filter fun k => !decide (colSum X k = cW WS k)).map fun (i : Nat) => PyData.int i)))) none none none none none) (by rw [sPost_s, set_nx (lcd8 hm) (by simp [mD])]; rfl)]
              refine ret_rt ?_
              have hp := len_pos (m := mD TR WS (.tuple (X.map rowP)) (some (.d (.list ((X.filter fun p => !hasX TR WS p).map rowP)))) (some (.d (.list (((List.range TR.length).filter fun k => decide (cT TR k < rowSum X k)).map fun (i : Nat) => PyData.int i)))) (some (.d (.list (((List.range WS.length).filter fun k => !decide (colSum X k = cW WS k)).map fun (i : Nat) => PyData.int i)))) none none none none none) (i := 5) ((List.range WS.length).filter fun k => !decide (colSum X k = cW WS k)) (fun (i : Nat) => PyData.int i) (by rfl)
              rw [vIf_s, hp]
              cases h2 : ((List.range WS.length).filter fun k => !decide (colSum X k = cW WS k)).head? with
              | some k =>
                have h00 : (((List.range WS.length).filter fun k => !decide (colSum X k = cW WS k)).map fun (i : Nat) => PyData.int i)[0]? = some (.int (k : Nat)) := by rw [← List.head?_eq_getElem?, List.head?_map, h2]; rfl
                simp only [Option.isSome, Rz.bind_ok, if_true, toV_s, e2_s, eTup_s, evalAll_cons, evalAll_nil, vC_s, rz_map_ok, mD, rVar_s, List.getElem?_cons_succ, List.getElem?_cons_zero, ix_l, atI_0, h00, Option.map_some, ofO_some']
              | none => rfl
  | _ => exact seq_rt (by rw [sIf_t (by rw [or_t (by rfl)])]; rfl)
end
end Dl
set_option Elab.async false
set_option linter.all false
set_option maxRecDepth 100000
namespace Dl
open PySem PySem.Spec PyProof.Rows L2
/-! ### days that are told -/
def ascI (R : List Int) : Bool := (R.zip R.tail).all fun p => decide (p.1 < p.2)
theorem ascI_iff : ∀ {R : List Int}, ascI R = true ↔ R.Pairwise (· < ·)
  | [] => by simp [ascI]
  | [x] => by simp [ascI]
  | x :: y :: r => by
    have ih := ascI_iff (R := y :: r)
    have e : ascI (x :: y :: r) = (decide (x < y) && ascI (y :: r)) := rfl
    rw [e, Bool.and_eq_true, ih, decide_eq_true_eq]
    constructor
    · rintro ⟨h1, h2⟩
      refine List.pairwise_cons.mpr ⟨fun z hz => ?_, h2⟩
      rcases List.mem_cons.mp hz with rfl | hz
      · exact h1
      · have := (List.pairwise_cons.mp h2).1 z hz; omega
    · intro h
      obtain ⟨h1, h2⟩ := List.pairwise_cons.mp h
      exact ⟨h1 y (by simp), h2⟩
theorem zip_ints : ∀ {R S : List Int}, zipL (R.map .int) (S.map .int) = (R.zip S).map fun p => .tuple [.int p.1, .int p.2]
  | [], _ => by simp [zipL]
  | _ :: _, [] => by simp [zipL]
  | x :: R, y :: S => by rw [List.map_cons, List.map_cons, zipL, zip_ints]; rfl
theorem m_ascends_ints {R : List Int} : m_ascends [some (.d (.tuple (R.map .int)))] = .ok (.bool (ascI R)) := by
  have h : lc_ascends_0 [some (.d (.tuple (R.map .int))), none, none] = .ok (.l ((R.zip R.tail).map fun p => .bool (decide (p.1 < p.2)))) := by
    unfold lc_ascends_0
    refine lc_map (R.zip R.tail) (fun p => .tuple [.int p.1, .int p.2]) _ (by rfl) ?_ fun p hp => ⟨[some (.d (.tuple (R.map .int))), some (.d (.int p.1)), some (.d (.int p.2))], by simp, ?_⟩
    · simp [drop1, ← zip_ints, List.map_tail]
    · simp
  unfold m_ascends b_ascends
  simp [h, ascI]
theorem isort_iff {ds : List Int} : ds = isort ds ↔ ascI ds = true := by
  rw [ascI_iff]
  exact ⟨fun e => by rw [e]; exact isort_pw, fun h => isort_eq h fun k => Iff.rfl⟩
theorem ssetG_ints {x : PyData} {ds : List Int} (hx : itemsD x = some (ds.map .int)) (hl : ds.length < 64) : ssetG x = some (.l ((isort ds).map .int)) := by
  unfold ssetG
  have : ssetI x = some (.l ((isort ds).map .int)) := by
    unfold ssetI
    rw [hx, Option.bind_some, intsOf_map, Option.bind_some, if_pos hl]
  rw [this]
theorem ne_ints (xs ys : List Int) : neD (.list (xs.map .int)) (.list (ys.map .int)) = some (!decide (xs = ys)) := by
  unfold neD
  have h1 := PySem.W.depth_ints xs
  rw [if_pos (by simp only [PyData.depth]; omega)]
  simp only [PyData.eqv, eqv_ints]
theorem mem_ints {d : Int} {ds : List Int} : memD (.int d) (.tuple (ds.map .int)) = some (decide (d ∈ ds)) := by
  unfold memD
  dsimp only
  rw [if_pos (by simp [PyData.depth])]
  congr 1
  rw [Bool.eq_iff_iff, List.any_eq_true, decide_eq_true_eq]
  constructor
  · rintro ⟨x, hx, e⟩
    obtain ⟨n, hn, rfl⟩ := List.mem_map.mp hx
    simp only [PyData.eqv, beq_iff_eq] at e
    rw [← e]; exact hn
  · intro h
    exact ⟨.int d, List.mem_map_of_mem (f := PyData.int) h, by simp [PyData.eqv]⟩
def dayB (v : PyData) : Bool := numB v 0 13
theorem days_of : ∀ {xs : List PyData}, xs.all dayB = true → ∃ ds : List Int, xs = ds.map .int ∧ ∀ d ∈ ds, 0 ≤ d ∧ d ≤ 13
  | [], _ => ⟨[], rfl, fun _ h => absurd h List.not_mem_nil⟩
  | x :: xs, h => by
    rw [List.all_cons, Bool.and_eq_true] at h
    obtain ⟨ds, e, hd⟩ := days_of h.2
    obtain ⟨i, rfl, h1, h2⟩ := numB_int h.1
    refine ⟨i :: ds, by rw [e]; rfl, fun d hd' => ?_⟩
    rcases List.mem_cons.mp hd' with rfl | hd'
    · exact ⟨h1, h2⟩
    · exact hd d hd'
def okD (kind days : PyData) : Bool := numB kind 0 5 && match days with
  | .tuple xs => xs.all dayB && match intsOf xs with
    | some ds => ascI ds
    | none => false
  | _ => false
theorem okD_ints {k : Int} {ds : List Int} (hk : numB (.int k) 0 5 = true) (h : (ds.map PyData.int).all dayB = true) : okD (.int k) (.tuple (ds.map .int)) = ascI ds := by
  unfold okD
  rw [hk]
  dsimp only
  rw [h, intsOf_map]; rfl
def wishedN (WS : List Wish) (k : Int) (ds : List Int) : Int := ((WS.filter fun w => w.k == k && decide (w.d ∈ ds)).map Wish.c).sum
def thereN (TR : List Tray) (k : Int) (ds : List Int) : Int := ((TR.filter fun t => ds.any (hasB t k)).map Tray.c).sum
def dueD (TR : List Tray) (WS : List Wish) (kind days : PyData) (k : Int) (ds : List Int) : PyData := if okD kind days = true then (if wishedN WS k ds ≤ thereN TR k ds then .tuple [.str "enough", .int (thereN TR k ds - wishedN WS k ds)] else .none) else .tuple [.str "form"]
section
variable {TR : List Tray} {WS : List Wish} {kind days : PyData} {k : Int} {ds : List Int}
def dS (TR : List Tray) (WS : List Wish) (kind days : PyData) (a b c d e f : Option W) : Ms := [some (.d (trD TR)), some (.d (wsD WS)), some (.d kind), some (.d days), a, b, c, d, e, f]
theorem lcx0 {xs : List PyData} : lc_days_fault_0 (dS TR WS kind (.tuple xs) none none none none none none) = .ok (.l (xs.map fun z => .bool (dayB z))) := by
  unfold lc_days_fault_0
  refine lc_map xs id _ (by rfl) (by simp [dS]) fun z hz => ⟨dS TR WS kind (.tuple xs) none none none none (some (.d z)) none, by simp [dS], ?_⟩
  simp [dS, m_is_whole_ok, dayB]
theorem lcx1 {a b c : Option W} : lc_days_fault_1 (dS TR WS (.int k) (.tuple (ds.map .int)) a b c none none none) = .ok (.l (((WS.filter fun w => w.k == k && decide (w.d ∈ ds)).map Wish.c).map .int)) := by
  rw [List.map_map]
  unfold lc_days_fault_1
  refine lc_fil WS wD (fun w => w.k == k && decide (w.d ∈ ds)) _ (by rfl) (by simp [dS, wsD]) fun w hw => ⟨dS TR WS (.int k) (.tuple (ds.map .int)) a b c (some (.d (.int w.k))) (some (.d (.int w.d))) (some (.d (.int w.c))), ?_, ?_, fun _ => by simp [dS]⟩
  · show gTup' 3 _ (.tuple [.int w.k, .int w.d, .int w.c]) _ = _
    rw [gTup3 (by simp [dS]) (by simp [dS]) (by simp [dS])]; rfl
  · simp only [dS, tAnd_s, t2_s, rVar_s, List.getElem?_cons_succ, List.getElem?_cons_zero, Rz.bind_ok, eq_i, ofO_some', mem_ints]
    cases (w.k == k) <;> rfl
theorem lcx2 {a b : Option W} {t : Tray} : lc_days_fault_2 (dS TR WS (.int k) (.tuple (ds.map .int)) a b (some (.d (tD t))) none none none) = .ok (.l (ds.map fun d => .bool (hasB t k d))) := by
  unfold lc_days_fault_2
  refine lc_map ds PyData.int _ (by rfl) (by simp [dS]) fun d hd => ⟨dS TR WS (.int k) (.tuple (ds.map .int)) a b (some (.d (tD t))) none (some (.d (.int d))) none, by simp [dS], ?_⟩
  simp only [dS, vFn_s, evalAll_cons, evalAll_nil, vVar_s, List.getElem?_cons_succ, List.getElem?_cons_zero, Rz.bind_ok, List.map_cons, List.map_nil, m_has_ok]
theorem lcx3 {a b : Option W} : lc_days_fault_3 (dS TR WS (.int k) (.tuple (ds.map .int)) a b none none none none) = .ok (.l (((TR.filter fun t => ds.any (hasB t k)).map Tray.c).map .int)) := by
  rw [List.map_map]
  unfold lc_days_fault_3
  refine lc_fil TR tD (fun t => ds.any (hasB t k)) _ (by rfl) (by simp [dS, trD]) fun t ht => ⟨dS TR WS (.int k) (.tuple (ds.map .int)) a b (some (.d (tD t))) none none none, by simp [dS], ?_, fun _ => ?_⟩
  · simp only [tV_s, toV_s, eCall_s, evalAll_cons, evalAll_nil, lcx2, Rz.bind_ok, g1_s, anyD_map, ofO_some', boolD_s]
  · simp [dS, tD, rowT, Tray.row, atI, ixN]
theorem okD_kind (h : numB kind 0 5 = false) : okD kind days = false := by unfold okD; rw [h]; rfl
theorem m_days_fault_ok (hc : m__check [some (.d (trD TR)), some (.d (wsD WS))] = .ok .none) (hv : okD kind days = true → kind = .int k ∧ days = .tuple (ds.map .int)) : m_days_fault [some (.d (trD TR)), some (.d (wsD WS)), some (.d kind), some (.d days)] = .ok (dueD TR WS kind days k ds) := by
  unfold m_days_fault
  refine fn_rt (M := dS TR WS kind days none none none none none none) rfl ?_
  unfold b_days_fault
  rw [seq_nx (m' := dS TR WS kind days none none none none none none) (expr_nx (x := .none) (by simp [dS, hc]))]
  have form : dueD TR WS kind days k ds = .tuple [.str "form"] ∨ okD kind days = true := by
    unfold dueD
    cases okD kind days <;> simp
  have e1 : (tOr' (tNot' (tV' (vFn m_is_whole [(vVar 2), (vC (.int 0)), (vC (.int 5))]))) (tNot' (tV' (vIsi isTup (rVar 3))))) (dS TR WS kind days none none none none none none) = .ok (!numB kind 0 5 || !isTup days) := by
    simp only [dS, tOr_s, tNot_s, tV_s, vFn_s, evalAll_cons, evalAll_nil, vVar_s, vC_s, List.getElem?_cons_succ, List.getElem?_cons_zero, Rz.bind_ok, List.map_cons, List.map_nil, m_is_whole_ok, boolD_s, rz_map_ok, vIsi_s, rVar_s]
    cases numB kind 0 5 <;> rfl
  cases h1 : (!numB kind 0 5 || !isTup days) with
  | true =>
    have ho : okD kind days = false := by
      rw [Bool.or_eq_true] at h1
      rcases h1 with h1 | h1
      · exact okD_kind (by simpa using h1)
      · cases days with
        | tuple xs => cases h1
        | _ => unfold okD; simp
    have ef := form.resolve_right (by rw [ho]; decide)
    rw [ef]
    refine seq_rt ?_
    rw [sIf_t (e1.trans (by rw [h1]))]
    rfl
  | false =>
    rw [seq_nx (m' := dS TR WS kind days none none none none none none) (by rw [sIf_f (e1.trans (by rw [h1]))]; rfl)]
    rw [Bool.or_eq_false_iff] at h1
    have hk : numB kind 0 5 = true := by simpa using h1.1
    obtain ⟨k', rfl, _⟩ := numB_int hk
    cases days with
    | tuple xs =>
      cases h2 : xs.all dayB with
      | false =>
        have ho : okD (.int k') (.tuple xs) = false := by unfold okD; simp [h2]
        have ef := form.resolve_right (by rw [ho]; decide)
        rw [ef]
        refine seq_rt ?_
        rw [sIf_t (show _ = Rz.ok true by
          rw [or_t]
          simp only [tNot_s, tV_s, toV_s, eCall_s, evalAll_cons, evalAll_nil, lcx0, Rz.bind_ok, g1_s, allD_map, h2, ofO_some', boolD_s, rz_map_ok]
          rfl)]
        rfl
      | true =>
        obtain ⟨es, rfl, _⟩ := days_of h2
        have eo := okD_ints hk h2
        have e2 : (tOr' (tNot' (tV' (toV (eCall (g1 allD) [(toV lc_days_fault_0)])))) (tNot' (tV' (vFn m_ascends [(vVar 3)])))) (dS TR WS (.int k') (.tuple (es.map .int)) none none none none none none) = .ok (!ascI es) := by
          rw [or_f]
          · simp only [dS, tNot_s, tV_s, vFn_s, evalAll_cons, evalAll_nil, vVar_s, List.getElem?_cons_succ, List.getElem?_cons_zero, Rz.bind_ok, List.map_cons, List.map_nil, m_ascends_ints, boolD_s, rz_map_ok]
          · simp only [tNot_s, tV_s, toV_s, eCall_s, evalAll_cons, evalAll_nil, lcx0, Rz.bind_ok, g1_s, allD_map, h2, ofO_some', boolD_s, rz_map_ok]
            rfl
        cases ha : ascI es with
        | false =>
          have ef := form.resolve_right (by rw [eo, ha]; decide)
          rw [ef]
          refine seq_rt ?_
          rw [sIf_t (e2.trans (by rw [ha]; rfl))]
          rfl
        | true =>
          obtain ⟨z1, z2⟩ := hv (by rw [eo, ha])
          cases z1
          have z2 : es.map PyData.int = ds.map .int := by simpa using z2
          have z3 := congrArg intsOf z2
          rw [intsOf_map, intsOf_map] at z3
          have z4 : es = ds := Option.some.inj z3
          subst z4
          rw [seq_nx (m' := dS TR WS (.int k) (.tuple (es.map .int)) none none none none none none) (by rw [sIf_f (e2.trans (by rw [ha]; rfl))]; rfl)]
          rw [seq_nx (m' := dS TR WS (.int k) (.tuple (es.map .int)) (some (.d (.int (wishedN WS k es)))) none none none none none) (by
            refine set_nx (w := .d (.int (wishedN WS k es))) ?_ (by simp [dS])
            simp only [ofV_s, toV_s, eCall_s, evalAll_cons, evalAll_nil, lcx1, Rz.bind_ok, g1_s, sumD_ints, ofO_some', rz_map_ok, wishedN])]
          rw [seq_nx (m' := dS TR WS (.int k) (.tuple (es.map .int)) (some (.d (.int (wishedN WS k es)))) (some (.d (.int (thereN TR k es)))) none none none none) (by
            refine set_nx (w := .d (.int (thereN TR k es))) ?_ (by simp [dS])
            simp only [ofV_s, toV_s, eCall_s, evalAll_cons, evalAll_nil, lcx3, Rz.bind_ok, g1_s, sumD_ints, ofO_some', rz_map_ok, thereN])]
          refine ret_rt ?_
          unfold dueD
          rw [eo, ha, if_pos rfl]
          by_cases hle : wishedN WS k es ≤ thereN TR k es
          · have hn : ¬ thereN TR k es < wishedN WS k es := by omega
            rw [if_pos hle]
            simp [dS, hn, hle]
          · have hn : thereN TR k es < wishedN WS k es := by omega
            rw [if_neg hle]
            simp [dS, hn]
    | _ => cases h1.2
/-! ### the law's own look at days -/
def eS (TR : List Tray) (WS : List Wish) (kind days : PyData) (a b c d e : Option W) : Ms := [some (.d (trD TR)), some (.d (wsD WS)), some (.d kind), some (.d days), a, b, c, d, e]
theorem lcy0 {xs : List PyData} : lc__law_days_due_0 (eS TR WS kind (.tuple xs) none none none none none) = .ok (.l (xs.map fun z => .bool (dayB z))) := by
  unfold lc__law_days_due_0
  refine lc_map xs id _ (by rfl) (by simp [eS]) fun z hz => ⟨eS TR WS kind (.tuple xs) none none none none (some (.d z)), by simp [eS], ?_⟩
  simp [eS, m_number_ok, dayB]
theorem lcy1 {a b : Option W} : lc__law_days_due_1 (eS TR WS (.int k) (.tuple (ds.map .int)) a b none none none) = .ok (.l (((WS.filter fun w => w.k == k && decide (w.d ∈ ds)).map Wish.c).map .int)) := by
  rw [List.map_map]
  unfold lc__law_days_due_1
  refine lc_fil WS wD (fun w => w.k == k && decide (w.d ∈ ds)) _ (by rfl) (by simp [eS, wsD]) fun w hw => ⟨eS TR WS (.int k) (.tuple (ds.map .int)) a b (some (.d (.tuple [.int w.k, .int w.d, .int w.c]))) none none, by simp [eS, wD, rowT, Wish.row], ?_, fun _ => by simp [eS]⟩
  simp only [eS, tAnd_s, t2_s, toV_s, e2_s, rVar_s, vC_s, List.getElem?_cons_succ, List.getElem?_cons_zero, Rz.bind_ok, ix_t, atI_0, atI_1, Option.map_some, eq_i, ofO_some', mem_ints]
  cases (w.k == k) <;> rfl
theorem lcy2 {a b c : Option W} {t : Tray} : lc__law_days_due_2 (eS TR WS (.int k) (.tuple (ds.map .int)) a b c (some (.d (tD t))) none) = .ok (.l (ds.map fun d => .bool (hasB t k d))) := by
  unfold lc__law_days_due_2
  refine lc_map ds PyData.int _ (by rfl) (by simp [eS]) fun d hd => ⟨eS TR WS (.int k) (.tuple (ds.map .int)) a b c (some (.d (tD t))) (some (.d (.int d))), by simp [eS], ?_⟩
  simp only [eS, vFn_s, evalAll_cons, evalAll_nil, vVar_s, eTup_s, rz_map_ok, List.getElem?_cons_succ, List.getElem?_cons_zero, Rz.bind_ok, List.map_cons, List.map_nil, m_law_has_ok]
theorem lcy3 {a b : Option W} : lc__law_days_due_3 (eS TR WS (.int k) (.tuple (ds.map .int)) a b none none none) = .ok (.l (((TR.filter fun t => ds.any (hasB t k)).map Tray.c).map .int)) := by
  rw [List.map_map]
  unfold lc__law_days_due_3
  refine lc_fil TR tD (fun t => ds.any (hasB t k)) _ (by rfl) (by simp [eS, trD]) fun t ht => ⟨eS TR WS (.int k) (.tuple (ds.map .int)) a b none (some (.d (tD t))) none, by simp [eS], ?_, fun _ => ?_⟩
  · simp only [tV_s, toV_s, eCall_s, evalAll_cons, evalAll_nil, lcy2, Rz.bind_ok, g1_s, anyD_map, ofO_some', boolD_s]
  · simp [eS, tD, rowT, Tray.row, atI, ixN]
theorem m_law_days_due_ok (hv : okD kind days = true → kind = .int k ∧ days = .tuple (ds.map .int)) (hl : ∀ xs, days = .tuple xs → xs.length < 64) : m__law_days_due [some (.d (trD TR)), some (.d (wsD WS)), some (.d kind), some (.d days)] = .ok (dueD TR WS kind days k ds) := by
  unfold m__law_days_due
  refine fn_rt (M := eS TR WS kind days none none none none none) rfl ?_
  unfold b__law_days_due
  have form : dueD TR WS kind days k ds = .tuple [.str "form"] ∨ okD kind days = true := by
    unfold dueD
    cases okD kind days <;> simp
  have e1 : (tOr' (tNot' (tV' (vFn m__law_is_number [(vVar 2), (vC (.int 0)), (vC (.int 5))]))) (tOr' (tNot' (tV' (vIsi isTup (rVar 3)))) (tOr' (tNot' (tV' (toV (eCall (g1 allD) [(toV lc__law_days_due_0)])))) (t2 neD (toV (eCall (g1 listD) [(rVar 3)])) (toV (eSsetG (rVar 3))))))) (eS TR WS kind days none none none none none) = .ok (!okD kind days) := by
    have t1 : (tNot' (tV' (vFn m__law_is_number [(vVar 2), (vC (.int 0)), (vC (.int 5))]))) (eS TR WS kind days none none none none none) = .ok (!numB kind 0 5) := by
      simp only [eS, tNot_s, tV_s, vFn_s, evalAll_cons, evalAll_nil, vVar_s, vC_s, List.getElem?_cons_succ, List.getElem?_cons_zero, Rz.bind_ok, List.map_cons, List.map_nil, m_number_ok, boolD_s, rz_map_ok]
    cases hk : numB kind 0 5 with
    | false => rw [or_t (t1.trans (by rw [hk]; rfl)), okD_kind hk]; rfl
    | true =>
      rw [or_f (t1.trans (by rw [hk]; rfl))]
      obtain ⟨k', rfl, _⟩ := numB_int hk
      cases days with
      | tuple xs =>
        rw [or_f (by simp [eS])]
        have t3 : (tNot' (tV' (toV (eCall (g1 allD) [(toV lc__law_days_due_0)])))) (eS TR WS (.int k') (.tuple xs) none none none none none) = .ok (!xs.all dayB) := by
          simp only [tNot_s, tV_s, toV_s, eCall_s, evalAll_cons, evalAll_nil, lcy0, Rz.bind_ok, g1_s, allD_map, ofO_some', boolD_s, rz_map_ok]
        cases h2 : xs.all dayB with
        | false =>
          rw [or_t (t3.trans (by rw [h2]; rfl))]
          have ho : okD (.int k') (.tuple xs) = false := by unfold okD; simp [h2]
          rw [ho]; rfl
        | true =>
          rw [or_f (t3.trans (by rw [h2]; rfl))]
          obtain ⟨es, rfl, _⟩ := days_of h2
          rw [okD_ints hk h2]
          have hl' := hl _ rfl
          rw [List.length_map] at hl'
          have ed : decide (es = isort es) = ascI es := by rw [Bool.eq_iff_iff, decide_eq_true_eq]; exact isort_iff
          simp only [eS, t2_s, toV_s, eCall_s, eSsetG_s, evalAll_cons, evalAll_nil, rVar_s, List.getElem?_cons_succ, List.getElem?_cons_zero, Rz.bind_ok, g1_s, listD_t, ofO_some', ssetG_ints (x := .tuple (es.map .int)) rfl hl', ne_ints, ed]
      | _ => rw [or_t (by rfl)]; unfold okD; simp
  cases ho : okD kind days with
  | false =>
    have ef := form.resolve_right (by rw [ho]; decide)
    rw [ef]
    refine seq_rt ?_
    rw [sIf_t (e1.trans (by rw [ho]; rfl))]
    rfl
  | true =>
    obtain ⟨rfl, rfl⟩ := hv ho
    rw [seq_nx (m' := eS TR WS (.int k) (.tuple (ds.map .int)) none none none none none) (by rw [sIf_f (e1.trans (by rw [ho]; rfl))]; rfl)]
    rw [seq_nx (m' := eS TR WS (.int k) (.tuple (ds.map .int)) (some (.d (.int (wishedN WS k ds)))) none none none none) (by
      refine set_nx (w := .d (.int (wishedN WS k ds))) ?_ (by simp [eS])
      simp only [ofV_s, toV_s, eCall_s, evalAll_cons, evalAll_nil, lcy1, Rz.bind_ok, g1_s, sumD_ints, ofO_some', rz_map_ok, wishedN])]
    rw [seq_nx (m' := eS TR WS (.int k) (.tuple (ds.map .int)) (some (.d (.int (wishedN WS k ds)))) (some (.d (.int (thereN TR k ds)))) none none none) (by
      refine set_nx (w := .d (.int (thereN TR k ds))) ?_ (by simp [eS])
      simp only [ofV_s, toV_s, eCall_s, evalAll_cons, evalAll_nil, lcy3, Rz.bind_ok, g1_s, sumD_ints, ofO_some', rz_map_ok, thereN])]
    refine ret_rt ?_
    unfold dueD
    rw [ho, if_pos rfl]
    by_cases hle : wishedN WS k ds ≤ thereN TR k ds
    · have hn : ¬ thereN TR k ds < wishedN WS k ds := by omega
      rw [if_pos hle]
      simp [eS, hn, hle]
    · have hn : thereN TR k ds < wishedN WS k ds := by omega
      rw [if_neg hle]
      simp [eS, hn]
end
end Dl
set_option Elab.async false
set_option linter.all false
set_option maxRecDepth 100000
namespace Dl
open PySem PySem.Spec PyProof.Rows L2
theorem sum_perm {l l' : List Int} (h : l.Perm l') : l.sum = l'.sum := by
  induction h with
  | nil => rfl
  | cons x _ ih => simp [ih]
  | swap x y l => simp; omega
  | trans _ _ h1 h2 => exact h1.trans h2
def leX (p q : (Nat × Nat) × Int) : Bool := leR (rowM p) (rowM q)
def sortM (M : Ms3) : Ms3 := M.mergeSort leX
theorem sortM_perm (M : Ms3) : (sortM M).Perm M := List.mergeSort_perm _ _
theorem sortM_rows (M : Ms3) : (metRows M).map rowT = (sortM M).map rowP := by
  unfold metRows sortM
  rw [rowP_map, List.map_mergeSort (r := leX) (s := leR) (fun a _ b _ => rfl)]
theorem row_lt {p q : (Nat × Nat) × Int} (h : leX p q = true) (hne : p.1 ≠ q.1) : keyX p < keyX q := by
  unfold leX leR at h
  simp only [Bool.not_eq_true', decide_eq_false_iff_not] at h
  obtain ⟨⟨a, b⟩, c⟩ := p
  obtain ⟨⟨a', b'⟩, c'⟩ := q
  simp only [rowM, List.cons_lt_cons_iff, not_or, not_and] at h
  simp only [keyX, List.cons_lt_cons_iff]
  obtain ⟨h1, h2⟩ := h
  by_cases e : (a : Int) < a'
  · exact .inl e
  · have ea : (a' : Int) = a := by omega
    obtain ⟨h3, h4⟩ := h2 ea
    refine .inr ⟨ea.symm, .inl ?_⟩
    by_cases e2 : (b : Int) < b'
    · exact e2
    · exfalso
      apply hne
      show (a, b) = (a', b')
      have h5 : a = a' := by omega
      have h6 : b = b' := by omega
      rw [h5, h6]
section
variable {TR : List Tray} {WS : List Wish} {L K : List Int} {M : Ms3} {s : Nat} {w : Wish}
theorem sort_asc (nd : (M.map (·.1)).Nodup) : ascR ((sortM M).map keyX) = true := by
  have h1 : (sortM M).Pairwise fun a b => leX a b = true := List.pairwise_mergeSort (le := leX) (fun a b c => leR_trans (a := rowM a) (b := rowM b) (c := rowM c)) (fun a b => leR_total (rowM a) (rowM b)) _
  have h2 : ((sortM M).map (·.1)).Nodup := ((sortM_perm M).map (·.1)).nodup_iff.mpr nd
  rw [ascR_iff, List.pairwise_map]
  unfold List.Nodup at h2
  rw [List.pairwise_map] at h2
  exact (h1.and h2).imp fun {a b} ⟨h, ne⟩ => row_lt h ne
theorem colS_perm {X : Ms3} (h : X.Perm M) (j : Nat) : colSum X j = colSum M j := sum_perm (h.map _)
theorem rowS_perm {X : Ms3} (h : X.Perm M) (j : Nat) : rowSum X j = rowSum M j := sum_perm (h.map _)
theorem le_sum {f : (Nat × Nat) × Int → Int} : ∀ {X : Ms3}, (∀ p ∈ X, 0 ≤ f p) → ∀ p ∈ X, f p ≤ (X.map f).sum
  | [], _, p, hp => absurd hp List.not_mem_nil
  | q :: X, h, p, hp => by
    have hs : 0 ≤ (X.map f).sum := by
      have : ∀ Y : Ms3, (∀ p ∈ Y, 0 ≤ f p) → 0 ≤ (Y.map f).sum := fun Y => by
        induction Y with
        | nil => intro _; exact Int.le_refl _
        | cons y Y ih =>
          intro hY
          rw [List.map_cons, List.sum_cons]
          have := ih fun z hz => hY z (List.mem_cons_of_mem _ hz)
          have := hY y (by simp)
          omega
      exact this X fun z hz => h z (List.mem_cons_of_mem _ hz)
    rw [List.map_cons, List.sum_cons]
    rcases List.mem_cons.mp hp with rfl | hp
    · omega
    · have := le_sum (f := f) (fun z hz => h z (List.mem_cons_of_mem _ hz)) p hp
      have := h q (by simp)
      omega
/-- the rows that met tells are without fault -/
theorem met_none (f : Flow TR WS L M K) (hT : ∀ t ∈ TR, t.Ok) (hz : shortN K = []) : XOk TR.length WS.length (sortM M) ∧ formB TR.length WS.length (.tuple ((sortM M).map rowP)) = true ∧ dueX TR WS (sortM M) = .none := by
  have pm := sortM_perm M
  have hX : XOk TR.length WS.length (sortM M) := ⟨fun p hp => by
    have hp' := pm.mem_iff.mp hp
    have h1 := f.lt1 p hp'
    have h2 := f.lt2 p hp'
    obtain ⟨_, h3, _⟩ := f.gi.rw p hp'
    refine ⟨h1, h2, by omega, ?_⟩
    obtain ⟨t, ht⟩ : ∃ t, TR[p.1.1]? = some t := ⟨_, List.getElem?_eq_getElem h1⟩
    have h4 := f.gx.rs p.1.1 t ht
    have h5 := f.gx.nl p.1.1
    simp only at h4 h5
    have h6 := (hT t (List.mem_of_getElem? ht)).2.2.2.2.2.2.2
    have h7 : p.2 ≤ rowSum M p.1.1 := by
      have := le_sum (f := fun q => if q.1.1 = p.1.1 then q.2 else 0) (X := M) (fun q hq => by
        have := (f.gi.rw q hq).2.1
        split <;> omega) p hp'
      simpa [rowSum] using this
    omega⟩
  have hf : formB TR.length WS.length (.tuple ((sortM M).map rowP)) = true := by rw [formB_X hX, sort_asc f.gi.nd]
  refine ⟨hX, hf, ?_⟩
  have mem0 : ∀ j, ¬ 0 < K.getD j 0 := fun j h => by
    rw [List.getD_eq_getElem?_getD] at h
    cases e : K[j]? with
    | none => rw [e] at h; simp at h
    | some c =>
      rw [e] at h
      have : j ∈ shortN K := by
        unfold shortN
        exact List.mem_map.mpr ⟨(c, j), List.mem_filter.mpr ⟨List.mem_zipIdx_iff_getElem?.mpr e, decide_eq_true h⟩, rfl⟩
      rw [hz] at this; cases this
  have e1 : (sortM M).filter (fun p => !hasX TR WS p) = [] := by
    rw [List.filter_eq_nil_iff]
    intro p hp
    obtain ⟨t, u, h1, h2, h3⟩ := f.adj (pm.mem_iff.mp hp)
    unfold hasX
    rw [h1, h2]
    simp [h3]
  have e2 : (List.range TR.length).filter (fun k => decide (cT TR k < rowSum (sortM M) k)) = [] := by
    rw [List.filter_eq_nil_iff]
    intro k hk
    have h1 := f.row (List.mem_range.mp hk)
    have h2 := f.gx.nl k
    simp only at h2
    rw [rowS_perm pm, decide_eq_true_eq]
    omega
  have e3 : (List.range WS.length).filter (fun k => !decide (colSum (sortM M) k = cW WS k)) = [] := by
    rw [List.filter_eq_nil_iff]
    intro k hk
    have h1 := f.col (List.mem_range.mp hk)
    have h2 := f.gx.nk k
    have h3 := mem0 k
    simp only at h2
    have : colSum M k = cW WS k := by omega
    rw [colS_perm pm, this]
    simp
  unfold dueX
  rw [e1, e2, e3]
  rfl
def dsF (WS : List Wish) (F : List Nat) : List Int := (F.map (dayN WS)).mergeSort leI
theorem dsF_mem {F : List Nat} {d : Int} : d ∈ dsF WS F ↔ ∃ j ∈ F, dayN WS j = d := by
  unfold dsF
  rw [List.mem_mergeSort, List.mem_map]
/-- the days that met tells are without fault -/
theorem short_none (f : Flow TR WS L M K) (hW : ∀ w ∈ WS, w.Ok) (hs : WS[s]? = some w) (h0 : 0 < K.getD s 0) {F : List Nat} (nd : F.Nodup) (hF : ∀ x, x ∈ F ↔ Rch TR WS (M.map (·.1)) w.k s x) :
    okD (.int w.k) (.tuple ((dsF WS F).map .int)) = true ∧ dueD TR WS (.int w.k) (.tuple ((dsF WS F).map .int)) w.k (dsF WS F) = .none := by
  have kind : ∀ j ∈ F, ∃ u, WS[j]? = some u ∧ u.k = w.k := fun j hj => dn_kind f hs (rch_dn f hs h0 ((hF j).mp hj))
  have inj : ∀ i ∈ F, ∀ j ∈ F, dayN WS i = dayN WS j → i = j := fun i hi j hj e => by
    obtain ⟨u, hu, ku⟩ := kind i hi
    obtain ⟨v, hv, kv⟩ := kind j hj
    rw [day_of hu, day_of hv] at e
    rcases Nat.lt_trichotomy i j with z | z | z
    · have := f.od i j u v hu hv z (ku.trans kv.symm); omega
    · exact z
    · have := f.od j i v u hv hu z (kv.trans ku.symm); omega
  have hk : numB (.int w.k) 0 5 = true := by
    have := hW w (List.mem_of_getElem? hs)
    exact numB_of this.1 this.2.1
  have hd : ((dsF WS F).map PyData.int).all dayB = true := by
    rw [List.all_eq_true]
    intro x hx
    obtain ⟨d, hd, rfl⟩ := List.mem_map.mp hx
    obtain ⟨j, hj, rfl⟩ := dsF_mem.mp hd
    obtain ⟨u, hu, _⟩ := kind j hj
    have := hW u (List.mem_of_getElem? hu)
    rw [day_of hu]
    exact numB_of this.2.2.1 this.2.2.2.1
  have ha : ascI (dsF WS F) = true := by
    rw [ascI_iff]
    have h1 : (dsF WS F).Pairwise fun a b => leI a b = true := List.pairwise_mergeSort (le := leI) (fun a b c h1 h2 => by
      unfold leI at *; rw [decide_eq_true_eq] at *; omega) (fun a b => by
      unfold leI; rw [Bool.or_eq_true, decide_eq_true_eq, decide_eq_true_eq]; omega) _
    have h2 : (dsF WS F).Nodup := by
      have : (F.map (dayN WS)).Nodup := by
        unfold List.Nodup
        rw [List.pairwise_map]
        exact nd.imp_of_mem fun {a b} ha hb hne e => hne (inj a ha b hb e)
      exact (List.mergeSort_perm _ _).nodup_iff.mpr this
    refine (h1.and h2).imp fun {a b} ⟨h, ne⟩ => ?_
    unfold leI at h
    rw [decide_eq_true_eq] at h
    omega
  have ho : okD (.int w.k) (.tuple ((dsF WS F).map .int)) = true := by rw [okD_ints hk hd, ha]
  refine ⟨ho, ?_⟩
  have e1 : wishedN WS w.k (dsF WS F) = sumR WS.length (fun j => if decide (j ∈ F) = true then cW WS j else 0) := by
    unfold wishedN
    rw [sum_filter]
    refine sum_idx fun j u hu => ?_
    have : decide (j ∈ F) = (u.k == w.k && decide (u.d ∈ dsF WS F)) := by
      rw [Bool.eq_iff_iff, decide_eq_true_eq, Bool.and_eq_true, beq_iff_eq, decide_eq_true_eq, dsF_mem]
      constructor
      · intro hj
        obtain ⟨v, hv, kv⟩ := kind j hj
        rw [hu] at hv; cases hv
        exact ⟨kv, j, hj, day_of hu⟩
      · rintro ⟨hk, i, hi, e⟩
        obtain ⟨v, hv, kv⟩ := kind i hi
        rw [day_of hv] at e
        rcases Nat.lt_trichotomy i j with z | z | z
        · have := f.od i j v u hv hu z (kv.trans hk.symm); omega
        · rw [← z]; exact hi
        · have := f.od j i u v hu hv z (hk.trans kv.symm); omega
    rw [this]
    unfold cW
    rw [hu]
  have e2 : thereN TR w.k (dsF WS F) = sumR TR.length (fun a => if nearB TR WS (fun j => decide (j ∈ F)) a = true then cT TR a else 0) := by
    unfold thereN
    rw [sum_filter]
    refine sum_idx fun a t ht => ?_
    have : nearB TR WS (fun j => decide (j ∈ F)) a = (dsF WS F).any (hasB t w.k) := by
      rw [Bool.eq_iff_iff, nearB_iff, List.any_eq_true]
      constructor
      · rintro ⟨j, hj, t', u, ht', hu, hh⟩
        rw [ht] at ht'; cases ht'
        have hj := of_decide_eq_true hj
        obtain ⟨v, hv, kv⟩ := kind j hj
        rw [hu] at hv; cases hv
        exact ⟨u.d, dsF_mem.mpr ⟨j, hj, day_of hu⟩, by rw [← kv]; exact hh⟩
      · rintro ⟨d, hd, hh⟩
        obtain ⟨j, hj, e⟩ := dsF_mem.mp hd
        obtain ⟨v, hv, kv⟩ := kind j hj
        rw [day_of hv] at e
        exact ⟨j, decide_eq_true hj, t, v, ht, hv, by rw [kv, e]; exact hh⟩
    rw [this]
    unfold cT
    rw [ht]
  have hlt := cl_more f (cl_reach f hs h0 hF) (List.getElem?_eq_some_iff.mp hs).1 (decide_eq_true ((hF s).mpr .start)) h0
  unfold dueD
  rw [ho, if_pos rfl, if_neg]
  rw [e1, e2]
  omega
end
end Dl
set_option Elab.async false
set_option linter.all false
set_option maxRecDepth 100000
namespace Dl
open PySem PySem.Spec PyProof.Rows L2
section
variable {TR : List Tray} {WS : List Wish} {L K : List Int} {M X : Ms3} {s : Nat} {w : Wish}
theorem dueX_none (h : dueX TR WS X = .none) : (∀ p ∈ X, hasX TR WS p = true) ∧ (∀ k, k < TR.length → rowSum X k ≤ cT TR k) ∧ ∀ k, k < WS.length → colSum X k = cW WS k := by
  unfold dueX at h
  cases h0 : (X.filter fun p => !hasX TR WS p).head? with
  | some p => rw [h0] at h; cases h
  | none =>
    rw [h0] at h
    dsimp only at h
    cases h1 : ((List.range TR.length).filter fun k => decide (cT TR k < rowSum X k)).head? with
    | some k => rw [h1] at h; cases h
    | none =>
      rw [h1] at h
      dsimp only at h
      cases h2 : ((List.range WS.length).filter fun k => !decide (colSum X k = cW WS k)).head? with
      | some k => rw [h2] at h; cases h
      | none =>
        rw [List.head?_eq_none_iff, List.filter_eq_nil_iff] at h0 h1 h2
        refine ⟨fun p hp => ?_, fun k hk => ?_, fun k hk => ?_⟩
        · have := h0 p hp; simpa using this
        · have := h1 k (List.mem_range.mpr hk)
          rw [decide_eq_true_eq] at this; omega
        · have := h2 k (List.mem_range.mpr hk)
          simpa using this
/-- rows without fault are there only when all is met -/
theorem not_both (f : Flow TR WS L M K) (hs : WS[s]? = some w) (h0 : 0 < K.getD s 0) {F : List Nat} (hF : ∀ x, x ∈ F ↔ Rch TR WS (M.map (·.1)) w.k s x) (hX : XOk TR.length WS.length X) (hd : dueX TR WS X = .none) : False := by
  obtain ⟨d1, d2, d3⟩ := dueX_none hd
  have c := cl_reach f hs h0 hF
  have hlt := cl_more f c (List.getElem?_eq_some_iff.mp hs).1 (decide_eq_true ((hF s).mpr .start)) h0
  have e1 : sumR WS.length (fun j => if decide (j ∈ F) = true then cW WS j else 0) = sumR WS.length (fun j => if decide (j ∈ F) = true then colSum X j else 0) := sumR_congr fun j hj => by rw [d3 j hj]
  rw [e1, col_total (S := fun j => decide (j ∈ F)) fun p hp => (hX.b p hp).2.1] at hlt
  have h3 : (X.map fun p => if decide (p.1.2 ∈ F) = true then p.2 else 0).sum ≤ (X.map fun p => if nearB TR WS (fun j => decide (j ∈ F)) p.1.1 = true then p.2 else 0).sum := by
    have : ∀ Y : Ms3, (∀ p ∈ Y, p ∈ X) → (Y.map fun p => if decide (p.1.2 ∈ F) = true then p.2 else 0).sum ≤ (Y.map fun p => if nearB TR WS (fun j => decide (j ∈ F)) p.1.1 = true then p.2 else 0).sum := fun Y => by
      induction Y with
      | nil => intro _; exact Int.le_refl _
      | cons p Y ih =>
        intro hY
        have h := ih fun q hq => hY q (List.mem_cons_of_mem _ hq)
        rw [List.map_cons, List.map_cons, List.sum_cons, List.sum_cons]
        have hp := hY p (by simp)
        have pos := (hX.b p hp).2.2.1
        by_cases hS : p.1.2 ∈ F
        · have hn : nearB TR WS (fun j => decide (j ∈ F)) p.1.1 = true := by
            have hh := d1 p hp
            unfold hasX at hh
            cases ht : TR[p.1.1]? with
            | none => rw [ht] at hh; cases hh
            | some t =>
              cases hu : WS[p.1.2]? with
              | none => rw [ht, hu] at hh; cases hh
              | some u =>
                rw [ht, hu] at hh
                exact nearB_iff.mpr ⟨p.1.2, decide_eq_true hS, t, u, ht, hu, hh⟩
          rw [if_pos (decide_eq_true hS), if_pos hn]; omega
        · rw [if_neg (by simp [hS])]
          split <;> omega
    exact this X fun _ h => h
  rw [← row_total (S := nearB TR WS fun j => decide (j ∈ F)) fun p hp => (hX.b p hp).1] at h3
  have h4 : sumR TR.length (fun a => if nearB TR WS (fun j => decide (j ∈ F)) a = true then rowSum X a else 0) ≤ sumR TR.length (fun a => if nearB TR WS (fun j => decide (j ∈ F)) a = true then cT TR a else 0) := sumR_le fun a ha => by
    have := d2 a ha
    split <;> omega
  omega
/-- when all is met, no days tell that it is not -/
theorem met_days (f : Flow TR WS L M K) (hz : shortN K = []) (k : Int) (ds : List Int) : wishedN WS k ds ≤ thereN TR k ds := by
  have e0 : ∀ j, j < WS.length → colSum M j = cW WS j := fun j hj => by
    have h1 := f.col hj
    have h2 := f.gx.nk j
    simp only at h2
    have h3 : ¬ 0 < K.getD j 0 := fun h => by
      rw [List.getD_eq_getElem?_getD] at h
      cases e : K[j]? with
      | none => rw [e] at h; simp at h
      | some c =>
        rw [e] at h
        have : j ∈ shortN K := by
          unfold shortN
          exact List.mem_map.mpr ⟨(c, j), List.mem_filter.mpr ⟨List.mem_zipIdx_iff_getElem?.mpr e, decide_eq_true h⟩, rfl⟩
        rw [hz] at this; cases this
    omega
  have S : Nat → Bool := fun _ => true
  have e1 : wishedN WS k ds = sumR WS.length (fun j => if (match WS[j]? with | some u => u.k == k && decide (u.d ∈ ds) | none => false) = true then colSum M j else 0) := by
    unfold wishedN
    rw [sum_filter]
    refine sum_idx fun j u hu => ?_
    rw [hu, e0 j (List.getElem?_eq_some_iff.mp hu).1]
    unfold cW
    rw [hu]
  have e2 : thereN TR k ds = sumR TR.length (fun a => if (match TR[a]? with | some t => ds.any (hasB t k) | none => false) = true then cT TR a else 0) := by
    unfold thereN
    rw [sum_filter]
    refine sum_idx fun a t ht => ?_
    unfold cT
    rw [ht]
  rw [e1, e2, col_total (S := fun j => match WS[j]? with | some u => u.k == k && decide (u.d ∈ ds) | none => false) f.lt2]
  have h3 : ∀ Y : Ms3, (∀ p ∈ Y, p ∈ M) → (Y.map fun p => if (match WS[p.1.2]? with | some u => u.k == k && decide (u.d ∈ ds) | none => false) = true then p.2 else 0).sum ≤ (Y.map fun p => if (match TR[p.1.1]? with | some t => ds.any (hasB t k) | none => false) = true then p.2 else 0).sum := fun Y => by
    induction Y with
    | nil => intro _; exact Int.le_refl _
    | cons p Y ih =>
      intro hY
      have h := ih fun q hq => hY q (List.mem_cons_of_mem _ hq)
      rw [List.map_cons, List.map_cons, List.sum_cons, List.sum_cons]
      have hp := hY p (by simp)
      have pos := (f.gi.rw p hp).2.1
      obtain ⟨t, u, ht, hu, hh⟩ := f.adj hp
      rw [ht, hu]
      dsimp only
      by_cases hS : (u.k == k && decide (u.d ∈ ds)) = true
      · have hn : ds.any (hasB t k) = true := by
          rw [Bool.and_eq_true, beq_iff_eq, decide_eq_true_eq] at hS
          rw [List.any_eq_true]
          exact ⟨u.d, hS.2, by rw [← hS.1]; exact hh⟩
        rw [if_pos hS, if_pos hn]; omega
      · rw [if_neg hS]
        split <;> omega
  refine Int.le_trans (h3 M fun _ h => h) ?_
  rw [← row_total (S := fun a => match TR[a]? with | some t => ds.any (hasB t k) | none => false) f.lt1]
  refine sumR_le fun a ha => ?_
  have h1 := f.row ha
  have h2 := f.gx.nl a
  simp only at h2
  generalize (match TR[a]? with | some t => ds.any (hasB t k) | none => false) = b
  cases b with
  | true => rw [if_pos rfl, if_pos rfl]; omega
  | false => exact Int.le_refl _
/-- such an X is there for every value -/
theorem x_of (v : PyData) (n m : Nat) : ∃ X : Ms3, formB n m v = true → v = .tuple (X.map rowP) ∧ XOk n m X := by
  cases h : formB n m v with
  | false => exact ⟨[], fun z => by cases z⟩
  | true =>
    unfold formB at h
    split at h
    · rw [Bool.and_eq_true] at h
      obtain ⟨X, e, hX⟩ := ms_of h.1
      exact ⟨X, fun _ => ⟨by rw [e], hX⟩⟩
    · cases h
theorem d_of (kind days : PyData) : ∃ (k : Int) (ds : List Int), okD kind days = true → kind = .int k ∧ days = .tuple (ds.map .int) := by
  cases h : okD kind days with
  | false => exact ⟨0, [], fun z => by cases z⟩
  | true =>
    unfold okD at h
    rw [Bool.and_eq_true] at h
    obtain ⟨k, rfl, _⟩ := numB_int h.1
    cases days with
    | tuple xs =>
      obtain ⟨ds, rfl, _⟩ := days_of (Bool.and_eq_true _ _ ▸ h.2).1
      exact ⟨k, ds, fun _ => ⟨rfl, rfl⟩⟩
    | _ => cases h.2
/-- a due is alike to itself -/
theorem ne_due (v : PyData) : neD (dueM TR WS v X) (dueM TR WS v X) = some false := by
  unfold dueM dueX
  split
  · split
    · simp [neD, PyData.depth, PyData.depthAll, PyData.eqv, PyData.eqvAll]
    · split
      · simp [neD, PyData.depth, PyData.depthAll, PyData.eqv, PyData.eqvAll]
      · split
        · simp [neD, PyData.depth, PyData.depthAll, PyData.eqv, PyData.eqvAll]
        · simp [neD, PyData.depth, PyData.eqv]
  · simp [neD, PyData.depth, PyData.depthAll, PyData.eqv, PyData.eqvAll]
theorem ne_dueD (a b : PyData) (k : Int) (ds : List Int) : neD (dueD TR WS a b k ds) (dueD TR WS a b k ds) = some false := by
  unfold dueD
  split
  · split
    · simp [neD, PyData.depth, PyData.depthAll, PyData.eqv, PyData.eqvAll]
    · simp [neD, PyData.depth, PyData.eqv]
  · simp [neD, PyData.depth, PyData.depthAll, PyData.eqv, PyData.eqvAll]
end
end Dl
set_option Elab.async false
set_option linter.all false
set_option maxRecDepth 100000
namespace Dl
open PySem PySem.Spec PyProof.Rows L2
theorem eqS (s t : Str) : eqD (.str s) (.str t) = some (s == t) := by simp [eqD, PyData.depth, PyData.eqv]
theorem neS (s t : Str) : neD (.str s) (.str t) = some (!(s == t)) := by simp [neD, PyData.depth, PyData.eqv]
theorem neT_ints (xs ys : List Int) : neD (.tuple (xs.map .int)) (.tuple (ys.map .int)) = some (!decide (xs = ys)) := by
  unfold neD
  have h1 := PySem.W.depth_ints xs
  rw [if_pos (by simp only [PyData.depth]; omega)]
  simp only [PyData.eqv, eqv_ints]
def vS (D : List Int) (o turn trays wishes told base pairs k bent value days drawn kind one due left : Option W) : Ms := [o, some (.d (.list (D.map .int))), turn, trays, wishes, told, base, pairs, k, bent, value, days, drawn, kind, one, due, left, none, none, none, none, none]
/-- a value whose rows are few -/
def VS (v : PyData) : Prop := ∀ xs, v = .tuple xs → xs.length < 64
theorem VS.tup {xs : List PyData} (h : xs.length < 64) : VS (.tuple xs) := fun ys e => by cases e; exact h
theorem VS.no {v : PyData} (h : ∀ xs, v ≠ .tuple xs) : VS v := fun xs e => absurd e (h xs)
section
variable {D : List Int} {o turn base pairs k bent value days drawn kind one due left : Option W} {TR : List Tray} {WS : List Wish} {X : Ms3} {v : PyData}
theorem m_law_left_ok (hc : m__check [some (.d (trD TR)), some (.d (wsD WS))] = .ok .none) (hv : formB TR.length WS.length v = true → v = .tuple (X.map rowP) ∧ XOk TR.length WS.length X) : m__law_left [some (.d (trD TR)), some (.d (wsD WS)), some (.d v)] = .ok (if isNoneD (dueM TR WS v X) = true then .tuple ((leftL TR X).map .int) else .str "rows") := by
  have hl := m_left_on_ok hc hv
  unfold m__law_left
  refine fn_rt (M := [some (.d (trD TR)), some (.d (wsD WS)), some (.d v), none]) rfl ?_
  unfold b__law_left
  have hb : vFn m_left_on [(vVar 0), (vVar 1), (vVar 2)] [some (.d (trD TR)), some (.d (wsD WS)), some (.d v), none] = m_left_on [some (.d (trD TR)), some (.d (wsD WS)), some (.d v)] := by
    simp only [vFn_s, evalAll_cons, evalAll_nil, vVar_s, List.getElem?_cons_succ, List.getElem?_cons_zero, Rz.bind_ok, List.map_cons, List.map_nil]
  rw [sTryM_s, sRet_s, hb, hl]
  cases isNoneD (dueM TR WS v X) with
  | true => rfl
  | false => rfl
theorem lv3 {j : Nat} {told : Option W} : lc_law_3 [o, some (.d (.list (D.map .int))), turn, some (.d (trD TR)), some (.d (wsD WS)), told, base, pairs, some (.d (.int (j : Nat))), bent, some (.d (.tuple (X.map rowP))), days, drawn, kind, one, due, left, none, none, none, none, none] = .ok (.l (((X.filter fun p => decide (p.1.1 = j)).map (·.2)).map .int)) := by
  rw [List.map_map]
  unfold lc_law_3
  refine lc_fil X rowP (fun p => decide (p.1.1 = j)) _ (by rfl) (by simp) fun p hp => ⟨[o, some (.d (.list (D.map .int))), turn, some (.d (trD TR)), some (.d (wsD WS)), told, base, pairs, some (.d (.int (j : Nat))), bent, some (.d (.tuple (X.map rowP))), days, drawn, kind, one, due, left, none, none, none, none, some (.d (rowP p))], by simp, ?_, fun _ => ?_⟩
  · simp only [t2_s, toV_s, e2_s, rVar_s, List.getElem?_cons_succ, List.getElem?_cons_zero, Rz.bind_ok, rowP_eq, ix_t, vC_s, atI_0, Option.map_some, ofO_some', eq_i]
    congr 1
    rw [Bool.eq_iff_iff, beq_iff_eq, decide_eq_true_eq]
    omega
  · simp [rowP_eq]
theorem lv4 {told : Option W} (hn : TR.length ≤ 1000) : lc_law_4 (vS D o turn (some (.d (trD TR))) (some (.d (wsD WS))) told base pairs none bent (some (.d (.tuple (X.map rowP)))) days drawn kind one due left) = .ok (.l ((leftL TR X).map .int)) := by
  unfold leftL
  rw [List.map_map]
  unfold lc_law_4
  refine lc_map (List.range TR.length) (fun (i : Nat) => PyData.int i) _ (by rfl) ?_ fun j hj => ⟨[o, some (.d (.list (D.map .int))), turn, some (.d (trD TR)), some (.d (wsD WS)), told, base, pairs, some (.d (.int (j : Nat))), bent, some (.d (.tuple (X.map rowP))), days, drawn, kind, one, due, left, none, none, none, none, none], by simp [vS], ?_⟩
  · rw [← rngL_map, iArg_s]
    simp only [vS, evalAll_cons, evalAll_nil, toV_s, eCall_s, rVar_s, List.getElem?_cons_succ, List.getElem?_cons_zero, Rz.bind_ok, g1_s, trD, lenD_t, ofO_some', List.length_map, wipeM_cons, wipeM_nil]
    exact rngN hn
  · obtain ⟨t, ht⟩ : ∃ t, TR[j]? = some t := ⟨_, List.getElem?_eq_getElem (List.mem_range.mp hj)⟩
    have h3 : toV (e2 ixD (toV (e2 ixD (rVar 3) (rVar 8))) (vC (.int 3))) [o, some (.d (.list (D.map .int))), turn, some (.d (trD TR)), some (.d (wsD WS)), told, base, pairs, some (.d (.int (j : Nat))), bent, some (.d (.tuple (X.map rowP))), days, drawn, kind, one, due, left, none, none, none, none, none] = .ok (.int (cT TR j)) := by
      have e : cT TR j = t.c := by unfold cT; rw [ht]
      simp only [toV_s, e2_s, rVar_s, List.getElem?_cons_succ, List.getElem?_cons_zero, Rz.bind_ok, trD, ix_t, tr_at ht, Option.map_some, ofO_some', vC_s, e]
      simp [tD, rowT, Tray.row, atI, ixN]
    rw [toV_s, e2_s, h3]
    simp only [toV_s, eCall_s, evalAll_cons, evalAll_nil, lv3, Rz.bind_ok, g1_s, sumD_ints, ofO_some', rs_eq, sub_i]
    rfl
/-- rows, one look -/
theorem f5 {t0 : Str} {rest : List PyData} (hn : TR.length ≤ 1000) (hm : WS.length ≤ 1000) (hc : m__check [some (.d (trD TR)), some (.d (wsD WS))] = .ok .none) (hs : t0 = "short" → ∀ X, XOk TR.length WS.length X → dueX TR WS X ≠ .none) (hv : VS v) :
    fb_law_5 (vS D none turn (some (.d (trD TR))) (some (.d (wsD WS))) (some (.d (.tuple (.str t0 :: rest)))) none none none bent (some (.d v)) none none none none none none) =
    .nx (vS D none turn (some (.d (trD TR))) (some (.d (wsD WS))) (some (.d (.tuple (.str t0 :: rest)))) none none none bent none none none none none none none) := by
  obtain ⟨X, hX⟩ := x_of v TR.length WS.length
  have q1 := m_law_met_due_ok (TR := TR) (WS := WS) (X := X) (v := v) hn hm hX hv
  have q2 := m_met_fault_ok (TR := TR) (WS := WS) (X := X) (v := v) hc hX
  have q3 := m_law_left_ok (TR := TR) (WS := WS) (X := X) (v := v) hc hX
  have s1 : sSet 15 (ofV (vFn m__law_met_due [(vVar 3), (vVar 4), (vVar 10)])) (vS D none turn (some (.d (trD TR))) (some (.d (wsD WS))) (some (.d (.tuple (.str t0 :: rest)))) none none none bent (some (.d v)) none none none none none none) = .nx (vS D none turn (some (.d (trD TR))) (some (.d (wsD WS))) (some (.d (.tuple (.str t0 :: rest)))) none none none bent (some (.d v)) none none none none (some (.d (dueM TR WS v X))) none) := by
    refine set_nx (w := .d (dueM TR WS v X)) ?_ (by simp [vS])
    simp only [vS, ofV_s, vFn_s, evalAll_cons, evalAll_nil, vVar_s, List.getElem?_cons_succ, List.getElem?_cons_zero, Rz.bind_ok, List.map_cons, List.map_nil, q1, rz_map_ok]
  have t1 : t2 neD (vFn m_met_fault [(vVar 3), (vVar 4), (vVar 10)]) (rVar 15) (vS D none turn (some (.d (trD TR))) (some (.d (wsD WS))) (some (.d (.tuple (.str t0 :: rest)))) none none none bent (some (.d v)) none none none none (some (.d (dueM TR WS v X))) none) = .ok false := by
    simp only [vS, t2_s, vFn_s, evalAll_cons, evalAll_nil, vVar_s, rVar_s, List.getElem?_cons_succ, List.getElem?_cons_zero, Rz.bind_ok, List.map_cons, List.map_nil, q2, ne_due, ofO_some']
  have tn : ∀ l, t2 isN (rVar 15) (vC .none) (vS D none turn (some (.d (trD TR))) (some (.d (wsD WS))) (some (.d (.tuple (.str t0 :: rest)))) none none none bent (some (.d v)) none none none none (some (.d (dueM TR WS v X))) l) = .ok (isNoneD (dueM TR WS v X)) := fun l => by
    simp only [vS, t2_s, rVar_s, List.getElem?_cons_succ, List.getElem?_cons_zero, Rz.bind_ok, vC_s, isN_n, ofO_some']
  have none_ok : isNoneD (dueM TR WS v X) = true → v = .tuple (X.map rowP) ∧ XOk TR.length WS.length X ∧ dueX TR WS X = .none := fun h => by
    unfold dueM at h
    cases hf : formB TR.length WS.length v with
    | false => rw [hf, if_neg (by decide)] at h; cases h
    | true =>
      rw [hf, if_pos rfl] at h
      obtain ⟨a, b⟩ := hX hf
      refine ⟨a, b, ?_⟩
      cases hd : dueX TR WS X with
      | none => rfl
      | _ => rw [hd] at h; cases h
  have t2' : (tAnd' (t2 isN (rVar 15) (vC .none)) (t2 eqD (toV (e2 ixD (rVar 5) (vC (.int 0)))) (vC (.str "short")))) (vS D none turn (some (.d (trD TR))) (some (.d (wsD WS))) (some (.d (.tuple (.str t0 :: rest)))) none none none bent (some (.d v)) none none none none (some (.d (dueM TR WS v X))) none) = .ok false := by
    rw [tAnd_s, tn, Rz.bind_ok]
    cases hd : isNoneD (dueM TR WS v X) with
    | false => rfl
    | true =>
      obtain ⟨_, b, c⟩ := none_ok hd
      have hne : t0 ≠ "short" := fun e => hs e X b c
      simp [vS, eqS, hne]
  unfold fb_law_5
  refine cut_nx (m' := vS D none turn (some (.d (trD TR))) (some (.d (wsD WS))) (some (.d (.tuple (.str t0 :: rest)))) none none none bent (some (.d v)) none none none none (some (.d (dueM TR WS v X))) (some (.d (if isNoneD (dueM TR WS v X) = true then .tuple ((leftL TR X).map .int) else .str "rows")))) ?_
  rw [seq_nx s1]
  rw [seq_nx (m' := vS D none turn (some (.d (trD TR))) (some (.d (wsD WS))) (some (.d (.tuple (.str t0 :: rest)))) none none none bent (some (.d v)) none none none none (some (.d (dueM TR WS v X))) none) (by rw [sIf_f (by rw [or_f t1, t2'])]; rfl)]
  rw [seq_nx (m' := vS D none turn (some (.d (trD TR))) (some (.d (wsD WS))) (some (.d (.tuple (.str t0 :: rest)))) none none none bent (some (.d v)) none none none none (some (.d (dueM TR WS v X))) (some (.d (if isNoneD (dueM TR WS v X) = true then .tuple ((leftL TR X).map .int) else .str "rows")))) (by
    refine set_nx (w := .d (if isNoneD (dueM TR WS v X) = true then .tuple ((leftL TR X).map .int) else .str "rows")) ?_ (by simp [vS])
    rw [ofV_s, vIf_s, tn, Rz.bind_ok]
    cases hd : isNoneD (dueM TR WS v X) with
    | false => rfl
    | true =>
      obtain ⟨a, _, _⟩ := none_ok hd
      rw [a]
      simp only [if_true, toV_s, eCall_s, evalAll_cons, evalAll_nil, lv4 (TR := TR) hn, Rz.bind_ok, g1_s, tupleD_l, ofO_some', rz_map_ok])]
  rw [sIf_f]
  · rfl
  · have hl : vFn m__law_left [(vVar 3), (vVar 4), (vVar 10)] (vS D none turn (some (.d (trD TR))) (some (.d (wsD WS))) (some (.d (.tuple (.str t0 :: rest)))) none none none bent (some (.d v)) none none none none (some (.d (dueM TR WS v X))) (some (.d (if isNoneD (dueM TR WS v X) = true then .tuple ((leftL TR X).map .int) else .str "rows")))) = .ok (if isNoneD (dueM TR WS v X) = true then .tuple ((leftL TR X).map .int) else .str "rows") := by
      simp only [vS, vFn_s, evalAll_cons, evalAll_nil, vVar_s, List.getElem?_cons_succ, List.getElem?_cons_zero, Rz.bind_ok, List.map_cons, List.map_nil, q3]
    rw [t2_s, hl, Rz.bind_ok]
    simp only [vS, rVar_s, List.getElem?_cons_succ, List.getElem?_cons_zero, Rz.bind_ok]
    cases isNoneD (dueM TR WS v X) with
    | true => simp only [if_true, neT_ints, ofO_some']; simp
    | false => simp [neS]
/-- days, one look -/
theorem f8 {t0 : Str} {rest : List PyData} {kd : PyData} (hc : m__check [some (.d (trD TR)), some (.d (wsD WS))] = .ok .none) (hs : t0 = "met" → ∀ k ds, wishedN WS k ds ≤ thereN TR k ds) (hv : VS v) {dy dr : Option W} :
    fb_law_8 (vS D none none (some (.d (trD TR))) (some (.d (wsD WS))) (some (.d (.tuple (.str t0 :: rest)))) none none none none (some (.d v)) dy dr (some (.d kd)) none none none) =
    .nx (vS D none none (some (.d (trD TR))) (some (.d (wsD WS))) (some (.d (.tuple (.str t0 :: rest)))) none none none none none dy dr (some (.d kd)) none none none) := by
  obtain ⟨k, ds, hX⟩ := d_of kd v
  have q1 := m_law_days_due_ok (TR := TR) (WS := WS) (kind := kd) (days := v) (k := k) (ds := ds) hX hv
  have q2 := m_days_fault_ok (TR := TR) (WS := WS) (kind := kd) (days := v) (k := k) (ds := ds) hc hX
  have s1 : sSet 15 (ofV (vFn m__law_days_due [(vVar 3), (vVar 4), (vVar 13), (vVar 10)])) (vS D none none (some (.d (trD TR))) (some (.d (wsD WS))) (some (.d (.tuple (.str t0 :: rest)))) none none none none (some (.d v)) dy dr (some (.d kd)) none none none) = .nx (vS D none none (some (.d (trD TR))) (some (.d (wsD WS))) (some (.d (.tuple (.str t0 :: rest)))) none none none none (some (.d v)) dy dr (some (.d kd)) none (some (.d (dueD TR WS kd v k ds))) none) := by
    refine set_nx (w := .d (dueD TR WS kd v k ds)) ?_ (by simp [vS])
    simp only [vS, ofV_s, vFn_s, evalAll_cons, evalAll_nil, vVar_s, List.getElem?_cons_succ, List.getElem?_cons_zero, Rz.bind_ok, List.map_cons, List.map_nil, q1, rz_map_ok]
  unfold fb_law_8
  refine cut_nx (m' := vS D none none (some (.d (trD TR))) (some (.d (wsD WS))) (some (.d (.tuple (.str t0 :: rest)))) none none none none (some (.d v)) dy dr (some (.d kd)) none (some (.d (dueD TR WS kd v k ds))) none) ?_
  rw [seq_nx s1, sIf_f]
  · rfl
  · have t1 : t2 neD (vFn m_days_fault [(vVar 3), (vVar 4), (vVar 13), (vVar 10)]) (rVar 15) (vS D none none (some (.d (trD TR))) (some (.d (wsD WS))) (some (.d (.tuple (.str t0 :: rest)))) none none none none (some (.d v)) dy dr (some (.d kd)) none (some (.d (dueD TR WS kd v k ds))) none) = .ok false := by
      simp only [vS, t2_s, vFn_s, evalAll_cons, evalAll_nil, vVar_s, rVar_s, List.getElem?_cons_succ, List.getElem?_cons_zero, Rz.bind_ok, List.map_cons, List.map_nil, q2, ne_dueD, ofO_some']
    have tn : t2 isN (rVar 15) (vC .none) (vS D none none (some (.d (trD TR))) (some (.d (wsD WS))) (some (.d (.tuple (.str t0 :: rest)))) none none none none (some (.d v)) dy dr (some (.d kd)) none (some (.d (dueD TR WS kd v k ds))) none) = .ok (isNoneD (dueD TR WS kd v k ds)) := by
      simp only [vS, t2_s, rVar_s, List.getElem?_cons_succ, List.getElem?_cons_zero, Rz.bind_ok, vC_s, isN_n, ofO_some']
    rw [or_f t1, tAnd_s, tn, Rz.bind_ok]
    cases hd : isNoneD (dueD TR WS kd v k ds) with
    | false => rfl
    | true =>
      have hne : t0 ≠ "met" := fun e => by
        have := hs e k ds
        unfold dueD at hd
        rw [if_pos this] at hd
        split at hd <;> cases hd
      simp [vS, eqS, hne]
end
end Dl
set_option Elab.async false
set_option linter.all false
set_option maxRecDepth 100000
namespace Dl
open PySem PySem.Spec PyProof.Rows L2
section
variable {D : List Int} {o turn told base pairs k bent value days drawn kind one due left : Option W} {TR : List Tray} {WS : List Wish}
theorem draw_at (hD : D.length = 60) (hn : nn D) (z : Int) : ∃ x, atI (D.map PyData.int) (z % 60) = some (.int x) ∧ 0 ≤ x := by
  have h1 := Int.emod_nonneg z (b := 60) (by decide)
  have h2 := Int.emod_lt_of_pos z (b := 60) (by decide)
  obtain ⟨n, hn'⟩ := Int.eq_ofNat_of_zero_le h1
  rw [hn'] at h2 ⊢
  exact at_map (by omega) hn
theorem lp0 (hD : D.length = 60) (hn : nn D) (hW : WS.length ≤ 6) {P : List PyData} {j : Nat} (hj : j < TR.length) : ∃ L, lc_law_0 (vS D none turn (some (.d (trD TR))) (some (.d (wsD WS))) told base (some (.d (.list P))) (some (.d (.int (j : Nat)))) none none none none none none none none) = .ok (.l L) ∧ L.length ≤ 6 := by
  obtain ⟨t, ht⟩ : ∃ t, TR[j]? = some t := ⟨_, List.getElem?_eq_getElem hj⟩
  have m2 : smallI 2 := by decide
  obtain ⟨L, h1, h2, _⟩ := lc_ex (vs := [18]) (f := (iArg rng1 [(toV (eCall (g1 lenD) [(rVar 4)]))])) (s := gSet 18) (t := (tOr' (tV' (vFn m__law_has [(toV (e2 ixD (rVar 3) (rVar 8))), (toV (e2 ixD (rVar 4) (rVar 18)))])) (t2 eqD (toV (e2 modD (toV (eCall (g1 toIntD) [(toV (e2 ixD (rVar 1) (toV (e2 modD (toV (e2 addD (toV (e2 addD (vC (.int 30)) (toV (e2 mulD (vC (.int 2)) (rVar 8))))) (rVar 18))) (vC (.int 60))))))])) (vC (.int 7)))) (vC (.int 0)))))
    (e := (eTup [(vVar 8), (vVar 18), (toV (e2 addD (vC (.int 1)) (toV (e2 modD (toV (eCall (g1 toIntD) [(toV (e2 ixD (rVar 1) (toV (e2 modD (toV (e2 addD (toV (e2 addD (vC (.int 40)) (rVar 8))) (rVar 18))) (vC (.int 60))))))])) (vC (.int 5))))))]))
    (m := vS D none turn (some (.d (trD TR))) (some (.d (wsD WS))) told base (some (.d (.list P))) (some (.d (.int (j : Nat)))) none none none none none none none none) (xs := (List.range WS.length).map fun (i : Nat) => PyData.int i) (fun _ => True) (by rfl) (by
      rw [← rngL_map, iArg_s]
      simp only [vS, evalAll_cons, evalAll_nil, toV_s, eCall_s, rVar_s, List.getElem?_cons_succ, List.getElem?_cons_zero, Rz.bind_ok, g1_s, wsD, lenD_t, ofO_some', List.length_map]
      exact rngN (by omega)) fun z hz => by
      obtain ⟨n, hn', rfl⟩ := List.mem_map.mp hz
      obtain ⟨w, hw⟩ : ∃ w, WS[n]? = some w := ⟨_, List.getElem?_eq_getElem (List.mem_range.mp hn')⟩
      obtain ⟨x, hx, x0⟩ := draw_at hD hn (30 + 2 * (j : Int) + (n : Int))
      obtain ⟨y, hy, y0⟩ := draw_at hD hn (40 + (j : Int) + (n : Int))
      refine ⟨[none, some (.d (.list (D.map .int))), turn, some (.d (trD TR)), some (.d (wsD WS)), told, base, some (.d (.list P)), some (.d (.int (j : Nat))), none, none, none, none, none, none, none, none, none, some (.d (.int (n : Nat))), none, none, none], (hasB t w.k w.d || (x % 7 == 0)), by simp [vS], ?_, fun _ => ?_⟩
      · have h1 : (tV' (vFn m__law_has [(toV (e2 ixD (rVar 3) (rVar 8))), (toV (e2 ixD (rVar 4) (rVar 18)))])) [none, some (.d (.list (D.map .int))), turn, some (.d (trD TR)), some (.d (wsD WS)), told, base, some (.d (.list P)), some (.d (.int (j : Nat))), none, none, none, none, none, none, none, none, none, some (.d (.int (n : Nat))), none, none, none] = .ok (hasB t w.k w.d) := by
          simp only [tV_s, vFn_s, evalAll_cons, evalAll_nil, toV_s, e2_s, rVar_s, List.getElem?_cons_succ, List.getElem?_cons_zero, Rz.bind_ok, trD, wsD, ix_t, tr_at ht, ws_at hw, Option.map_some, ofO_some', List.map_cons, List.map_nil, m_law_has_ok, boolD_s]
        cases hb : hasB t w.k w.d with
        | true => rw [or_t (h1.trans (by rw [hb]))]; rfl
        | false =>
          rw [or_f (h1.trans (by rw [hb])), Bool.false_or]
          simp only [t2_s, toV_s, e2_s, eCall_s, evalAll_cons, evalAll_nil, rVar_s, List.getElem?_cons_succ, List.getElem?_cons_zero, Rz.bind_ok, vC_s, mul_i, m2, true_or, if_true, ofO_some', add_i, mod_i, show (0 : Int) < 60 from by decide, ix_l, hx, Option.map_some, g1_s, toIntD_i, show (0 : Int) < 7 from by decide, eq_i]
      · refine ⟨.tuple [.int (j : Nat), .int (n : Nat), .int (1 + y % 5)], ?_, trivial⟩
        · simp only [eTup_s, toV_s, e2_s, eCall_s, evalAll_cons, evalAll_nil, vVar_s, rVar_s, List.getElem?_cons_succ, List.getElem?_cons_zero, Rz.bind_ok, vC_s, ofO_some', add_i, mod_i, show (0 : Int) < 60 from by decide, if_true, ix_l, hy, Option.map_some, g1_s, toIntD_i, show (0 : Int) < 5 from by decide, rz_map_ok]
  refine ⟨L, h1, ?_⟩
  rw [List.length_map, List.length_range] at h2
  omega
theorem loopP (hD : D.length = 60) (hn : nn D) (hW : WS.length ≤ 6) (hT : TR.length ≤ 6) {turn2 : Option W} : ∃ P, (sCut [8] (sPre [0, 8, 9, 10, 11, 12, 13, 14, 15, 16] (sFor (iArg rng1 [(toV (eCall (g1 lenD) [(rVar 3)]))]) (gSet 8) fb_law_1))) (vS D none turn (some (.d (trD TR))) (some (.d (wsD WS))) told base (some (.d (.list []))) none none none none none none none none none) =
    .nx (vS D none turn (some (.d (trD TR))) (some (.d (wsD WS))) told base (some (.d (.list P))) none none none none none none none none none) ∧ P.length ≤ 36 := by
  obtain ⟨m', e, P, rfl, h1⟩ := goFor_inv (s := gSet 8) (b := fb_law_1) (fun i m => ∃ P, m = vS D none turn (some (.d (trD TR))) (some (.d (wsD WS))) told base (some (.d (.list P))) none none none none none none none none none ∧ P.length ≤ 6 * i) ((List.range TR.length).map fun (i : Nat) => PyData.int i) 0 _ ⟨[], rfl, Nat.zero_le _⟩ fun i z m hz ⟨P, e, h1⟩ => by
    subst e
    have hi : i < TR.length := by
      have := (List.getElem?_eq_some_iff.mp hz).1
      rwa [List.length_map, List.length_range] at this
    rw [List.getElem?_map, List.getElem?_range hi] at hz
    obtain rfl : PyData.int (i : Nat) = z := Option.some.inj hz
    obtain ⟨L, e1, q1⟩ := lp0 (turn := turn) (told := told) (base := base) (TR := TR) hD hn hW (P := P) hi
    refine ⟨vS D none turn (some (.d (trD TR))) (some (.d (wsD WS))) told base (some (.d (.list P))) (some (.d (.int (i : Nat)))) none none none none none none none none, by simp [vS], vS D none turn (some (.d (trD TR))) (some (.d (wsD WS))) told base (some (.d (.list (P ++ L)))) none none none none none none none none none, ?_, _, rfl, by rw [List.length_append]; omega⟩
    have hl : P.length + L.length ≤ 16000000 := by omega
    unfold fb_law_1
    refine cut_nx (m' := vS D none turn (some (.d (trD TR))) (some (.d (wsD WS))) told base (some (.d (.list (P ++ L)))) (some (.d (.int (i : Nat)))) none none none none none none none none) ?_
    refine set_nx (w := .d (.list (P ++ L))) ?_ (by simp [vS])
    simp only [ofV_s, toV_s, e2_s, e1]
    simp [vS, hl]
  rw [List.length_map, List.length_range] at h1
  refine ⟨P, ?_, by omega⟩
  refine cut_nx (m' := vS D none turn (some (.d (trD TR))) (some (.d (wsD WS))) told base (some (.d (.list P))) none none none none none none none none none) ?_
  rw [sPre_s, sFor_s]
  have hr : iArg rng1 [(toV (eCall (g1 lenD) [(rVar 3)]))] (wipeM (vS D none turn (some (.d (trD TR))) (some (.d (wsD WS))) told base (some (.d (.list []))) none none none none none none none none none) [0, 8, 9, 10, 11, 12, 13, 14, 15, 16]) = .ok ((List.range TR.length).map fun (i : Nat) => PyData.int i) := by
    rw [← rngL_map, iArg_s]
    simp only [vS, evalAll_cons, evalAll_nil, toV_s, eCall_s, rVar_s, List.getElem?_cons_succ, List.getElem?_cons_zero, Rz.bind_ok, g1_s, trD, lenD_t, ofO_some', List.length_map, wipeM_cons, wipeM_nil, List.set]
    exact rngN (by omega)
  rw [hr]
  exact e
/-! ### bent rows -/
theorem bent1 {bs ps : List PyData} (hb : bs.length ≤ 36) (hp : ps.length ≤ 36) : ∃ B, (toV (eLst [(vVar 6), (toV (eSl (rVar 6) (oSome (vC (.int 1))) oNone)), (toV (eSl (rVar 6) oNone (oSome (toV (e1 negD (vC (.int 1))))))), (toV (eRev (rVar 6))), (toV (eCall (g1 listD) [(rVar 6)])), (vC .none), (vC (.int 7)), (toV (e2 addD (rVar 6) (toV (eSl (rVar 6) (oSome (toV (e1 negD (vC (.int 1))))) oNone)))), (vVar 7), (toV (eSl (rVar 7) oNone (oSome (vC (.int 2))))), (toV (eEv (rVar 7))), (eTup [])])) (vS D none turn (some (.d (trD TR))) (some (.d (wsD WS))) told (some (.d (.tuple bs))) (some (.d (.tuple ps))) none none none none none none none none none) = .ok (.list B) ∧ B.length = 12 ∧ ∀ v ∈ B, VS v := by
  have c1 := cutlen bs (some 1) none
  have c2 := cutlen bs none (some (-1))
  have c3 := cutlen bs (some (-1)) none
  have c4 := cutlen ps none (some 2)
  have c5 := evens_len ps
  have d1 : bs.length + (cutL bs (some (-1)) none).length ≤ 16000000 := by omega
  refine ⟨[.tuple bs, .tuple (cutL bs (some 1) none), .tuple (cutL bs none (some (-1))), .tuple bs.reverse, .list bs, .none, .int 7, .tuple (bs ++ cutL bs (some (-1)) none), .tuple ps, .tuple (cutL ps none (some 2)), .tuple (evens ps), .tuple []], by simp [vS, d1], rfl, fun v hv => ?_⟩
  simp only [List.mem_cons, List.not_mem_nil, or_false] at hv
  rcases hv with rfl | rfl | rfl | rfl | rfl | rfl | rfl | rfl | rfl | rfl | rfl | rfl
  · exact VS.tup (by omega)
  · exact VS.tup (by omega)
  · exact VS.tup (by omega)
  · exact VS.tup (by rw [List.length_reverse]; omega)
  · exact VS.no (by simp)
  · exact VS.no (by simp)
  · exact VS.no (by simp)
  · intro xs e
    have e : bs ++ cutL bs (some (-1)) none = xs := by simpa using e
    have c6 : (cutL bs (some (-1)) none).length ≤ 1 := by
      unfold cutL
      rw [List.length_take, HT.sIx_none]
      have : HT.sIx bs.length 0 (some (-1)) = bs.length - 1 := by
        simp only [HT.sIx]
        rw [if_pos (by decide)]
        omega
      rw [this]
      omega
    rw [← e, List.length_append]; omega
  · exact VS.tup (by omega)
  · exact VS.tup (by omega)
  · exact VS.tup (by omega)
  · exact VS.tup (by decide)
theorem bent2 {bs B : List PyData} {ps : Option W} (hb : bs.length ≤ 36) (hB : B.length = 12) : ∃ B2, (toV (e2 addD (rVar 9) (toV (eLst [(toV (e2 addD (rVar 6) (eTup [(vC .none)]))), (toV (e2 addD (rVar 6) (eTup [(eTup [(vC (.int 0)), (vC (.int 0))])]))), (eTup [(eTup [(toV (e1 negD (vC (.int 1)))), (vC (.int 0)), (vC (.int 1))])]), (eTup [(eTup [(toV (eCall (g1 lenD) [(rVar 3)])), (vC (.int 0)), (vC (.int 1))])]), (eTup [(eTup [(vC (.int 0)), (toV (eCall (g1 lenD) [(rVar 4)])), (vC (.int 1))])])])))) (vS D none turn (some (.d (trD TR))) (some (.d (wsD WS))) told (some (.d (.tuple bs))) ps none (some (.d (.list B))) none none none none none none none) = .ok (.list (B ++ B2)) ∧ B2.length = 5 ∧ ∀ v ∈ B2, VS v := by
  have d1 : bs.length + 1 ≤ 16000000 := by omega
  have d2 : B.length + 5 ≤ 16000000 := by omega
  refine ⟨[.tuple (bs ++ [.none]), .tuple (bs ++ [.tuple [.int 0, .int 0]]), .tuple [.tuple [.int (-1), .int 0, .int 1]], .tuple [.tuple [.int (TR.length : Int), .int 0, .int 1]], .tuple [.tuple [.int 0, .int (WS.length : Int), .int 1]]], by simp [vS, trD, wsD, d1, d2], rfl, fun v hv => ?_⟩
  simp only [List.mem_cons, List.not_mem_nil, or_false] at hv
  rcases hv with rfl | rfl | rfl | rfl | rfl
  · exact VS.tup (by rw [List.length_append]; simp; omega)
  · exact VS.tup (by rw [List.length_append]; simp; omega)
  · exact VS.tup (by simp)
  · exact VS.tup (by simp)
  · exact VS.tup (by simp)
theorem bent3 {bs B : List PyData} {ps : Option W} {a b c : Int} (hb : bs.length ≤ 36) : ∃ B3, lc_law_2 (vS D none turn (some (.d (trD TR))) (some (.d (wsD WS))) told (some (.d (.tuple bs))) ps none (some (.d (.list B))) none none none none (some (.d (.tuple [.int a, .int b, .int c]))) none none) = .ok (.l B3) ∧ B3.length ≤ 4 ∧ ∀ v ∈ B3, VS v := by
  have c1 := cutlen bs (some 1) none
  have c2 : cutL [PyData.int a, .int b, .int c] none (some 2) = [.int a, .int b] := takeN _ 2
  have d1 : 1 + (cutL bs (some 1) none).length ≤ 16000000 := by omega
  refine lc_ex (vs := [19]) (f := (iSeq (eTup [(toV (e2 addD (toV (e2 ixD (rVar 14) (vC (.int 2)))) (vC (.int 1)))), (toV (e2 subD (toV (e2 ixD (rVar 14) (vC (.int 2)))) (vC (.int 1)))), (vC (.int 51)), (vC (.bool true))]))) (s := gSet 19) (t := fun _ => .ok true) (e := (toV (e2 addD (eTup [(toV (e2 addD (toV (eSl (rVar 14) oNone (oSome (vC (.int 2))))) (eTup [(vVar 19)])))]) (toV (eSl (rVar 6) (oSome (vC (.int 1))) oNone)))))
    (xs := [.int (c + 1), .int (c - 1), .int 51, .bool true]) VS (by rfl) (by simp [vS]) fun z hz => ⟨[none, some (.d (.list (D.map .int))), turn, some (.d (trD TR)), some (.d (wsD WS)), told, some (.d (.tuple bs)), ps, none, some (.d (.list B)), none, none, none, none, some (.d (.tuple [.int a, .int b, .int c])), none, none, none, none, some (.d z), none, none], true, by simp [vS], rfl, fun _ => ⟨.tuple (.tuple [.int a, .int b, z] :: cutL bs (some 1) none), by simp [c2, d1], ?_⟩⟩
  exact VS.tup (by rw [List.length_cons]; omega)
end
end Dl
set_option Elab.async false
set_option linter.all false
set_option maxRecDepth 100000
namespace Dl
open PySem PySem.Spec PyProof.Rows L2
theorem insI_len {x : Int} : ∀ {r : List Int}, (insI x r).length ≤ r.length + 1
  | [] => by simp [insI]
  | y :: r => by
    unfold insI
    split
    · exact Nat.le_succ _
    · split
      · exact Nat.le_refl _
      · rw [List.length_cons, List.length_cons]; have := insI_len (x := x) (r := r); omega
theorem isort_len : ∀ {r : List Int}, (isort r).length ≤ r.length
  | [] => Nat.le_refl _
  | y :: r => by
    show (insI y (isort r)).length ≤ _
    have h1 := insI_len (x := y) (r := isort r)
    have h2 := isort_len (r := r)
    rw [List.length_cons]; omega
section
variable {D : List Int} {o turn told base pairs k bent value days drawn kind one due left : Option W} {TR : List Tray} {WS : List Wish}
theorem tl0 {m : Ms} {t0 s : Str} {rest : List PyData} (h : m[5]? = some (some (.d (.tuple (.str t0 :: rest))))) : t2 eqD (toV (e2 ixD (rVar 5) (vC (.int 0)))) (vC (.str s)) m = .ok (t0 == s) := by
  simp only [t2_s, toV_s, e2_s, rVar_s, h, Rz.bind_ok, vC_s, ix_t, atI_0, List.getElem?_cons_zero, Option.map_some, ofO_some', eqS]
theorem f9 {t0 : Str} {rest dd dr : List PyData} {kd : PyData} (hc : m__check [some (.d (trD TR)), some (.d (wsD WS))] = .ok .none) (hs : t0 = "met" → ∀ k ds, wishedN WS k ds ≤ thereN TR k ds) (hd : dd.length ≤ 40) (hr : dr.length ≤ 40) :
    fb_law_9 (vS D none none (some (.d (trD TR))) (some (.d (wsD WS))) (some (.d (.tuple (.str t0 :: rest)))) none none none none none (some (.d (.tuple dd))) (some (.d (.tuple dr))) (some (.d kd)) none none none) =
    .nx (vS D none none (some (.d (trD TR))) (some (.d (wsD WS))) (some (.d (.tuple (.str t0 :: rest)))) none none none none none (some (.d (.tuple dd))) (some (.d (.tuple dr))) none none none none) := by
  have c1 := cutlen dd (some 1) none
  have c2 := cutlen dd none (some (-1))
  have c3 := cutlen dr none (some 2)
  have d1 : dd.length + 1 ≤ 16000000 := by omega
  have d2 : 1 + dd.length ≤ 16000000 := by omega
  have hx : iSeq (toV (eLst [(vVar 11), (toV (eSl (rVar 11) (oSome (vC (.int 1))) oNone)), (toV (eSl (rVar 11) oNone (oSome (toV (e1 negD (vC (.int 1))))))), (toV (eRev (rVar 11))), (toV (eCall (g1 listD) [(rVar 11)])), (vVar 12), (toV (eSl (rVar 12) oNone (oSome (vC (.int 2))))), (eTup []), (vC .none), (vC (.int 7)), (toV (e2 addD (rVar 11) (eTup [(vC (.int 14))]))), (toV (e2 addD (eTup [(toV (e1 negD (vC (.int 1))))]) (rVar 11))), (toV (e2 addD (eTup [(vC (.bool true))]) (rVar 11))), (eTup [(vC .none)])])) (vS D none none (some (.d (trD TR))) (some (.d (wsD WS))) (some (.d (.tuple (.str t0 :: rest)))) none none none none none (some (.d (.tuple dd))) (some (.d (.tuple dr))) (some (.d kd)) none none none) =
      .ok [.tuple dd, .tuple (cutL dd (some 1) none), .tuple (cutL dd none (some (-1))), .tuple dd.reverse, .list dd, .tuple dr, .tuple (cutL dr none (some 2)), .tuple [], .none, .int 7, .tuple (dd ++ [.int 14]), .tuple (.int (-1) :: dd), .tuple (.bool true :: dd), .tuple [.none]] := by
    simp [vS, d1, d2]
  unfold fb_law_9
  refine cut_nx (m' := vS D none none (some (.d (trD TR))) (some (.d (wsD WS))) (some (.d (.tuple (.str t0 :: rest)))) none none none none none (some (.d (.tuple dd))) (some (.d (.tuple dr))) none none none none) ?_
  refine cut_nx (m' := vS D none none (some (.d (trD TR))) (some (.d (wsD WS))) (some (.d (.tuple (.str t0 :: rest)))) none none none none none (some (.d (.tuple dd))) (some (.d (.tuple dr))) (some (.d kd)) none none none) ?_
  rw [sPre_s, sFor_s, show wipeM (vS D none none (some (.d (trD TR))) (some (.d (wsD WS))) (some (.d (.tuple (.str t0 :: rest)))) none none none none none (some (.d (.tuple dd))) (some (.d (.tuple dr))) (some (.d kd)) none none none) [0, 2, 6, 7, 8, 9, 10, 14, 15, 16] = vS D none none (some (.d (trD TR))) (some (.d (wsD WS))) (some (.d (.tuple (.str t0 :: rest)))) none none none none none (some (.d (.tuple dd))) (some (.d (.tuple dr))) (some (.d kd)) none none none from rfl, hx]
  refine goFor_const fun v hv => ⟨vS D none none (some (.d (trD TR))) (some (.d (wsD WS))) (some (.d (.tuple (.str t0 :: rest)))) none none none none (some (.d v)) (some (.d (.tuple dd))) (some (.d (.tuple dr))) (some (.d kd)) none none none, by simp [vS], f8 hc hs ?_⟩
  simp only [List.mem_cons, List.not_mem_nil, or_false] at hv
  rcases hv with rfl | rfl | rfl | rfl | rfl | rfl | rfl | rfl | rfl | rfl | rfl | rfl | rfl | rfl
  · exact VS.tup (by omega)
  · exact VS.tup (by omega)
  · exact VS.tup (by omega)
  · exact VS.tup (by rw [List.length_reverse]; omega)
  · exact VS.no (by simp)
  · exact VS.tup (by omega)
  · exact VS.tup (by omega)
  · exact VS.tup (by decide)
  · exact VS.no (by simp)
  · exact VS.no (by simp)
  · exact VS.tup (by rw [List.length_append]; simp; omega)
  · exact VS.tup (by rw [List.length_cons]; omega)
  · exact VS.tup (by rw [List.length_cons]; omega)
  · exact VS.tup (by simp)
theorem lv6 {told : Option W} : lc_law_6 (vS D none turn (some (.d (trD TR))) (some (.d (wsD WS))) told none none none none none none none none none none none) = .ok (.l ((WS.map Wish.d).map .int)) := by
  rw [List.map_map]
  unfold lc_law_6
  refine lc_map WS wD _ (by rfl) (by simp [vS, wsD]) fun w hw => ⟨[none, some (.d (.list (D.map .int))), turn, some (.d (trD TR)), some (.d (wsD WS)), told, none, none, none, none, none, none, none, none, none, none, none, none, none, none, some (.d (wD w)), none], by simp [vS], ?_⟩
  simp [wD, rowT, Wish.row]
theorem lv7 (hD : D.length = 60) (hn : nn D) {i : Nat} {told dy : Option W} : ∃ L, lc_law_7 (vS D none (some (.d (.int (i : Nat)))) (some (.d (trD TR))) (some (.d (wsD WS))) told none none none none none dy none none none none none) = .ok (.l L) ∧ L.length ≤ 14 := by
  obtain ⟨L, h1, h2, _⟩ := lc_ex (vs := [17]) (f := (iArg rng1 [(vC (.int 14))])) (s := gSet 17) (t := (t2 eqD (toV (e2 modD (toV (eCall (g1 toIntD) [(toV (e2 ixD (rVar 1) (toV (e2 modD (toV (e2 addD (toV (e2 addD (vC (.int 20)) (rVar 17))) (rVar 2))) (vC (.int 60))))))])) (vC (.int 3)))) (vC (.int 0)))) (e := (vVar 17))
    (m := vS D none (some (.d (.int (i : Nat)))) (some (.d (trD TR))) (some (.d (wsD WS))) told none none none none none dy none none none none none) (xs := rngL 0 14) (fun _ => True) (by rfl) (by rw [iArg_s]; exact rngN (n := 14) (by decide)) fun z hz => by
      obtain ⟨n, _, rfl⟩ := rngL_mem hz
      obtain ⟨x, hx, x0⟩ := draw_at hD hn (20 + (n : Int) + (i : Int))
      refine ⟨[none, some (.d (.list (D.map .int))), some (.d (.int (i : Nat))), some (.d (trD TR)), some (.d (wsD WS)), told, none, none, none, none, none, dy, none, none, none, none, none, some (.d (.int (n : Nat))), none, none, none, none], (x % 3 == 0), by simp [vS], ?_, fun _ => ⟨.int (n : Nat), by simp, trivial⟩⟩
      simp only [t2_s, toV_s, e2_s, eCall_s, evalAll_cons, evalAll_nil, rVar_s, List.getElem?_cons_succ, List.getElem?_cons_zero, Rz.bind_ok, vC_s, ofO_some', add_i, mod_i, show (0 : Int) < 60 from by decide, if_true, ix_l, hx, Option.map_some, g1_s, toIntD_i, show (0 : Int) < 3 from by decide, eq_i]
  rw [rngL_len] at h2
  exact ⟨L, h1, h2⟩
theorem wipe5 {A : Option W} {t w x : Option W} : True := trivial
/-! ### one turn -/
theorem fb10 (hD : D.length = 60) (hn : nn D) {i : Nat} (hi : i < 6) : fb_law_10 (vS D none (some (.d (.int (i : Nat)))) none none none none none none none none none none none none none none) = .nx (vS D none none none none none none none none none none none none none none none none) := by
  have m5 : smallI 5 := by decide
  have eD : ∀ n : Nat, cutL (D.map PyData.int) (some ((n : Nat) : Int)) none = (D.drop n).map .int := fun n => by rw [dropN, List.map_drop]
  have dn : ∀ n, nn (D.drop n) := fun n d hd => hn d (List.mem_of_mem_drop hd)
  obtain ⟨R, eR, lR, hR, aR⟩ := m_law_trays_ok (dn (5 * i)) (by rw [List.length_drop]; omega)
  obtain ⟨WS, eW, lW, hW, aW⟩ := m_law_wishes_ok (E := D.drop (5 * i + 3) ++ D) (fun d hd => by
    rcases List.mem_append.mp hd with h | h
    · exact dn _ d h
    · exact hn d h) (by rw [List.length_append]; omega)
  obtain ⟨TR, rfl, hT⟩ := trays_of fun r hr => (hR r hr).1
  rw [List.length_map] at lR
  have hWk : ∀ w ∈ WS, w.Ok := fun w hw => (hW w hw).1
  have hB1 : trB (trD TR) = true := by
    rw [trD_eq]
    exact trB_of (by rw [List.length_map]; omega) (fun r hr => (hR r hr).1) aR
  have hB2 : wsB (wsD WS) = true := by
    rw [wsD_eq]
    refine wsB_of (by rw [List.length_map]; omega) (fun r hr => ?_) aW
    obtain ⟨w, hw, rfl⟩ := List.mem_map.mp hr
    obtain ⟨a, b, c, d, e, f⟩ := hWk w hw
    exact ⟨w.k, w.d, w.c, rfl, a, b, c, d, e, f⟩
  rw [← trD_eq] at eR
  have f := flow_of hB2 hT hWk
  have hmet := m_met_ok hB1 hB2
  have hck := (tr_ok hB1 hB2).2.2
  generalize given TR WS = g at f hmet
  obtain ⟨L, M, K⟩ := g
  simp only at f hmet
  -- what is told
  have told : ∃ (t0 : Str) (rest bs dd : List PyData) (kd : PyData), m_met [some (.d (trD TR)), some (.d (wsD WS))] = .ok (.tuple (.str t0 :: rest)) ∧ bs.length ≤ 36 ∧ dd.length ≤ 40 ∧ (∀ y ∈ bs, ∃ a b c : Int, y = .tuple [.int a, .int b, .int c]) ∧
      (t0 = "short" → ∀ X, XOk TR.length WS.length X → dueX TR WS X ≠ .none) ∧ (t0 = "met" → ∀ k ds, wishedN WS k ds ≤ thereN TR k ds) ∧
      (vIf (t2 eqD (toV (e2 ixD (rVar 5) (vC (.int 0)))) (vC (.str "met"))) (toV (e2 ixD (rVar 5) (vC (.int 1)))) (eTup [])) (vS D none (some (.d (.int (i : Nat)))) (some (.d (trD TR))) (some (.d (wsD WS))) (some (.d (.tuple (.str t0 :: rest)))) none none none none none none none none none none none) = .ok (.tuple bs) ∧
      (vIf (t2 eqD (toV (e2 ixD (rVar 5) (vC (.int 0)))) (vC (.str "short"))) (toV (e2 ixD (rVar 5) (vC (.int 2)))) (toV (eCall (g1 tupleD) [(toV (eSsetG (toV lc_law_6)))]))) (vS D none (some (.d (.int (i : Nat)))) (some (.d (trD TR))) (some (.d (wsD WS))) (some (.d (.tuple (.str t0 :: rest)))) none none none none none none none none none none none) = .ok (.tuple dd) ∧
      ∀ dy dr, (vIf (t2 eqD (toV (e2 ixD (rVar 5) (vC (.int 0)))) (vC (.str "short"))) (toV (e2 ixD (rVar 5) (vC (.int 1)))) (vC (.int 0))) (vS D none none (some (.d (trD TR))) (some (.d (wsD WS))) (some (.d (.tuple (.str t0 :: rest)))) none none none none none dy dr none none none none) = .ok kd := by
    rcases hmet with ⟨h0, e⟩ | ⟨s, r, w, F, h1, h2, h3, h4, h5, e⟩
    · refine ⟨"met", [.tuple ((sortM M).map rowP)], (sortM M).map rowP, (isort (WS.map Wish.d)).map .int, .int 0, ?_, ?_, ?_, fun y hy => ?_, fun z => ?_, fun _ k ds => met_days f h0 k ds, ?_, ?_, fun dy dr => ?_⟩
      · rw [e]; unfold metD; rw [sortM_rows]
      · have h1 := f.gi.ml
        have h2 : TR.length * WS.length ≤ 6 * 6 := Nat.mul_le_mul lR lW
        simp only at h1
        rw [List.length_map, (sortM_perm M).length_eq]
        omega
      · have := isort_len (r := WS.map Wish.d)
        rw [List.length_map] at this ⊢
        omega
      · obtain ⟨p, _, rfl⟩ := List.mem_map.mp hy
        exact ⟨_, _, _, rfl⟩
      · exact absurd z (by decide)
      · rw [vIf_s, tl0 (by rfl), Rz.bind_ok]
        simp [vS]
      · have hl : (WS.map Wish.d).length < 64 := by rw [List.length_map]; omega
        rw [vIf_s, tl0 (by rfl), Rz.bind_ok, if_neg (by decide)]
        simp only [toV_s, eCall_s, evalAll_cons, evalAll_nil, eSsetG_s, lv6, Rz.bind_ok, ssetG_ints (x := .list ((WS.map Wish.d).map .int)) rfl hl, ofO_some', g1_s, tupleD_l]
      · rw [vIf_s, tl0 (by rfl), Rz.bind_ok, if_neg (by decide)]
        rfl
    · have hpos := mem_short h1
      refine ⟨"short", [.int w.k, .tuple ((dsF WS F).map .int)], [], (dsF WS F).map .int, .int w.k, e, by simp, ?_, fun y hy => absurd hy List.not_mem_nil, fun _ X hX hd => not_both f h2 hpos h5 hX hd, fun z => absurd z (by decide), ?_, ?_, fun dy dr => ?_⟩
      · unfold dsF
        rw [List.length_map, List.length_mergeSort, List.length_map]
        have := List.Nodup.length_le_of_subset h3 (l₂ := List.range WS.length) fun j hj => List.mem_range.mpr (h4 j hj)
        rw [List.length_range] at this
        omega
      · rw [vIf_s, tl0 (by rfl), Rz.bind_ok, if_neg (by decide)]
        rfl
      · rw [vIf_s, tl0 (by rfl), Rz.bind_ok]
        simp [vS]
      · rw [vIf_s, tl0 (by rfl), Rz.bind_ok]
        simp [vS]
  obtain ⟨t0, rest, bs, dd, kd, em, lb, ld, hbs, hs5, hs8, eb, ed, ek⟩ := told
  have z5 : (5 : Int) * (i : Nat) = ((5 * i : Nat) : Int) := by omega
  have z53 : (5 : Int) * (i : Nat) + 3 = ((5 * i + 3 : Nat) : Int) := by omega
  have lE : (D.drop (5 * i + 3)).length + D.length ≤ 16000000 := by rw [List.length_drop]; omega
  have s1 : sAsg (eTup [(vFn m__law_trays [(toV (eSl (rVar 1) (oSome (toV (e2 mulD (vC (.int 5)) (rVar 2)))) oNone))]), (vFn m__law_wishes [(toV (e2 addD (toV (eSl (rVar 1) (oSome (toV (e2 addD (toV (e2 mulD (vC (.int 5)) (rVar 2))) (vC (.int 3))))) oNone)) (rVar 1)))])]) (gTup' 2 (gCons (gSet 3) (gCons (gSet 4) gNil))) (vS D none (some (.d (.int (i : Nat)))) none none none none none none none none none none none none none none) =
      .nx (vS D none (some (.d (.int (i : Nat)))) (some (.d (trD TR))) (some (.d (wsD WS))) none none none none none none none none none none none none) := by
    have h1 : vFn m__law_trays [(toV (eSl (rVar 1) (oSome (toV (e2 mulD (vC (.int 5)) (rVar 2)))) oNone))] (vS D none (some (.d (.int (i : Nat)))) none none none none none none none none none none none none none none) = .ok (trD TR) := by
      simp only [vS, vFn_s, evalAll_cons, evalAll_nil, toV_s, eSl_s, rVar_s, List.getElem?_cons_succ, List.getElem?_cons_zero, Rz.bind_ok, oSome_s, e2_s, vC_s, mul_i, m5, true_or, if_true, ofO_some', intD_s, rz_map_ok, oNone_s, slD_l, z5, eD, List.map_cons, List.map_nil]
      exact eR
    have h2 : vFn m__law_wishes [(toV (e2 addD (toV (eSl (rVar 1) (oSome (toV (e2 addD (toV (e2 mulD (vC (.int 5)) (rVar 2))) (vC (.int 3))))) oNone)) (rVar 1)))] (vS D none (some (.d (.int (i : Nat)))) none none none none none none none none none none none none none none) = .ok (wsD WS) := by
      simp only [vS, vFn_s, evalAll_cons, evalAll_nil, toV_s, eSl_s, rVar_s, List.getElem?_cons_succ, List.getElem?_cons_zero, Rz.bind_ok, oSome_s, e2_s, vC_s, mul_i, add_i, m5, true_or, if_true, ofO_some', intD_s, rz_map_ok, oNone_s, slD_l, z53, eD, add_l, List.length_map, lE, List.map_cons, List.map_nil]
      rw [← List.map_append]
      exact eW
    rw [sAsg_s, eTup_s, evalAll_cons, evalAll_cons, evalAll_nil, h1, h2]
    simp only [Rz.bind_ok, rz_map_ok]
    rw [gTup2 (by simp [vS]) (by simp [vS])]
    rfl
  have s2 : sSet 5 (ofV (vFn m_met [(vVar 3), (vVar 4)])) (vS D none (some (.d (.int (i : Nat)))) (some (.d (trD TR))) (some (.d (wsD WS))) none none none none none none none none none none none none) =
      .nx (vS D none (some (.d (.int (i : Nat)))) (some (.d (trD TR))) (some (.d (wsD WS))) (some (.d (.tuple (.str t0 :: rest)))) none none none none none none none none none none none) := by
    refine set_nx (w := .d (.tuple (.str t0 :: rest))) ?_ (by simp [vS])
    simp only [vS, ofV_s, vFn_s, evalAll_cons, evalAll_nil, vVar_s, List.getElem?_cons_succ, List.getElem?_cons_zero, Rz.bind_ok, List.map_cons, List.map_nil, em, rz_map_ok]
  obtain ⟨P, eP, lP⟩ := loopP (turn := some (.d (.int (i : Nat)))) (told := some (.d (.tuple (.str t0 :: rest)))) (base := some (.d (.tuple bs))) (TR := TR) (WS := WS) hD hn lW lR (turn2 := none)
  obtain ⟨B, eB, lB, vB⟩ := bent1 (D := D) (turn := some (.d (.int (i : Nat)))) (told := some (.d (.tuple (.str t0 :: rest)))) (TR := TR) (WS := WS) (bs := bs) (ps := P) lb lP
  obtain ⟨B2, eB2, lB2, vB2⟩ := bent2 (D := D) (turn := some (.d (.int (i : Nat)))) (told := some (.d (.tuple (.str t0 :: rest)))) (TR := TR) (WS := WS) (bs := bs) (ps := some (.d (.tuple P))) lb lB
  -- all that is bent
  have s9 : ∃ C, (sCut [14] (sIf (t2 gtD (toV (eCall (g1 lenD) [(rVar 6)])) (vC (.int 0)))
  (sSeq
  (sSet 14 (ofV (toV (e2 ixD (rVar 6) (vC (.int 0))))))
  (sSet 9 (ofV (toV (e2 addD (toV (e2 addD (rVar 9) (toV lc_law_2))) (toV (eLst [(toV (e2 addD (eTup [(toV (e2 addD (eTup [(vC (.bool true))]) (toV (eSl (rVar 14) (oSome (vC (.int 1))) oNone))))]) (toV (eSl (rVar 6) (oSome (vC (.int 1))) oNone))))])))))))
  sNil)) (vS D none (some (.d (.int (i : Nat)))) (some (.d (trD TR))) (some (.d (wsD WS))) (some (.d (.tuple (.str t0 :: rest)))) (some (.d (.tuple bs))) (some (.d (.tuple P))) none (some (.d (.list (B ++ B2)))) none none none none none none none) =
      .nx (vS D none (some (.d (.int (i : Nat)))) (some (.d (trD TR))) (some (.d (wsD WS))) (some (.d (.tuple (.str t0 :: rest)))) (some (.d (.tuple bs))) (some (.d (.tuple P))) none (some (.d (.list C))) none none none none none none none) ∧ ∀ v ∈ C, VS v := by
    have hv2 : ∀ v ∈ B ++ B2, VS v := fun v hv => by
      rcases List.mem_append.mp hv with h | h
      · exact vB v h
      · exact vB2 v h
    have et : t2 gtD (toV (eCall (g1 lenD) [(rVar 6)])) (vC (.int 0)) (vS D none (some (.d (.int (i : Nat)))) (some (.d (trD TR))) (some (.d (wsD WS))) (some (.d (.tuple (.str t0 :: rest)))) (some (.d (.tuple bs))) (some (.d (.tuple P))) none (some (.d (.list (B ++ B2)))) none none none none none none none) = .ok (decide (0 < (bs.length : Int))) := by
      simp [vS]
    cases bs with
    | nil =>
      refine ⟨B ++ B2, ?_, hv2⟩
      refine cut_nx (m' := vS D none (some (.d (.int (i : Nat)))) (some (.d (trD TR))) (some (.d (wsD WS))) (some (.d (.tuple (.str t0 :: rest)))) (some (.d (.tuple []))) (some (.d (.tuple P))) none (some (.d (.list (B ++ B2)))) none none none none none none none) ?_
      rw [sIf_f (et.trans (by rfl))]; rfl
    | cons y ys =>
      obtain ⟨a, b, c, rfl⟩ := hbs y (by simp)
      obtain ⟨B3, eB3, lB3, vB3⟩ := bent3 (D := D) (turn := some (.d (.int (i : Nat)))) (told := some (.d (.tuple (.str t0 :: rest)))) (TR := TR) (WS := WS) (bs := .tuple [.int a, .int b, .int c] :: ys) (B := B ++ B2) (ps := some (.d (.tuple P))) (a := a) (b := b) (c := c) lb
      have c1 := cutlen (PyData.tuple [.int a, .int b, .int c] :: ys) (some 1) none
      have c2 : cutL [PyData.int a, .int b, .int c] (some 1) none = [.int b, .int c] := dropN _ 1
      have d0 : (B ++ B2).length + B3.length ≤ 16000000 := by rw [List.length_append]; omega
      have d1 : ((B ++ B2) ++ B3).length + 1 ≤ 16000000 := by rw [List.length_append, List.length_append]; omega
      have d2 : 1 + (cutL (PyData.tuple [.int a, .int b, .int c] :: ys) (some 1) none).length ≤ 16000000 := by omega
      refine ⟨((B ++ B2) ++ B3) ++ [.tuple (.tuple [.bool true, .int b, .int c] :: cutL (PyData.tuple [.int a, .int b, .int c] :: ys) (some 1) none)], ?_, fun v hv => ?_⟩
      · refine cut_nx (m' := vS D none (some (.d (.int (i : Nat)))) (some (.d (trD TR))) (some (.d (wsD WS))) (some (.d (.tuple (.str t0 :: rest)))) (some (.d (.tuple (.tuple [.int a, .int b, .int c] :: ys)))) (some (.d (.tuple P))) none (some (.d (.list (((B ++ B2) ++ B3) ++ [.tuple (.tuple [.bool true, .int b, .int c] :: cutL (PyData.tuple [.int a, .int b, .int c] :: ys) (some 1) none)])))) none none none none (some (.d (.tuple [.int a, .int b, .int c]))) none none) ?_
        rw [sIf_t (et.trans (by rw [decide_eq_true]; rw [List.length_cons]; omega))]
        rw [seq_nx (m' := vS D none (some (.d (.int (i : Nat)))) (some (.d (trD TR))) (some (.d (wsD WS))) (some (.d (.tuple (.str t0 :: rest)))) (some (.d (.tuple (.tuple [.int a, .int b, .int c] :: ys)))) (some (.d (.tuple P))) none (some (.d (.list (B ++ B2)))) none none none none (some (.d (.tuple [.int a, .int b, .int c]))) none none) (set_nx (w := .d (.tuple [.int a, .int b, .int c])) (by simp [vS]) (by simp [vS]))]
        refine (set_nx (w := .d (.list (((B ++ B2) ++ B3) ++ [.tuple (.tuple [.bool true, .int b, .int c] :: cutL (PyData.tuple [.int a, .int b, .int c] :: ys) (some 1) none)]))) ?_ ?_).trans ?_
        · have h9 : toV (e2 addD (rVar 9) (toV lc_law_2)) (vS D none (some (.d (.int (i : Nat)))) (some (.d (trD TR))) (some (.d (wsD WS))) (some (.d (.tuple (.str t0 :: rest)))) (some (.d (.tuple (.tuple [.int a, .int b, .int c] :: ys)))) (some (.d (.tuple P))) none (some (.d (.list (B ++ B2)))) none none none none (some (.d (.tuple [.int a, .int b, .int c]))) none none) = .ok (.list ((B ++ B2) ++ B3)) := by
            rw [toV_s, e2_s, toV_s, eB3]
            simp only [vS, rVar_s, List.getElem?_cons_succ, List.getElem?_cons_zero, Rz.bind_ok, add_l, d0, if_true, ofO_some']
          rw [ofV_s, toV_s, e2_s, h9]
          simp only [vS, toV_s, e2_s, eLst_s, eTup_s, eSl_s, evalAll_cons, evalAll_nil, rVar_s, vC_s, List.getElem?_cons_succ, List.getElem?_cons_zero, Rz.bind_ok, rz_map_ok, oSome_s, oNone_s, intD_s, slD_t, c2, ofO_some', add_t, add_l, List.length_cons, List.length_nil, Nat.zero_add, show (1 + (1 + 1) ≤ 16000000) = True from by simp, d1, d2, if_true, List.cons_append, List.nil_append]
        · simp [vS]
        · rfl
      · rcases List.mem_append.mp hv with h | h
        · rcases List.mem_append.mp h with h | h
          · exact hv2 v h
          · exact vB3 v h
        · rw [List.mem_singleton.mp h]
          exact VS.tup (by rw [List.length_cons]; omega)
  obtain ⟨C, eC, vC'⟩ := s9
  obtain ⟨dr, edr, ldr⟩ := lv7 (D := D) (TR := TR) (WS := WS) (i := i) (told := some (.d (.tuple (.str t0 :: rest)))) (dy := some (.d (.tuple dd))) hD hn
  unfold fb_law_10
  refine cut_nx (m' := vS D none none none none none none none none none none none none none none none none) ?_
  rw [seq_nx s1, seq_nx s2]
  rw [seq_nx (m' := vS D none (some (.d (.int (i : Nat)))) (some (.d (trD TR))) (some (.d (wsD WS))) (some (.d (.tuple (.str t0 :: rest)))) (some (.d (.tuple bs))) none none none none none none none none none none) (set_nx (w := .d (.tuple bs)) (by rw [ofV_s, eb]; rfl) (by simp [vS]))]
  rw [seq_nx (m' := vS D none (some (.d (.int (i : Nat)))) (some (.d (trD TR))) (some (.d (wsD WS))) (some (.d (.tuple (.str t0 :: rest)))) (some (.d (.tuple bs))) (some (.d (.list []))) none none none none none none none none none) (set_nx (w := .d (.list [])) (by rfl) (by simp [vS]))]
  rw [seq_nx eP]
  rw [seq_nx (m' := vS D none (some (.d (.int (i : Nat)))) (some (.d (trD TR))) (some (.d (wsD WS))) (some (.d (.tuple (.str t0 :: rest)))) (some (.d (.tuple bs))) (some (.d (.tuple P))) none none none none none none none none none) (set_nx (w := .d (.tuple P)) (by simp [vS]) (by simp [vS]))]
  rw [seq_nx (m' := vS D none (some (.d (.int (i : Nat)))) (some (.d (trD TR))) (some (.d (wsD WS))) (some (.d (.tuple (.str t0 :: rest)))) (some (.d (.tuple bs))) (some (.d (.tuple P))) none (some (.d (.list B))) none none none none none none none) (set_nx (w := .d (.list B)) (by rw [ofV_s, eB]; rfl) (by simp [vS]))]
  rw [seq_nx (m' := vS D none (some (.d (.int (i : Nat)))) (some (.d (trD TR))) (some (.d (wsD WS))) (some (.d (.tuple (.str t0 :: rest)))) (some (.d (.tuple bs))) (some (.d (.tuple P))) none (some (.d (.list (B ++ B2)))) none none none none none none none) (set_nx (w := .d (.list (B ++ B2))) (by rw [ofV_s, eB2]; rfl) (by simp [vS]))]
  rw [seq_nx eC]
  rw [seq_nx (m' := vS D none (some (.d (.int (i : Nat)))) (some (.d (trD TR))) (some (.d (wsD WS))) (some (.d (.tuple (.str t0 :: rest)))) none none none none none none none none none none none) (by
    refine cut_nx (m' := vS D none (some (.d (.int (i : Nat)))) (some (.d (trD TR))) (some (.d (wsD WS))) (some (.d (.tuple (.str t0 :: rest)))) none none none (some (.d (.list C))) none none none none none none none) ?_
    rw [sPre_s, sFor_s, show wipeM (vS D none (some (.d (.int (i : Nat)))) (some (.d (trD TR))) (some (.d (wsD WS))) (some (.d (.tuple (.str t0 :: rest)))) (some (.d (.tuple bs))) (some (.d (.tuple P))) none (some (.d (.list C))) none none none none none none none) [0, 6, 7, 8, 10, 11, 12, 13, 14, 15, 16] = vS D none (some (.d (.int (i : Nat)))) (some (.d (trD TR))) (some (.d (wsD WS))) (some (.d (.tuple (.str t0 :: rest)))) none none none (some (.d (.list C))) none none none none none none none from rfl,
      show iSeq (vVar 9) (vS D none (some (.d (.int (i : Nat)))) (some (.d (trD TR))) (some (.d (wsD WS))) (some (.d (.tuple (.str t0 :: rest)))) none none none (some (.d (.list C))) none none none none none none none) = .ok C from rfl]
    exact goFor_const fun v hv => ⟨vS D none (some (.d (.int (i : Nat)))) (some (.d (trD TR))) (some (.d (wsD WS))) (some (.d (.tuple (.str t0 :: rest)))) none none none (some (.d (.list C))) (some (.d v)) none none none none none none, by simp [vS], f5 (by omega) (by omega) hck hs5 (vC' v hv)⟩)]
  rw [seq_nx (m' := vS D none (some (.d (.int (i : Nat)))) (some (.d (trD TR))) (some (.d (wsD WS))) (some (.d (.tuple (.str t0 :: rest)))) none none none none none (some (.d (.tuple dd))) none none none none none) (set_nx (w := .d (.tuple dd)) (by rw [ofV_s, ed]; rfl) (by simp [vS]))]
  rw [seq_nx (m' := vS D none (some (.d (.int (i : Nat)))) (some (.d (trD TR))) (some (.d (wsD WS))) (some (.d (.tuple (.str t0 :: rest)))) none none none none none (some (.d (.tuple dd))) (some (.d (.tuple dr))) none none none none) (set_nx (w := .d (.tuple dr)) (by
    simp only [ofV_s, toV_s, eCall_s, evalAll_cons, evalAll_nil, edr, Rz.bind_ok, g1_s, tupleD_l, ofO_some', rz_map_ok]) (by simp [vS]))]
  refine cut_nx (m' := vS D none none (some (.d (trD TR))) (some (.d (wsD WS))) (some (.d (.tuple (.str t0 :: rest)))) none none none none none (some (.d (.tuple dd))) (some (.d (.tuple dr))) none none none none) ?_
  rw [sPre_s, sFor_s, show wipeM (vS D none (some (.d (.int (i : Nat)))) (some (.d (trD TR))) (some (.d (wsD WS))) (some (.d (.tuple (.str t0 :: rest)))) none none none none none (some (.d (.tuple dd))) (some (.d (.tuple dr))) none none none none) [0, 2, 6, 7, 8, 9, 10, 13, 14, 15, 16] = vS D none none (some (.d (trD TR))) (some (.d (wsD WS))) (some (.d (.tuple (.str t0 :: rest)))) none none none none none (some (.d (.tuple dd))) (some (.d (.tuple dr))) none none none none from rfl]
  have ei : iSeq (eTup [(vIf (t2 eqD (toV (e2 ixD (rVar 5) (vC (.int 0)))) (vC (.str "short"))) (toV (e2 ixD (rVar 5) (vC (.int 1)))) (vC (.int 0))), (vC (.int 0)), (vC (.int 1)), (vC (.int 5)), (vC (.int 6)), (toV (e1 negD (vC (.int 1)))), (vC (.bool true)), (vC .none)]) (vS D none none (some (.d (trD TR))) (some (.d (wsD WS))) (some (.d (.tuple (.str t0 :: rest)))) none none none none none (some (.d (.tuple dd))) (some (.d (.tuple dr))) none none none none) = .ok [kd, .int 0, .int 1, .int 5, .int 6, .int (-1), .bool true, .none] := by
    rw [iSeq_s, eTup_s, evalAll_cons, ek]
    rfl
  rw [ei]
  exact goFor_const fun v hv => ⟨vS D none none (some (.d (trD TR))) (some (.d (wsD WS))) (some (.d (.tuple (.str t0 :: rest)))) none none none none none (some (.d (.tuple dd))) (some (.d (.tuple dr))) (some (.d v)) none none none, by simp [vS], f9 hck hs8 ld (by omega)⟩
end
end Dl
set_option Elab.async false
set_option linter.all false
set_option maxRecDepth 100000
namespace Dl
open PySem PySem.Spec PyProof.Rows L2
def TRc : List Tray := [⟨0, 0, 3, 2⟩, ⟨0, 2, 0, 9⟩]
def WSa : List Wish := [⟨0, 1, 1⟩, ⟨0, 3, 2⟩]
def WSb : List Wish := [⟨0, 3, 2⟩]
theorem tc_ok : trB (trD TRc) = true := by rfl
theorem wa_ok : wsB (wsD WSa) = true := by rfl
theorem wb_ok : wsB (wsD WSb) = true := by rfl
theorem end_a : m_days_fault [some (.d (trD TRc)), some (.d (wsD WSa)), some (.d (.int 0)), some (.d (.tuple [.int 1, .int 3]))] = .ok .none := by
  refine (m_days_fault_ok (TR := TRc) (WS := WSa) (kind := .int 0) (days := .tuple [.int 1, .int 3]) (k := 0) (ds := [1, 3]) (tr_ok tc_ok wa_ok).2.2 fun _ => ⟨rfl, rfl⟩).trans ?_
  rfl
theorem end_b : m_days_fault [some (.d (trD TRc)), some (.d (wsD WSa)), some (.d (.int 0)), some (.d (.tuple [.int 1, .int 2, .int 3]))] = .ok (.tuple [.str "enough", .int 8]) := by
  refine (m_days_fault_ok (TR := TRc) (WS := WSa) (kind := .int 0) (days := .tuple [.int 1, .int 2, .int 3]) (k := 0) (ds := [1, 2, 3]) (tr_ok tc_ok wa_ok).2.2 fun _ => ⟨rfl, rfl⟩).trans ?_
  rfl
theorem end_c : m_met_fault [some (.d (trD TRc)), some (.d (wsD WSb)), some (.d (.tuple [.tuple [.int 1, .int 0, .int 2]]))] = .ok (.tuple [.str "tray", .int 1, .int 0]) := by
  refine (m_met_fault_ok (TR := TRc) (WS := WSb) (v := .tuple [.tuple [.int 1, .int 0, .int 2]]) (X := [((1, 0), 2)]) (tr_ok tc_ok wb_ok).2.2 fun _ => ⟨rfl, ⟨fun p hp => by rw [List.mem_singleton.mp hp]; decide⟩⟩).trans ?_
  rfl
set_option maxHeartbeats 4000000 in
/-- the law, as plain mathematics -/
theorem m_law_ok (ns : List Int) (h : ns.length ≤ 63) : fnW N_law.length b_law [some (.r ns)] = .ok (.bool true) := by
  obtain ⟨D, e, hD, hn⟩ := m_draws_ok ns h
  refine fn_rt (M := [some (.r ns), none, none, none, none, none, none, none, none, none, none, none, none, none, none, none, none, none, none, none, none, none]) rfl ?_
  unfold b_law
  rw [seq_nx (m' := vS D (some (.r ns)) none none none none none none none none none none none none none none none) (by
    refine set_nx (w := .d (.list (D.map .int))) ?_ (by simp)
    simp [vFnR, rAt, e])]
  have hl : goFor (gSet 2) fb_law_10 (rngL 0 6) (vS D none none none none none none none none none none none none none none none none) = .nx (vS D none none none none none none none none none none none none none none none none) :=
    goFor_const (s := gSet 2) (b := fb_law_10) (m := vS D none none none none none none none none none none none none none none none none) fun x hx => by
      obtain ⟨i, hi, e⟩ := rngL_mem hx
      subst e
      refine ⟨vS D none (some (.d (.int (i : Nat)))) none none none none none none none none none none none none none none, ?_, ?_⟩
      · simp [vS]
      · exact fb10 hD hn hi
  rw [seq_nx (m' := [none, none, none, none, none, none, none, none, none, none, none, none, none, none, none, none, none, none, none, none, none, none]) (by
    refine cut_nx (m' := vS D none none none none none none none none none none none none none none none none) ?_
    rw [sPre_s, sFor_s]
    have : ∀ m, iArg rng1 [(vC (.int 6))] m = .ok (rngL 0 6) := fun m => by
      rw [iArg_s]; exact rngN (n := 6) (by decide)
    rw [this]
    exact hl)]
  rw [seq_nx (m' := [none, none, none, some (.d (trD TRc)), none, none, none, none, none, none, none, none, none, none, none, none, none, none, none, none, none, none]) (by rfl)]
  rw [seq_nx (m' := [none, none, none, some (.d (trD TRc)), some (.d (wsD WSa)), none, none, none, none, none, none, none, none, none, none, none, none, none, none, none, none, none]) (by rfl)]
  have ea := end_a
  have eb := end_b
  have ec : m_met_fault [some (.d (trD TRc)), some (.d (.tuple [.tuple [.int 0, .int 3, .int 2]])), some (.d (.tuple [.tuple [.int 1, .int 0, .int 2]]))] = _ := end_c
  have ev1 : neD (.tuple [.str "enough", .int 8]) (.tuple [.str "enough", .int 8]) = some false := by simp [neD, PyData.depth, PyData.depthAll, PyData.eqv, PyData.eqvAll]
  have ev3 : eqD (.tuple [.str "tray", .int 1, .int 0]) (.tuple [.str "tray", .int 1, .int 0]) = some true := by simp [eqD, PyData.depth, PyData.depthAll, PyData.eqv, PyData.eqvAll]
  rw [seq_nx (m' := [none, none, none, some (.d (trD TRc)), some (.d (wsD WSa)), none, none, none, none, none, none, none, none, none, none, none, none, none, none, none, none, none]) (by
    rw [sIf_f (by
      rw [or_f (by
        simp only [t2_s, vFn_s, evalAll_cons, evalAll_nil, eTup_s, vC_s, vVar_s, List.getElem?_cons_succ, List.getElem?_cons_zero, Rz.bind_ok, rz_map_ok, List.map_cons, List.map_nil, ea]
        rfl)]
      simp only [t2_s, vFn_s, evalAll_cons, evalAll_nil, eTup_s, vC_s, vVar_s, List.getElem?_cons_succ, List.getElem?_cons_zero, Rz.bind_ok, rz_map_ok, List.map_cons, List.map_nil, eb, ev1, ofO_some'])]
    rfl)]
  refine ret_rt ?_
  simp only [v2_s, t2_s, vFn_s, evalAll_cons, evalAll_nil, eTup_s, vC_s, vVar_s, List.getElem?_cons_succ, List.getElem?_cons_zero, Rz.bind_ok, rz_map_ok, List.map_cons, List.map_nil, ec, ev3, ofO_some']
end Dl
set_option Elab.async false
set_option linter.all false
set_option maxRecDepth 100000
/-! the end, printed by gen.py -/
namespace Dl
open PySem PySem.Spec PyProof.Rows L2
set_option maxHeartbeats 8000000 in
theorem fx_of {K : PySem.W.Frag} {h : Heap} {mg : Str → Option Value} (X : K.In h) (G : h.Ns mainGlobals mg)
  {a_FORM : Addr} {od_FORM : Option Addr} {n_FORM : Nat} {sl_FORM : Array (Option Value)} {tk_FORM_0 : Tok}
  {tk_MOST_DAY : Tok}
  {tk_MOST_KIND : Tok}
  {tk_MOST_PIECES : Tok}
  {tk_MOST_ROWS : Tok}
  {f__law_draws : Addr} {oc__law_draws : Value} {od__law_draws an__law_draws : Option Addr} {sl__law_draws : Array (Option Value)} {kV__law_draws dc__law_draws pm__law_draws cd__law_draws ct__law_draws : Value}
  {f__law_trays : Addr} {oc__law_trays : Value} {od__law_trays an__law_trays : Option Addr} {sl__law_trays : Array (Option Value)} {kV__law_trays dc__law_trays pm__law_trays cd__law_trays ct__law_trays : Value}
  {f__law_wishes : Addr} {oc__law_wishes : Value} {od__law_wishes an__law_wishes : Option Addr} {sl__law_wishes : Array (Option Value)} {kV__law_wishes dc__law_wishes pm__law_wishes cd__law_wishes ct__law_wishes : Value}
  {f_is_whole : Addr} {oc_is_whole : Value} {od_is_whole an_is_whole : Option Addr} {sl_is_whole : Array (Option Value)} {kV_is_whole dc_is_whole pm_is_whole cd_is_whole ct_is_whole : Value}
  {f__is_tray : Addr} {oc__is_tray : Value} {od__is_tray an__is_tray : Option Addr} {sl__is_tray : Array (Option Value)} {kV__is_tray dc__is_tray pm__is_tray cd__is_tray ct__is_tray : Value}
  {f_ascends : Addr} {oc_ascends : Value} {od_ascends an_ascends : Option Addr} {sl_ascends : Array (Option Value)} {kV_ascends dc_ascends pm_ascends cd_ascends ct_ascends : Value}
  {f__is_wish : Addr} {oc__is_wish : Value} {od__is_wish an__is_wish : Option Addr} {sl__is_wish : Array (Option Value)} {kV__is_wish dc__is_wish pm__is_wish cd__is_wish ct__is_wish : Value}
  {f__check : Addr} {oc__check : Value} {od__check an__check : Option Addr} {sl__check : Array (Option Value)} {kV__check dc__check pm__check cd__check ct__check : Value}
  {f__has : Addr} {oc__has : Value} {od__has an__has : Option Addr} {sl__has : Array (Option Value)} {kV__has dc__has pm__has cd__has ct__has : Value}
  {f__given : Addr} {oc__given : Value} {od__given an__given : Option Addr} {sl__given : Array (Option Value)} {kV__given dc__given pm__given cd__given ct__given : Value}
  {f__short_days : Addr} {oc__short_days : Value} {od__short_days an__short_days : Option Addr} {sl__short_days : Array (Option Value)} {kV__short_days dc__short_days pm__short_days cd__short_days ct__short_days : Value}
  {f_met : Addr} {oc_met : Value} {od_met an_met : Option Addr} {sl_met : Array (Option Value)} {kV_met dc_met pm_met cd_met ct_met : Value}
  {f__law_has : Addr} {oc__law_has : Value} {od__law_has an__law_has : Option Addr} {sl__law_has : Array (Option Value)} {kV__law_has dc__law_has pm__law_has cd__law_has ct__law_has : Value}
  {f__law_is_number : Addr} {oc__law_is_number : Value} {od__law_is_number an__law_is_number : Option Addr} {sl__law_is_number : Array (Option Value)} {kV__law_is_number dc__law_is_number pm__law_is_number cd__law_is_number ct__law_is_number : Value}
  {f__law_met_due : Addr} {oc__law_met_due : Value} {od__law_met_due an__law_met_due : Option Addr} {sl__law_met_due : Array (Option Value)} {kV__law_met_due dc__law_met_due pm__law_met_due cd__law_met_due ct__law_met_due : Value}
  {f__are_rows : Addr} {oc__are_rows : Value} {od__are_rows an__are_rows : Option Addr} {sl__are_rows : Array (Option Value)} {kV__are_rows dc__are_rows pm__are_rows cd__are_rows ct__are_rows : Value}
  {f__fault : Addr} {oc__fault : Value} {od__fault an__fault : Option Addr} {sl__fault : Array (Option Value)} {kV__fault dc__fault pm__fault cd__fault ct__fault : Value}
  {f_met_fault : Addr} {oc_met_fault : Value} {od_met_fault an_met_fault : Option Addr} {sl_met_fault : Array (Option Value)} {kV_met_fault dc_met_fault pm_met_fault cd_met_fault ct_met_fault : Value}
  {f_left_on : Addr} {oc_left_on : Value} {od_left_on an_left_on : Option Addr} {sl_left_on : Array (Option Value)} {kV_left_on dc_left_on pm_left_on cd_left_on ct_left_on : Value}
  {f__law_left : Addr} {oc__law_left : Value} {od__law_left an__law_left : Option Addr} {sl__law_left : Array (Option Value)} {kV__law_left dc__law_left pm__law_left cd__law_left ct__law_left : Value}
  {f__law_days_due : Addr} {oc__law_days_due : Value} {od__law_days_due an__law_days_due : Option Addr} {sl__law_days_due : Array (Option Value)} {kV__law_days_due dc__law_days_due pm__law_days_due cd__law_days_due ct__law_days_due : Value}
  {f_days_fault : Addr} {oc_days_fault : Value} {od_days_fault an_days_fault : Option Addr} {sl_days_fault : Array (Option Value)} {kV_days_fault dc_days_fault pm_days_fault cd_days_fault ct_days_fault : Value}
  {f_law : Addr} {oc_law : Value} {od_law an_law : Option Addr} {sl_law : Array (Option Value)} {kV_law dc_law pm_law cd_law ct_law : Value}
  {C0 : Addr} {C1 : Addr} {C2 : Addr} {C3 : Addr}
  (z_abs : PySem.W.nsIn K mainGlobals "abs" = some none)
  (z_all : PySem.W.nsIn K mainGlobals "all" = some none)
  (z_any : PySem.W.nsIn K mainGlobals "any" = some none)
  (z_bool : PySem.W.nsIn K mainGlobals "bool" = some none)
  (z_enumerate : PySem.W.nsIn K mainGlobals "enumerate" = some none)
  (z_int : PySem.W.nsIn K mainGlobals "int" = some none)
  (z_isinstance : PySem.W.nsIn K mainGlobals "isinstance" = some none)
  (z_len : PySem.W.nsIn K mainGlobals "len" = some none)
  (z_list : PySem.W.nsIn K mainGlobals "list" = some none)
  (z_min : PySem.W.nsIn K mainGlobals "min" = some none)
  (z_range : PySem.W.nsIn K mainGlobals "range" = some none)
  (z_set : PySem.W.nsIn K mainGlobals "set" = some none)
  (z_sorted : PySem.W.nsIn K mainGlobals "sorted" = some none)
  (z_sum : PySem.W.nsIn K mainGlobals "sum" = some none)
  (z_tuple : PySem.W.nsIn K mainGlobals "tuple" = some none)
  (z_zip : PySem.W.nsIn K mainGlobals "zip" = some none)
  (v_FORM : PySem.W.nsIn K mainGlobals "FORM" = some (some (.ref a_FORM)))
  (l_FORM : K.lookup a_FORM = some ⟨.type "tuple", od_FORM, .seq #[.str "form" tk_FORM_0] n_FORM, sl_FORM⟩)
  (v_MOST_DAY : PySem.W.nsIn K mainGlobals "MOST_DAY" = some (some (.int 13 tk_MOST_DAY)))
  (v_MOST_KIND : PySem.W.nsIn K mainGlobals "MOST_KIND" = some (some (.int 5 tk_MOST_KIND)))
  (v_MOST_PIECES : PySem.W.nsIn K mainGlobals "MOST_PIECES" = some (some (.int 50 tk_MOST_PIECES)))
  (v_MOST_ROWS : PySem.W.nsIn K mainGlobals "MOST_ROWS" = some (some (.int 12 tk_MOST_ROWS)))
  (a__law_draws : PySem.W.nsIn K mainGlobals "_law_draws" = some (some (.ref f__law_draws)))
  (l__law_draws : K.lookup f__law_draws = some ⟨oc__law_draws, od__law_draws, .func (PySem.W.fnOf "_law_draws" "_law_draws" (defArgs s__law_draws) (defBody s__law_draws) (defScope s__law_draws) .none kV__law_draws dc__law_draws pm__law_draws an__law_draws cd__law_draws ct__law_draws), sl__law_draws⟩)
  (c__law_draws : PySem.W.codeIn K cd__law_draws "_law_draws" = true) (k__law_draws : PySem.W.keepIn K (.ref f__law_draws) = true)
  (a__law_trays : PySem.W.nsIn K mainGlobals "_law_trays" = some (some (.ref f__law_trays)))
  (l__law_trays : K.lookup f__law_trays = some ⟨oc__law_trays, od__law_trays, .func (PySem.W.fnOf "_law_trays" "_law_trays" (defArgs s__law_trays) (defBody s__law_trays) (defScope s__law_trays) .none kV__law_trays dc__law_trays pm__law_trays an__law_trays cd__law_trays ct__law_trays), sl__law_trays⟩)
  (c__law_trays : PySem.W.codeIn K cd__law_trays "_law_trays" = true) (k__law_trays : PySem.W.keepIn K (.ref f__law_trays) = true)
  (a__law_wishes : PySem.W.nsIn K mainGlobals "_law_wishes" = some (some (.ref f__law_wishes)))
  (l__law_wishes : K.lookup f__law_wishes = some ⟨oc__law_wishes, od__law_wishes, .func (PySem.W.fnOf "_law_wishes" "_law_wishes" (defArgs s__law_wishes) (defBody s__law_wishes) (defScope s__law_wishes) .none kV__law_wishes dc__law_wishes pm__law_wishes an__law_wishes cd__law_wishes ct__law_wishes), sl__law_wishes⟩)
  (c__law_wishes : PySem.W.codeIn K cd__law_wishes "_law_wishes" = true) (k__law_wishes : PySem.W.keepIn K (.ref f__law_wishes) = true)
  (a_is_whole : PySem.W.nsIn K mainGlobals "is_whole" = some (some (.ref f_is_whole)))
  (l_is_whole : K.lookup f_is_whole = some ⟨oc_is_whole, od_is_whole, .func (PySem.W.fnOf "is_whole" "is_whole" (defArgs s_is_whole) (defBody s_is_whole) (defScope s_is_whole) .none kV_is_whole dc_is_whole pm_is_whole an_is_whole cd_is_whole ct_is_whole), sl_is_whole⟩)
  (c_is_whole : PySem.W.codeIn K cd_is_whole "is_whole" = true) (k_is_whole : PySem.W.keepIn K (.ref f_is_whole) = true)
  (a__is_tray : PySem.W.nsIn K mainGlobals "_is_tray" = some (some (.ref f__is_tray)))
  (l__is_tray : K.lookup f__is_tray = some ⟨oc__is_tray, od__is_tray, .func (PySem.W.fnOf "_is_tray" "_is_tray" (defArgs s__is_tray) (defBody s__is_tray) (defScope s__is_tray) .none kV__is_tray dc__is_tray pm__is_tray an__is_tray cd__is_tray ct__is_tray), sl__is_tray⟩)
  (c__is_tray : PySem.W.codeIn K cd__is_tray "_is_tray" = true) (k__is_tray : PySem.W.keepIn K (.ref f__is_tray) = true)
  (a_ascends : PySem.W.nsIn K mainGlobals "ascends" = some (some (.ref f_ascends)))
  (l_ascends : K.lookup f_ascends = some ⟨oc_ascends, od_ascends, .func (PySem.W.fnOf "ascends" "ascends" (defArgs s_ascends) (defBody s_ascends) (defScope s_ascends) .none kV_ascends dc_ascends pm_ascends an_ascends cd_ascends ct_ascends), sl_ascends⟩)
  (c_ascends : PySem.W.codeIn K cd_ascends "ascends" = true) (k_ascends : PySem.W.keepIn K (.ref f_ascends) = true)
  (a__is_wish : PySem.W.nsIn K mainGlobals "_is_wish" = some (some (.ref f__is_wish)))
  (l__is_wish : K.lookup f__is_wish = some ⟨oc__is_wish, od__is_wish, .func (PySem.W.fnOf "_is_wish" "_is_wish" (defArgs s__is_wish) (defBody s__is_wish) (defScope s__is_wish) .none kV__is_wish dc__is_wish pm__is_wish an__is_wish cd__is_wish ct__is_wish), sl__is_wish⟩)
  (c__is_wish : PySem.W.codeIn K cd__is_wish "_is_wish" = true) (k__is_wish : PySem.W.keepIn K (.ref f__is_wish) = true)
  (a__check : PySem.W.nsIn K mainGlobals "_check" = some (some (.ref f__check)))
  (l__check : K.lookup f__check = some ⟨oc__check, od__check, .func (PySem.W.fnOf "_check" "_check" (defArgs s__check) (defBody s__check) (defScope s__check) .none kV__check dc__check pm__check an__check cd__check ct__check), sl__check⟩)
  (c__check : PySem.W.codeIn K cd__check "_check" = true) (k__check : PySem.W.keepIn K (.ref f__check) = true)
  (a__has : PySem.W.nsIn K mainGlobals "_has" = some (some (.ref f__has)))
  (l__has : K.lookup f__has = some ⟨oc__has, od__has, .func (PySem.W.fnOf "_has" "_has" (defArgs s__has) (defBody s__has) (defScope s__has) .none kV__has dc__has pm__has an__has cd__has ct__has), sl__has⟩)
  (c__has : PySem.W.codeIn K cd__has "_has" = true) (k__has : PySem.W.keepIn K (.ref f__has) = true)
  (a__given : PySem.W.nsIn K mainGlobals "_given" = some (some (.ref f__given)))
  (l__given : K.lookup f__given = some ⟨oc__given, od__given, .func (PySem.W.fnOf "_given" "_given" (defArgs s__given) (defBody s__given) (defScope s__given) .none kV__given dc__given pm__given an__given cd__given ct__given), sl__given⟩)
  (c__given : PySem.W.codeIn K cd__given "_given" = true) (k__given : PySem.W.keepIn K (.ref f__given) = true)
  (a__short_days : PySem.W.nsIn K mainGlobals "_short_days" = some (some (.ref f__short_days)))
  (l__short_days : K.lookup f__short_days = some ⟨oc__short_days, od__short_days, .func (PySem.W.fnOf "_short_days" "_short_days" (defArgs s__short_days) (defBody s__short_days) (defScope s__short_days) .none kV__short_days dc__short_days pm__short_days an__short_days cd__short_days ct__short_days), sl__short_days⟩)
  (c__short_days : PySem.W.codeIn K cd__short_days "_short_days" = true) (k__short_days : PySem.W.keepIn K (.ref f__short_days) = true)
  (a_met : PySem.W.nsIn K mainGlobals "met" = some (some (.ref f_met)))
  (l_met : K.lookup f_met = some ⟨oc_met, od_met, .func (PySem.W.fnOf "met" "met" (defArgs s_met) (defBody s_met) (defScope s_met) .none kV_met dc_met pm_met an_met cd_met ct_met), sl_met⟩)
  (c_met : PySem.W.codeIn K cd_met "met" = true) (k_met : PySem.W.keepIn K (.ref f_met) = true)
  (a__law_has : PySem.W.nsIn K mainGlobals "_law_has" = some (some (.ref f__law_has)))
  (l__law_has : K.lookup f__law_has = some ⟨oc__law_has, od__law_has, .func (PySem.W.fnOf "_law_has" "_law_has" (defArgs s__law_has) (defBody s__law_has) (defScope s__law_has) .none kV__law_has dc__law_has pm__law_has an__law_has cd__law_has ct__law_has), sl__law_has⟩)
  (c__law_has : PySem.W.codeIn K cd__law_has "_law_has" = true) (k__law_has : PySem.W.keepIn K (.ref f__law_has) = true)
  (a__law_is_number : PySem.W.nsIn K mainGlobals "_law_is_number" = some (some (.ref f__law_is_number)))
  (l__law_is_number : K.lookup f__law_is_number = some ⟨oc__law_is_number, od__law_is_number, .func (PySem.W.fnOf "_law_is_number" "_law_is_number" (defArgs s__law_is_number) (defBody s__law_is_number) (defScope s__law_is_number) .none kV__law_is_number dc__law_is_number pm__law_is_number an__law_is_number cd__law_is_number ct__law_is_number), sl__law_is_number⟩)
  (c__law_is_number : PySem.W.codeIn K cd__law_is_number "_law_is_number" = true) (k__law_is_number : PySem.W.keepIn K (.ref f__law_is_number) = true)
  (a__law_met_due : PySem.W.nsIn K mainGlobals "_law_met_due" = some (some (.ref f__law_met_due)))
  (l__law_met_due : K.lookup f__law_met_due = some ⟨oc__law_met_due, od__law_met_due, .func (PySem.W.fnOf "_law_met_due" "_law_met_due" (defArgs s__law_met_due) (defBody s__law_met_due) (defScope s__law_met_due) .none kV__law_met_due dc__law_met_due pm__law_met_due an__law_met_due cd__law_met_due ct__law_met_due), sl__law_met_due⟩)
  (c__law_met_due : PySem.W.codeIn K cd__law_met_due "_law_met_due" = true) (k__law_met_due : PySem.W.keepIn K (.ref f__law_met_due) = true)
  (a__are_rows : PySem.W.nsIn K mainGlobals "_are_rows" = some (some (.ref f__are_rows)))
  (l__are_rows : K.lookup f__are_rows = some ⟨oc__are_rows, od__are_rows, .func (PySem.W.fnOf "_are_rows" "_are_rows" (defArgs s__are_rows) (defBody s__are_rows) (defScope s__are_rows) .none kV__are_rows dc__are_rows pm__are_rows an__are_rows cd__are_rows ct__are_rows), sl__are_rows⟩)
  (c__are_rows : PySem.W.codeIn K cd__are_rows "_are_rows" = true) (k__are_rows : PySem.W.keepIn K (.ref f__are_rows) = true)
  (a__fault : PySem.W.nsIn K mainGlobals "_fault" = some (some (.ref f__fault)))
  (l__fault : K.lookup f__fault = some ⟨oc__fault, od__fault, .func (PySem.W.fnOf "_fault" "_fault" (defArgs s__fault) (defBody s__fault) (defScope s__fault) .none kV__fault dc__fault pm__fault an__fault cd__fault ct__fault), sl__fault⟩)
  (c__fault : PySem.W.codeIn K cd__fault "_fault" = true) (k__fault : PySem.W.keepIn K (.ref f__fault) = true)
  (a_met_fault : PySem.W.nsIn K mainGlobals "met_fault" = some (some (.ref f_met_fault)))
  (l_met_fault : K.lookup f_met_fault = some ⟨oc_met_fault, od_met_fault, .func (PySem.W.fnOf "met_fault" "met_fault" (defArgs s_met_fault) (defBody s_met_fault) (defScope s_met_fault) .none kV_met_fault dc_met_fault pm_met_fault an_met_fault cd_met_fault ct_met_fault), sl_met_fault⟩)
  (c_met_fault : PySem.W.codeIn K cd_met_fault "met_fault" = true) (k_met_fault : PySem.W.keepIn K (.ref f_met_fault) = true)
  (a_left_on : PySem.W.nsIn K mainGlobals "left_on" = some (some (.ref f_left_on)))
  (l_left_on : K.lookup f_left_on = some ⟨oc_left_on, od_left_on, .func (PySem.W.fnOf "left_on" "left_on" (defArgs s_left_on) (defBody s_left_on) (defScope s_left_on) .none kV_left_on dc_left_on pm_left_on an_left_on cd_left_on ct_left_on), sl_left_on⟩)
  (c_left_on : PySem.W.codeIn K cd_left_on "left_on" = true) (k_left_on : PySem.W.keepIn K (.ref f_left_on) = true)
  (a__law_left : PySem.W.nsIn K mainGlobals "_law_left" = some (some (.ref f__law_left)))
  (l__law_left : K.lookup f__law_left = some ⟨oc__law_left, od__law_left, .func (PySem.W.fnOf "_law_left" "_law_left" (defArgs s__law_left) (defBody s__law_left) (defScope s__law_left) .none kV__law_left dc__law_left pm__law_left an__law_left cd__law_left ct__law_left), sl__law_left⟩)
  (c__law_left : PySem.W.codeIn K cd__law_left "_law_left" = true) (k__law_left : PySem.W.keepIn K (.ref f__law_left) = true)
  (a__law_days_due : PySem.W.nsIn K mainGlobals "_law_days_due" = some (some (.ref f__law_days_due)))
  (l__law_days_due : K.lookup f__law_days_due = some ⟨oc__law_days_due, od__law_days_due, .func (PySem.W.fnOf "_law_days_due" "_law_days_due" (defArgs s__law_days_due) (defBody s__law_days_due) (defScope s__law_days_due) .none kV__law_days_due dc__law_days_due pm__law_days_due an__law_days_due cd__law_days_due ct__law_days_due), sl__law_days_due⟩)
  (c__law_days_due : PySem.W.codeIn K cd__law_days_due "_law_days_due" = true) (k__law_days_due : PySem.W.keepIn K (.ref f__law_days_due) = true)
  (a_days_fault : PySem.W.nsIn K mainGlobals "days_fault" = some (some (.ref f_days_fault)))
  (l_days_fault : K.lookup f_days_fault = some ⟨oc_days_fault, od_days_fault, .func (PySem.W.fnOf "days_fault" "days_fault" (defArgs s_days_fault) (defBody s_days_fault) (defScope s_days_fault) .none kV_days_fault dc_days_fault pm_days_fault an_days_fault cd_days_fault ct_days_fault), sl_days_fault⟩)
  (c_days_fault : PySem.W.codeIn K cd_days_fault "days_fault" = true) (k_days_fault : PySem.W.keepIn K (.ref f_days_fault) = true)
  (a_law : PySem.W.nsIn K mainGlobals "law" = some (some (.ref f_law)))
  (l_law : K.lookup f_law = some ⟨oc_law, od_law, .func (PySem.W.fnOf "law" "law" (defArgs s_law) (defBody s_law) (defScope s_law) .none kV_law dc_law pm_law an_law cd_law ct_law), sl_law⟩)
  (c_law : PySem.W.codeIn K cd_law "law" = true) (k_law : PySem.W.keepIn K (.ref f_law) = true)
  (aC0 : PySem.W.nsIn K mainGlobals "BakeError" = some (some (.ref C0)))
  (bC0 : PySem.W.subIn K (.ref C0) (.type "BaseException") = some true) (tC0 : PySem.W.typeIn K (.ref C0) = some (.type "type"))
  (aC1 : PySem.W.nsIn K mainGlobals "BadTrays" = some (some (.ref C1)))
  (bC1 : PySem.W.subIn K (.ref C1) (.type "BaseException") = some true) (tC1 : PySem.W.typeIn K (.ref C1) = some (.type "type"))
  (aC2 : PySem.W.nsIn K mainGlobals "BadWishes" = some (some (.ref C2)))
  (bC2 : PySem.W.subIn K (.ref C2) (.type "BaseException") = some true) (tC2 : PySem.W.typeIn K (.ref C2) = some (.type "type"))
  (aC3 : PySem.W.nsIn K mainGlobals "BadRows" = some (some (.ref C3)))
  (bC3 : PySem.W.subIn K (.ref C3) (.type "BaseException") = some true) (tC3 : PySem.W.typeIn K (.ref C3) = some (.type "type"))
  (xC1 : PySem.W.excIn K C1 [.type "ValueError", .type "Exception", .type "BaseException", .type "object"] "ValueError.__new__" = true) (kC1 : PySem.W.keepIn K (.ref C1) = true)
  (xC2 : PySem.W.excIn K C2 [.type "ValueError", .type "Exception", .type "BaseException", .type "object"] "ValueError.__new__" = true) (kC2 : PySem.W.keepIn K (.ref C2) = true)
  (xC3 : PySem.W.excIn K C3 [.type "ValueError", .type "Exception", .type "BaseException", .type "object"] "ValueError.__new__" = true) (kC3 : PySem.W.keepIn K (.ref C3) = true)
  (hC0 : PySem.W.hasDictIn K C0 = true)
  (s1_0 : PySem.W.subIn K (.ref C1) (.ref C0) = some true)
  (s2_0 : PySem.W.subIn K (.ref C2) (.ref C0) = some true)
  (s3_0 : PySem.W.subIn K (.ref C3) (.ref C0) = some true)
  (g1_1 : PySem.W.findIn K (.ref C1) "__getattribute__" = some (some (.builtin "BaseException.__getattribute__"))) (g2_1 : PySem.W.findIn K (.ref C1) "__getattr__" = some none) (g3_1 : PySem.W.hasDictIn K C1 = true) (g4_1 : PySem.W.findIn K (.ref C1) "__class__" = some (some (.builtin "object.__class__"))) (g5_1 : PySem.W.specialIn K (.builtin "object.__class__") "__get__" = some (some (.builtin "getset_descriptor.__get__"))) (g6_1 : PySem.W.takesIn K (.builtin "object.__class__") = some true) (g7_1 : PySem.W.mroIn K C1 (.type "object") = some true)
  (g1_2 : PySem.W.findIn K (.ref C2) "__getattribute__" = some (some (.builtin "BaseException.__getattribute__"))) (g2_2 : PySem.W.findIn K (.ref C2) "__getattr__" = some none) (g3_2 : PySem.W.hasDictIn K C2 = true) (g4_2 : PySem.W.findIn K (.ref C2) "__class__" = some (some (.builtin "object.__class__"))) (g5_2 : PySem.W.specialIn K (.builtin "object.__class__") "__get__" = some (some (.builtin "getset_descriptor.__get__"))) (g6_2 : PySem.W.takesIn K (.builtin "object.__class__") = some true) (g7_2 : PySem.W.mroIn K C2 (.type "object") = some true)
  (g1_3 : PySem.W.findIn K (.ref C3) "__getattribute__" = some (some (.builtin "BaseException.__getattribute__"))) (g2_3 : PySem.W.findIn K (.ref C3) "__getattr__" = some none) (g3_3 : PySem.W.hasDictIn K C3 = true) (g4_3 : PySem.W.findIn K (.ref C3) "__class__" = some (some (.builtin "object.__class__"))) (g5_3 : PySem.W.specialIn K (.builtin "object.__class__") "__get__" = some (some (.builtin "getset_descriptor.__get__"))) (g6_3 : PySem.W.takesIn K (.builtin "object.__class__") = some true) (g7_3 : PySem.W.mroIn K C3 (.type "object") = some true)
  (kt1_3 : PySem.W.kitOne K (.ref C1) (.ref C3) = some false)
  (kt2_3 : PySem.W.kitOne K (.ref C2) (.ref C3) = some false) : Fx K mg (ctL [C0, C1, C2, C3]) where
  b_abs := PySem.W.mg_none_of X G z_abs
  b_all := PySem.W.mg_none_of X G z_all
  b_any := PySem.W.mg_none_of X G z_any
  b_bool := PySem.W.mg_none_of X G z_bool
  b_enumerate := PySem.W.mg_none_of X G z_enumerate
  b_int := PySem.W.mg_none_of X G z_int
  b_isinstance := PySem.W.mg_none_of X G z_isinstance
  b_len := PySem.W.mg_none_of X G z_len
  b_list := PySem.W.mg_none_of X G z_list
  b_min := PySem.W.mg_none_of X G z_min
  b_range := PySem.W.mg_none_of X G z_range
  b_set := PySem.W.mg_none_of X G z_set
  b_sorted := PySem.W.mg_none_of X G z_sorted
  b_sum := PySem.W.mg_none_of X G z_sum
  b_tuple := PySem.W.mg_none_of X G z_tuple
  b_zip := PySem.W.mg_none_of X G z_zip
  g_FORM := ⟨.ref a_FORM, .ref a_FORM, PySem.W.mg_of X G v_FORM, rfl, fun _ _ => .tupK (xs := [V.str "form"]) (fun _ => .inr ⟨_, #[.str "form" tk_FORM_0], n_FORM, l_FORM, rfl, rfl, by (show 1 ≤ sizeLine); rw [sizeLine_eq]; decide, (.cons ⟨tk_FORM_0, rfl⟩ .nil)⟩) rfl (.cons (.str _) .nil)⟩
  g_MOST_DAY := ⟨.int 13, .int 13 tk_MOST_DAY, PySem.W.mg_of X G v_MOST_DAY, ⟨tk_MOST_DAY, rfl⟩, fun _ _ => .int 13⟩
  g_MOST_KIND := ⟨.int 5, .int 5 tk_MOST_KIND, PySem.W.mg_of X G v_MOST_KIND, ⟨tk_MOST_KIND, rfl⟩, fun _ _ => .int 5⟩
  g_MOST_PIECES := ⟨.int 50, .int 50 tk_MOST_PIECES, PySem.W.mg_of X G v_MOST_PIECES, ⟨tk_MOST_PIECES, rfl⟩, fun _ _ => .int 50⟩
  g_MOST_ROWS := ⟨.int 12, .int 12 tk_MOST_ROWS, PySem.W.mg_of X G v_MOST_ROWS, ⟨tk_MOST_ROWS, rfl⟩, fun _ _ => .int 12⟩
  d__law_draws := ⟨f__law_draws, _, fun_mk (st := s__law_draws) l__law_draws c__law_draws k__law_draws, PySem.W.mg_of X G a__law_draws, (fun_mk (st := s__law_draws) l__law_draws c__law_draws k__law_draws).binds (ps := ["script", "many"]) fun _ _ _ _ _ _ us hl => match us, hl with | [_, _], _ => rfl⟩
  d__law_trays := ⟨f__law_trays, _, fun_mk (st := s__law_trays) l__law_trays c__law_trays k__law_trays, PySem.W.mg_of X G a__law_trays, (fun_mk (st := s__law_trays) l__law_trays c__law_trays k__law_trays).binds (ps := ["draws"]) fun _ _ _ _ _ _ us hl => match us, hl with | [_], _ => rfl⟩
  d__law_wishes := ⟨f__law_wishes, _, fun_mk (st := s__law_wishes) l__law_wishes c__law_wishes k__law_wishes, PySem.W.mg_of X G a__law_wishes, (fun_mk (st := s__law_wishes) l__law_wishes c__law_wishes k__law_wishes).binds (ps := ["draws"]) fun _ _ _ _ _ _ us hl => match us, hl with | [_], _ => rfl⟩
  d_is_whole := ⟨f_is_whole, _, fun_mk (st := s_is_whole) l_is_whole c_is_whole k_is_whole, PySem.W.mg_of X G a_is_whole, (fun_mk (st := s_is_whole) l_is_whole c_is_whole k_is_whole).binds (ps := ["value", "least", "most"]) fun _ _ _ _ _ _ us hl => match us, hl with | [_, _, _], _ => rfl⟩
  d__is_tray := ⟨f__is_tray, _, fun_mk (st := s__is_tray) l__is_tray c__is_tray k__is_tray, PySem.W.mg_of X G a__is_tray, (fun_mk (st := s__is_tray) l__is_tray c__is_tray k__is_tray).binds (ps := ["value"]) fun _ _ _ _ _ _ us hl => match us, hl with | [_], _ => rfl⟩
  d_ascends := ⟨f_ascends, _, fun_mk (st := s_ascends) l_ascends c_ascends k_ascends, PySem.W.mg_of X G a_ascends, (fun_mk (st := s_ascends) l_ascends c_ascends k_ascends).binds (ps := ["values"]) fun _ _ _ _ _ _ us hl => match us, hl with | [_], _ => rfl⟩
  d__is_wish := ⟨f__is_wish, _, fun_mk (st := s__is_wish) l__is_wish c__is_wish k__is_wish, PySem.W.mg_of X G a__is_wish, (fun_mk (st := s__is_wish) l__is_wish c__is_wish k__is_wish).binds (ps := ["value"]) fun _ _ _ _ _ _ us hl => match us, hl with | [_], _ => rfl⟩
  d__check := ⟨f__check, _, fun_mk (st := s__check) l__check c__check k__check, PySem.W.mg_of X G a__check, (fun_mk (st := s__check) l__check c__check k__check).binds (ps := ["trays", "wishes"]) fun _ _ _ _ _ _ us hl => match us, hl with | [_, _], _ => rfl⟩
  d__has := ⟨f__has, _, fun_mk (st := s__has) l__has c__has k__has, PySem.W.mg_of X G a__has, (fun_mk (st := s__has) l__has c__has k__has).binds (ps := ["tray", "kind", "day"]) fun _ _ _ _ _ _ us hl => match us, hl with | [_, _, _], _ => rfl⟩
  d__given := ⟨f__given, _, fun_mk (st := s__given) l__given c__given k__given, PySem.W.mg_of X G a__given, (fun_mk (st := s__given) l__given c__given k__given).binds (ps := ["trays", "wishes"]) fun _ _ _ _ _ _ us hl => match us, hl with | [_, _], _ => rfl⟩
  d__short_days := ⟨f__short_days, _, fun_mk (st := s__short_days) l__short_days c__short_days k__short_days, PySem.W.mg_of X G a__short_days, (fun_mk (st := s__short_days) l__short_days c__short_days k__short_days).binds (ps := ["trays", "wishes", "rows", "start"]) fun _ _ _ _ _ _ us hl => match us, hl with | [_, _, _, _], _ => rfl⟩
  d_met := ⟨f_met, _, fun_mk (st := s_met) l_met c_met k_met, PySem.W.mg_of X G a_met, (fun_mk (st := s_met) l_met c_met k_met).binds (ps := ["trays", "wishes"]) fun _ _ _ _ _ _ us hl => match us, hl with | [_, _], _ => rfl⟩
  d__law_has := ⟨f__law_has, _, fun_mk (st := s__law_has) l__law_has c__law_has k__law_has, PySem.W.mg_of X G a__law_has, (fun_mk (st := s__law_has) l__law_has c__law_has k__law_has).binds (ps := ["tray", "wish"]) fun _ _ _ _ _ _ us hl => match us, hl with | [_, _], _ => rfl⟩
  d__law_is_number := ⟨f__law_is_number, _, fun_mk (st := s__law_is_number) l__law_is_number c__law_is_number k__law_is_number, PySem.W.mg_of X G a__law_is_number, (fun_mk (st := s__law_is_number) l__law_is_number c__law_is_number k__law_is_number).binds (ps := ["value", "least", "most"]) fun _ _ _ _ _ _ us hl => match us, hl with | [_, _, _], _ => rfl⟩
  d__law_met_due := ⟨f__law_met_due, _, fun_mk (st := s__law_met_due) l__law_met_due c__law_met_due k__law_met_due, PySem.W.mg_of X G a__law_met_due, (fun_mk (st := s__law_met_due) l__law_met_due c__law_met_due k__law_met_due).binds (ps := ["trays", "wishes", "value"]) fun _ _ _ _ _ _ us hl => match us, hl with | [_, _, _], _ => rfl⟩
  d__are_rows := ⟨f__are_rows, _, fun_mk (st := s__are_rows) l__are_rows c__are_rows k__are_rows, PySem.W.mg_of X G a__are_rows, (fun_mk (st := s__are_rows) l__are_rows c__are_rows k__are_rows).binds (ps := ["trays", "wishes", "value"]) fun _ _ _ _ _ _ us hl => match us, hl with | [_, _, _], _ => rfl⟩
  d__fault := ⟨f__fault, _, fun_mk (st := s__fault) l__fault c__fault k__fault, PySem.W.mg_of X G a__fault, (fun_mk (st := s__fault) l__fault c__fault k__fault).binds (ps := ["trays", "wishes", "rows"]) fun _ _ _ _ _ _ us hl => match us, hl with | [_, _, _], _ => rfl⟩
  d_met_fault := ⟨f_met_fault, _, fun_mk (st := s_met_fault) l_met_fault c_met_fault k_met_fault, PySem.W.mg_of X G a_met_fault, (fun_mk (st := s_met_fault) l_met_fault c_met_fault k_met_fault).binds (ps := ["trays", "wishes", "rows"]) fun _ _ _ _ _ _ us hl => match us, hl with | [_, _, _], _ => rfl⟩
  d_left_on := ⟨f_left_on, _, fun_mk (st := s_left_on) l_left_on c_left_on k_left_on, PySem.W.mg_of X G a_left_on, (fun_mk (st := s_left_on) l_left_on c_left_on k_left_on).binds (ps := ["trays", "wishes", "rows"]) fun _ _ _ _ _ _ us hl => match us, hl with | [_, _, _], _ => rfl⟩
  d__law_left := ⟨f__law_left, _, fun_mk (st := s__law_left) l__law_left c__law_left k__law_left, PySem.W.mg_of X G a__law_left, (fun_mk (st := s__law_left) l__law_left c__law_left k__law_left).binds (ps := ["trays", "wishes", "rows"]) fun _ _ _ _ _ _ us hl => match us, hl with | [_, _, _], _ => rfl⟩
  d__law_days_due := ⟨f__law_days_due, _, fun_mk (st := s__law_days_due) l__law_days_due c__law_days_due k__law_days_due, PySem.W.mg_of X G a__law_days_due, (fun_mk (st := s__law_days_due) l__law_days_due c__law_days_due k__law_days_due).binds (ps := ["trays", "wishes", "kind", "days"]) fun _ _ _ _ _ _ us hl => match us, hl with | [_, _, _, _], _ => rfl⟩
  d_days_fault := ⟨f_days_fault, _, fun_mk (st := s_days_fault) l_days_fault c_days_fault k_days_fault, PySem.W.mg_of X G a_days_fault, (fun_mk (st := s_days_fault) l_days_fault c_days_fault k_days_fault).binds (ps := ["trays", "wishes", "kind", "days"]) fun _ _ _ _ _ _ us hl => match us, hl with | [_, _, _, _], _ => rfl⟩
  d_law := ⟨f_law, _, fun_mk (st := s_law) l_law c_law k_law, PySem.W.mg_of X G a_law, (fun_mk (st := s_law) l_law c_law k_law).binds (ps := ["script"]) fun _ _ _ _ _ _ us hl => match us, hl with | [_], _ => rfl⟩
  x_BadTrays := ⟨⟨C1, rfl, xC1, PySem.W.mg_of X G aC1, kC1, bC1, tC1⟩⟩
  x_BadWishes := ⟨⟨C2, rfl, xC2, PySem.W.mg_of X G aC2, kC2, bC2, tC2⟩⟩
  x_BadRows := ⟨⟨C3, rfl, xC3, PySem.W.mg_of X G aC3, kC3, bC3, tC3⟩⟩
  n_BadRows := PySem.W.mg_of X G aC3
  n_BakeError := PySem.W.mg_of X G aC0
  p_BakeError := fun n b e => match n, e with | 0, e => by cases e | 1, e => by cases e; exact PySem.W.exm_ref bC0 hC0 tC0 s1_0 | 2, e => by cases e; exact PySem.W.exm_ref bC0 hC0 tC0 s2_0 | 3, e => by cases e; exact PySem.W.exm_ref bC0 hC0 tC0 s3_0 | _ + 4, e => by cases e
  i_BadRows := fun n b e => match n, e with | 0, e => by cases e | 1, e => by cases e; exact ⟨C1, rfl, ⟨g1_1, g2_1, bC1, g3_1, g4_1, g5_1, g6_1, g7_1⟩, kt1_3⟩ | 2, e => by cases e; exact ⟨C2, rfl, ⟨g1_2, g2_2, bC2, g3_2, g4_2, g5_2, g6_2, g7_2⟩, kt2_3⟩ | 3, e => by cases e; exact ⟨C3, rfl, ⟨g1_3, g2_3, bC3, g3_3, g4_3, g5_3, g6_3, g7_3⟩, by (show (if (Value.ref C3 == Value.ref C3) = true then some true else _) = _); rw [if_pos (by simp)]⟩ | _ + 4, e => by cases e
def spLaw (K : PySem.W.Frag) : Sp := fun vs H Q _ => ∃ (a : Addr) (ns : List Int), vs = [.ref a] ∧ ((∃ o, H a = some (.frz o (.lst (ns.map V.int)))) ∨ ∀ H, SqL K H a (ns.map V.int)) ∧ ns.length ≤ 63 ∧ ∀ H', Q (.bl true) H'
theorem law_imp {P : Program} {w : World} {K : PySem.W.Frag} {mg : Str → Option Value} {base : Heap} {ct : CT} {f : Addr} {fd : FuncData} (h : FnOk P w K mg base (L2.CX P w) 6 f fd ["script"] (spW ct K ["script"].length (fnW N_law.length b_law))) : FnOk P w K mg base (L2.CX P w) 6 f fd ["script"] (spLaw K) :=
  h.imp fun vs H Q E ⟨a, ns, e, hs, hl, q⟩ => by
    subst e
    refine ⟨fun _ => False, [some (.r ns)], rfl, fun _ z => z.elim, .so (f := []) (.r hs) .nil, ?_⟩
    have e : fnW N_law.length b_law [some (.r ns)] = .ok (.bool true) := m_law_ok ns hl
    rw [e]
    intro v H' Fz' _ _ _ r
    cases r
    exact q H'
set_option maxHeartbeats 8000000 in
theorem all_mk {P : Program} {w : World} {fa : Addr} {K : PySem.W.Frag} {h : Heap} {mg : Str → Option Value} (X : K.In h) (G : h.Ns mainGlobals mg)
  {a_FORM : Addr} {od_FORM : Option Addr} {n_FORM : Nat} {sl_FORM : Array (Option Value)} {tk_FORM_0 : Tok}
  {tk_MOST_DAY : Tok}
  {tk_MOST_KIND : Tok}
  {tk_MOST_PIECES : Tok}
  {tk_MOST_ROWS : Tok}
  {f__law_draws : Addr} {oc__law_draws : Value} {od__law_draws an__law_draws : Option Addr} {sl__law_draws : Array (Option Value)} {kV__law_draws dc__law_draws pm__law_draws cd__law_draws ct__law_draws : Value}
  {f__law_trays : Addr} {oc__law_trays : Value} {od__law_trays an__law_trays : Option Addr} {sl__law_trays : Array (Option Value)} {kV__law_trays dc__law_trays pm__law_trays cd__law_trays ct__law_trays : Value}
  {f__law_wishes : Addr} {oc__law_wishes : Value} {od__law_wishes an__law_wishes : Option Addr} {sl__law_wishes : Array (Option Value)} {kV__law_wishes dc__law_wishes pm__law_wishes cd__law_wishes ct__law_wishes : Value}
  {f_is_whole : Addr} {oc_is_whole : Value} {od_is_whole an_is_whole : Option Addr} {sl_is_whole : Array (Option Value)} {kV_is_whole dc_is_whole pm_is_whole cd_is_whole ct_is_whole : Value}
  {f__is_tray : Addr} {oc__is_tray : Value} {od__is_tray an__is_tray : Option Addr} {sl__is_tray : Array (Option Value)} {kV__is_tray dc__is_tray pm__is_tray cd__is_tray ct__is_tray : Value}
  {f_ascends : Addr} {oc_ascends : Value} {od_ascends an_ascends : Option Addr} {sl_ascends : Array (Option Value)} {kV_ascends dc_ascends pm_ascends cd_ascends ct_ascends : Value}
  {f__is_wish : Addr} {oc__is_wish : Value} {od__is_wish an__is_wish : Option Addr} {sl__is_wish : Array (Option Value)} {kV__is_wish dc__is_wish pm__is_wish cd__is_wish ct__is_wish : Value}
  {f__check : Addr} {oc__check : Value} {od__check an__check : Option Addr} {sl__check : Array (Option Value)} {kV__check dc__check pm__check cd__check ct__check : Value}
  {f__has : Addr} {oc__has : Value} {od__has an__has : Option Addr} {sl__has : Array (Option Value)} {kV__has dc__has pm__has cd__has ct__has : Value}
  {f__given : Addr} {oc__given : Value} {od__given an__given : Option Addr} {sl__given : Array (Option Value)} {kV__given dc__given pm__given cd__given ct__given : Value}
  {f__short_days : Addr} {oc__short_days : Value} {od__short_days an__short_days : Option Addr} {sl__short_days : Array (Option Value)} {kV__short_days dc__short_days pm__short_days cd__short_days ct__short_days : Value}
  {f_met : Addr} {oc_met : Value} {od_met an_met : Option Addr} {sl_met : Array (Option Value)} {kV_met dc_met pm_met cd_met ct_met : Value}
  {f__law_has : Addr} {oc__law_has : Value} {od__law_has an__law_has : Option Addr} {sl__law_has : Array (Option Value)} {kV__law_has dc__law_has pm__law_has cd__law_has ct__law_has : Value}
  {f__law_is_number : Addr} {oc__law_is_number : Value} {od__law_is_number an__law_is_number : Option Addr} {sl__law_is_number : Array (Option Value)} {kV__law_is_number dc__law_is_number pm__law_is_number cd__law_is_number ct__law_is_number : Value}
  {f__law_met_due : Addr} {oc__law_met_due : Value} {od__law_met_due an__law_met_due : Option Addr} {sl__law_met_due : Array (Option Value)} {kV__law_met_due dc__law_met_due pm__law_met_due cd__law_met_due ct__law_met_due : Value}
  {f__are_rows : Addr} {oc__are_rows : Value} {od__are_rows an__are_rows : Option Addr} {sl__are_rows : Array (Option Value)} {kV__are_rows dc__are_rows pm__are_rows cd__are_rows ct__are_rows : Value}
  {f__fault : Addr} {oc__fault : Value} {od__fault an__fault : Option Addr} {sl__fault : Array (Option Value)} {kV__fault dc__fault pm__fault cd__fault ct__fault : Value}
  {f_met_fault : Addr} {oc_met_fault : Value} {od_met_fault an_met_fault : Option Addr} {sl_met_fault : Array (Option Value)} {kV_met_fault dc_met_fault pm_met_fault cd_met_fault ct_met_fault : Value}
  {f_left_on : Addr} {oc_left_on : Value} {od_left_on an_left_on : Option Addr} {sl_left_on : Array (Option Value)} {kV_left_on dc_left_on pm_left_on cd_left_on ct_left_on : Value}
  {f__law_left : Addr} {oc__law_left : Value} {od__law_left an__law_left : Option Addr} {sl__law_left : Array (Option Value)} {kV__law_left dc__law_left pm__law_left cd__law_left ct__law_left : Value}
  {f__law_days_due : Addr} {oc__law_days_due : Value} {od__law_days_due an__law_days_due : Option Addr} {sl__law_days_due : Array (Option Value)} {kV__law_days_due dc__law_days_due pm__law_days_due cd__law_days_due ct__law_days_due : Value}
  {f_days_fault : Addr} {oc_days_fault : Value} {od_days_fault an_days_fault : Option Addr} {sl_days_fault : Array (Option Value)} {kV_days_fault dc_days_fault pm_days_fault cd_days_fault ct_days_fault : Value}
  {f_law : Addr} {oc_law : Value} {od_law an_law : Option Addr} {sl_law : Array (Option Value)} {kV_law dc_law pm_law cd_law ct_law : Value}
  {C0 : Addr} {C1 : Addr} {C2 : Addr} {C3 : Addr}
  (z_abs : PySem.W.nsIn K mainGlobals "abs" = some none)
  (z_all : PySem.W.nsIn K mainGlobals "all" = some none)
  (z_any : PySem.W.nsIn K mainGlobals "any" = some none)
  (z_bool : PySem.W.nsIn K mainGlobals "bool" = some none)
  (z_enumerate : PySem.W.nsIn K mainGlobals "enumerate" = some none)
  (z_int : PySem.W.nsIn K mainGlobals "int" = some none)
  (z_isinstance : PySem.W.nsIn K mainGlobals "isinstance" = some none)
  (z_len : PySem.W.nsIn K mainGlobals "len" = some none)
  (z_list : PySem.W.nsIn K mainGlobals "list" = some none)
  (z_min : PySem.W.nsIn K mainGlobals "min" = some none)
  (z_range : PySem.W.nsIn K mainGlobals "range" = some none)
  (z_set : PySem.W.nsIn K mainGlobals "set" = some none)
  (z_sorted : PySem.W.nsIn K mainGlobals "sorted" = some none)
  (z_sum : PySem.W.nsIn K mainGlobals "sum" = some none)
  (z_tuple : PySem.W.nsIn K mainGlobals "tuple" = some none)
  (z_zip : PySem.W.nsIn K mainGlobals "zip" = some none)
  (v_FORM : PySem.W.nsIn K mainGlobals "FORM" = some (some (.ref a_FORM)))
  (l_FORM : K.lookup a_FORM = some ⟨.type "tuple", od_FORM, .seq #[.str "form" tk_FORM_0] n_FORM, sl_FORM⟩)
  (v_MOST_DAY : PySem.W.nsIn K mainGlobals "MOST_DAY" = some (some (.int 13 tk_MOST_DAY)))
  (v_MOST_KIND : PySem.W.nsIn K mainGlobals "MOST_KIND" = some (some (.int 5 tk_MOST_KIND)))
  (v_MOST_PIECES : PySem.W.nsIn K mainGlobals "MOST_PIECES" = some (some (.int 50 tk_MOST_PIECES)))
  (v_MOST_ROWS : PySem.W.nsIn K mainGlobals "MOST_ROWS" = some (some (.int 12 tk_MOST_ROWS)))
  (a__law_draws : PySem.W.nsIn K mainGlobals "_law_draws" = some (some (.ref f__law_draws)))
  (l__law_draws : K.lookup f__law_draws = some ⟨oc__law_draws, od__law_draws, .func (PySem.W.fnOf "_law_draws" "_law_draws" (defArgs s__law_draws) (defBody s__law_draws) (defScope s__law_draws) .none kV__law_draws dc__law_draws pm__law_draws an__law_draws cd__law_draws ct__law_draws), sl__law_draws⟩)
  (c__law_draws : PySem.W.codeIn K cd__law_draws "_law_draws" = true) (k__law_draws : PySem.W.keepIn K (.ref f__law_draws) = true)
  (a__law_trays : PySem.W.nsIn K mainGlobals "_law_trays" = some (some (.ref f__law_trays)))
  (l__law_trays : K.lookup f__law_trays = some ⟨oc__law_trays, od__law_trays, .func (PySem.W.fnOf "_law_trays" "_law_trays" (defArgs s__law_trays) (defBody s__law_trays) (defScope s__law_trays) .none kV__law_trays dc__law_trays pm__law_trays an__law_trays cd__law_trays ct__law_trays), sl__law_trays⟩)
  (c__law_trays : PySem.W.codeIn K cd__law_trays "_law_trays" = true) (k__law_trays : PySem.W.keepIn K (.ref f__law_trays) = true)
  (a__law_wishes : PySem.W.nsIn K mainGlobals "_law_wishes" = some (some (.ref f__law_wishes)))
  (l__law_wishes : K.lookup f__law_wishes = some ⟨oc__law_wishes, od__law_wishes, .func (PySem.W.fnOf "_law_wishes" "_law_wishes" (defArgs s__law_wishes) (defBody s__law_wishes) (defScope s__law_wishes) .none kV__law_wishes dc__law_wishes pm__law_wishes an__law_wishes cd__law_wishes ct__law_wishes), sl__law_wishes⟩)
  (c__law_wishes : PySem.W.codeIn K cd__law_wishes "_law_wishes" = true) (k__law_wishes : PySem.W.keepIn K (.ref f__law_wishes) = true)
  (a_is_whole : PySem.W.nsIn K mainGlobals "is_whole" = some (some (.ref f_is_whole)))
  (l_is_whole : K.lookup f_is_whole = some ⟨oc_is_whole, od_is_whole, .func (PySem.W.fnOf "is_whole" "is_whole" (defArgs s_is_whole) (defBody s_is_whole) (defScope s_is_whole) .none kV_is_whole dc_is_whole pm_is_whole an_is_whole cd_is_whole ct_is_whole), sl_is_whole⟩)
  (c_is_whole : PySem.W.codeIn K cd_is_whole "is_whole" = true) (k_is_whole : PySem.W.keepIn K (.ref f_is_whole) = true)
  (a__is_tray : PySem.W.nsIn K mainGlobals "_is_tray" = some (some (.ref f__is_tray)))
  (l__is_tray : K.lookup f__is_tray = some ⟨oc__is_tray, od__is_tray, .func (PySem.W.fnOf "_is_tray" "_is_tray" (defArgs s__is_tray) (defBody s__is_tray) (defScope s__is_tray) .none kV__is_tray dc__is_tray pm__is_tray an__is_tray cd__is_tray ct__is_tray), sl__is_tray⟩)
  (c__is_tray : PySem.W.codeIn K cd__is_tray "_is_tray" = true) (k__is_tray : PySem.W.keepIn K (.ref f__is_tray) = true)
  (a_ascends : PySem.W.nsIn K mainGlobals "ascends" = some (some (.ref f_ascends)))
  (l_ascends : K.lookup f_ascends = some ⟨oc_ascends, od_ascends, .func (PySem.W.fnOf "ascends" "ascends" (defArgs s_ascends) (defBody s_ascends) (defScope s_ascends) .none kV_ascends dc_ascends pm_ascends an_ascends cd_ascends ct_ascends), sl_ascends⟩)
  (c_ascends : PySem.W.codeIn K cd_ascends "ascends" = true) (k_ascends : PySem.W.keepIn K (.ref f_ascends) = true)
  (a__is_wish : PySem.W.nsIn K mainGlobals "_is_wish" = some (some (.ref f__is_wish)))
  (l__is_wish : K.lookup f__is_wish = some ⟨oc__is_wish, od__is_wish, .func (PySem.W.fnOf "_is_wish" "_is_wish" (defArgs s__is_wish) (defBody s__is_wish) (defScope s__is_wish) .none kV__is_wish dc__is_wish pm__is_wish an__is_wish cd__is_wish ct__is_wish), sl__is_wish⟩)
  (c__is_wish : PySem.W.codeIn K cd__is_wish "_is_wish" = true) (k__is_wish : PySem.W.keepIn K (.ref f__is_wish) = true)
  (a__check : PySem.W.nsIn K mainGlobals "_check" = some (some (.ref f__check)))
  (l__check : K.lookup f__check = some ⟨oc__check, od__check, .func (PySem.W.fnOf "_check" "_check" (defArgs s__check) (defBody s__check) (defScope s__check) .none kV__check dc__check pm__check an__check cd__check ct__check), sl__check⟩)
  (c__check : PySem.W.codeIn K cd__check "_check" = true) (k__check : PySem.W.keepIn K (.ref f__check) = true)
  (a__has : PySem.W.nsIn K mainGlobals "_has" = some (some (.ref f__has)))
  (l__has : K.lookup f__has = some ⟨oc__has, od__has, .func (PySem.W.fnOf "_has" "_has" (defArgs s__has) (defBody s__has) (defScope s__has) .none kV__has dc__has pm__has an__has cd__has ct__has), sl__has⟩)
  (c__has : PySem.W.codeIn K cd__has "_has" = true) (k__has : PySem.W.keepIn K (.ref f__has) = true)
  (a__given : PySem.W.nsIn K mainGlobals "_given" = some (some (.ref f__given)))
  (l__given : K.lookup f__given = some ⟨oc__given, od__given, .func (PySem.W.fnOf "_given" "_given" (defArgs s__given) (defBody s__given) (defScope s__given) .none kV__given dc__given pm__given an__given cd__given ct__given), sl__given⟩)
  (c__given : PySem.W.codeIn K cd__given "_given" = true) (k__given : PySem.W.keepIn K (.ref f__given) = true)
  (a__short_days : PySem.W.nsIn K mainGlobals "_short_days" = some (some (.ref f__short_days)))
  (l__short_days : K.lookup f__short_days = some ⟨oc__short_days, od__short_days, .func (PySem.W.fnOf "_short_days" "_short_days" (defArgs s__short_days) (defBody s__short_days) (defScope s__short_days) .none kV__short_days dc__short_days pm__short_days an__short_days cd__short_days ct__short_days), sl__short_days⟩)
  (c__short_days : PySem.W.codeIn K cd__short_days "_short_days" = true) (k__short_days : PySem.W.keepIn K (.ref f__short_days) = true)
  (a_met : PySem.W.nsIn K mainGlobals "met" = some (some (.ref f_met)))
  (l_met : K.lookup f_met = some ⟨oc_met, od_met, .func (PySem.W.fnOf "met" "met" (defArgs s_met) (defBody s_met) (defScope s_met) .none kV_met dc_met pm_met an_met cd_met ct_met), sl_met⟩)
  (c_met : PySem.W.codeIn K cd_met "met" = true) (k_met : PySem.W.keepIn K (.ref f_met) = true)
  (a__law_has : PySem.W.nsIn K mainGlobals "_law_has" = some (some (.ref f__law_has)))
  (l__law_has : K.lookup f__law_has = some ⟨oc__law_has, od__law_has, .func (PySem.W.fnOf "_law_has" "_law_has" (defArgs s__law_has) (defBody s__law_has) (defScope s__law_has) .none kV__law_has dc__law_has pm__law_has an__law_has cd__law_has ct__law_has), sl__law_has⟩)
  (c__law_has : PySem.W.codeIn K cd__law_has "_law_has" = true) (k__law_has : PySem.W.keepIn K (.ref f__law_has) = true)
  (a__law_is_number : PySem.W.nsIn K mainGlobals "_law_is_number" = some (some (.ref f__law_is_number)))
  (l__law_is_number : K.lookup f__law_is_number = some ⟨oc__law_is_number, od__law_is_number, .func (PySem.W.fnOf "_law_is_number" "_law_is_number" (defArgs s__law_is_number) (defBody s__law_is_number) (defScope s__law_is_number) .none kV__law_is_number dc__law_is_number pm__law_is_number an__law_is_number cd__law_is_number ct__law_is_number), sl__law_is_number⟩)
  (c__law_is_number : PySem.W.codeIn K cd__law_is_number "_law_is_number" = true) (k__law_is_number : PySem.W.keepIn K (.ref f__law_is_number) = true)
  (a__law_met_due : PySem.W.nsIn K mainGlobals "_law_met_due" = some (some (.ref f__law_met_due)))
  (l__law_met_due : K.lookup f__law_met_due = some ⟨oc__law_met_due, od__law_met_due, .func (PySem.W.fnOf "_law_met_due" "_law_met_due" (defArgs s__law_met_due) (defBody s__law_met_due) (defScope s__law_met_due) .none kV__law_met_due dc__law_met_due pm__law_met_due an__law_met_due cd__law_met_due ct__law_met_due), sl__law_met_due⟩)
  (c__law_met_due : PySem.W.codeIn K cd__law_met_due "_law_met_due" = true) (k__law_met_due : PySem.W.keepIn K (.ref f__law_met_due) = true)
  (a__are_rows : PySem.W.nsIn K mainGlobals "_are_rows" = some (some (.ref f__are_rows)))
  (l__are_rows : K.lookup f__are_rows = some ⟨oc__are_rows, od__are_rows, .func (PySem.W.fnOf "_are_rows" "_are_rows" (defArgs s__are_rows) (defBody s__are_rows) (defScope s__are_rows) .none kV__are_rows dc__are_rows pm__are_rows an__are_rows cd__are_rows ct__are_rows), sl__are_rows⟩)
  (c__are_rows : PySem.W.codeIn K cd__are_rows "_are_rows" = true) (k__are_rows : PySem.W.keepIn K (.ref f__are_rows) = true)
  (a__fault : PySem.W.nsIn K mainGlobals "_fault" = some (some (.ref f__fault)))
  (l__fault : K.lookup f__fault = some ⟨oc__fault, od__fault, .func (PySem.W.fnOf "_fault" "_fault" (defArgs s__fault) (defBody s__fault) (defScope s__fault) .none kV__fault dc__fault pm__fault an__fault cd__fault ct__fault), sl__fault⟩)
  (c__fault : PySem.W.codeIn K cd__fault "_fault" = true) (k__fault : PySem.W.keepIn K (.ref f__fault) = true)
  (a_met_fault : PySem.W.nsIn K mainGlobals "met_fault" = some (some (.ref f_met_fault)))
  (l_met_fault : K.lookup f_met_fault = some ⟨oc_met_fault, od_met_fault, .func (PySem.W.fnOf "met_fault" "met_fault" (defArgs s_met_fault) (defBody s_met_fault) (defScope s_met_fault) .none kV_met_fault dc_met_fault pm_met_fault an_met_fault cd_met_fault ct_met_fault), sl_met_fault⟩)
  (c_met_fault : PySem.W.codeIn K cd_met_fault "met_fault" = true) (k_met_fault : PySem.W.keepIn K (.ref f_met_fault) = true)
  (a_left_on : PySem.W.nsIn K mainGlobals "left_on" = some (some (.ref f_left_on)))
  (l_left_on : K.lookup f_left_on = some ⟨oc_left_on, od_left_on, .func (PySem.W.fnOf "left_on" "left_on" (defArgs s_left_on) (defBody s_left_on) (defScope s_left_on) .none kV_left_on dc_left_on pm_left_on an_left_on cd_left_on ct_left_on), sl_left_on⟩)
  (c_left_on : PySem.W.codeIn K cd_left_on "left_on" = true) (k_left_on : PySem.W.keepIn K (.ref f_left_on) = true)
  (a__law_left : PySem.W.nsIn K mainGlobals "_law_left" = some (some (.ref f__law_left)))
  (l__law_left : K.lookup f__law_left = some ⟨oc__law_left, od__law_left, .func (PySem.W.fnOf "_law_left" "_law_left" (defArgs s__law_left) (defBody s__law_left) (defScope s__law_left) .none kV__law_left dc__law_left pm__law_left an__law_left cd__law_left ct__law_left), sl__law_left⟩)
  (c__law_left : PySem.W.codeIn K cd__law_left "_law_left" = true) (k__law_left : PySem.W.keepIn K (.ref f__law_left) = true)
  (a__law_days_due : PySem.W.nsIn K mainGlobals "_law_days_due" = some (some (.ref f__law_days_due)))
  (l__law_days_due : K.lookup f__law_days_due = some ⟨oc__law_days_due, od__law_days_due, .func (PySem.W.fnOf "_law_days_due" "_law_days_due" (defArgs s__law_days_due) (defBody s__law_days_due) (defScope s__law_days_due) .none kV__law_days_due dc__law_days_due pm__law_days_due an__law_days_due cd__law_days_due ct__law_days_due), sl__law_days_due⟩)
  (c__law_days_due : PySem.W.codeIn K cd__law_days_due "_law_days_due" = true) (k__law_days_due : PySem.W.keepIn K (.ref f__law_days_due) = true)
  (a_days_fault : PySem.W.nsIn K mainGlobals "days_fault" = some (some (.ref f_days_fault)))
  (l_days_fault : K.lookup f_days_fault = some ⟨oc_days_fault, od_days_fault, .func (PySem.W.fnOf "days_fault" "days_fault" (defArgs s_days_fault) (defBody s_days_fault) (defScope s_days_fault) .none kV_days_fault dc_days_fault pm_days_fault an_days_fault cd_days_fault ct_days_fault), sl_days_fault⟩)
  (c_days_fault : PySem.W.codeIn K cd_days_fault "days_fault" = true) (k_days_fault : PySem.W.keepIn K (.ref f_days_fault) = true)
  (a_law : PySem.W.nsIn K mainGlobals "law" = some (some (.ref f_law)))
  (l_law : K.lookup f_law = some ⟨oc_law, od_law, .func (PySem.W.fnOf "law" "law" (defArgs s_law) (defBody s_law) (defScope s_law) .none kV_law dc_law pm_law an_law cd_law ct_law), sl_law⟩)
  (c_law : PySem.W.codeIn K cd_law "law" = true) (k_law : PySem.W.keepIn K (.ref f_law) = true)
  (aC0 : PySem.W.nsIn K mainGlobals "BakeError" = some (some (.ref C0)))
  (bC0 : PySem.W.subIn K (.ref C0) (.type "BaseException") = some true) (tC0 : PySem.W.typeIn K (.ref C0) = some (.type "type"))
  (aC1 : PySem.W.nsIn K mainGlobals "BadTrays" = some (some (.ref C1)))
  (bC1 : PySem.W.subIn K (.ref C1) (.type "BaseException") = some true) (tC1 : PySem.W.typeIn K (.ref C1) = some (.type "type"))
  (aC2 : PySem.W.nsIn K mainGlobals "BadWishes" = some (some (.ref C2)))
  (bC2 : PySem.W.subIn K (.ref C2) (.type "BaseException") = some true) (tC2 : PySem.W.typeIn K (.ref C2) = some (.type "type"))
  (aC3 : PySem.W.nsIn K mainGlobals "BadRows" = some (some (.ref C3)))
  (bC3 : PySem.W.subIn K (.ref C3) (.type "BaseException") = some true) (tC3 : PySem.W.typeIn K (.ref C3) = some (.type "type"))
  (xC1 : PySem.W.excIn K C1 [.type "ValueError", .type "Exception", .type "BaseException", .type "object"] "ValueError.__new__" = true) (kC1 : PySem.W.keepIn K (.ref C1) = true)
  (xC2 : PySem.W.excIn K C2 [.type "ValueError", .type "Exception", .type "BaseException", .type "object"] "ValueError.__new__" = true) (kC2 : PySem.W.keepIn K (.ref C2) = true)
  (xC3 : PySem.W.excIn K C3 [.type "ValueError", .type "Exception", .type "BaseException", .type "object"] "ValueError.__new__" = true) (kC3 : PySem.W.keepIn K (.ref C3) = true)
  (hC0 : PySem.W.hasDictIn K C0 = true)
  (s1_0 : PySem.W.subIn K (.ref C1) (.ref C0) = some true)
  (s2_0 : PySem.W.subIn K (.ref C2) (.ref C0) = some true)
  (s3_0 : PySem.W.subIn K (.ref C3) (.ref C0) = some true)
  (g1_1 : PySem.W.findIn K (.ref C1) "__getattribute__" = some (some (.builtin "BaseException.__getattribute__"))) (g2_1 : PySem.W.findIn K (.ref C1) "__getattr__" = some none) (g3_1 : PySem.W.hasDictIn K C1 = true) (g4_1 : PySem.W.findIn K (.ref C1) "__class__" = some (some (.builtin "object.__class__"))) (g5_1 : PySem.W.specialIn K (.builtin "object.__class__") "__get__" = some (some (.builtin "getset_descriptor.__get__"))) (g6_1 : PySem.W.takesIn K (.builtin "object.__class__") = some true) (g7_1 : PySem.W.mroIn K C1 (.type "object") = some true)
  (g1_2 : PySem.W.findIn K (.ref C2) "__getattribute__" = some (some (.builtin "BaseException.__getattribute__"))) (g2_2 : PySem.W.findIn K (.ref C2) "__getattr__" = some none) (g3_2 : PySem.W.hasDictIn K C2 = true) (g4_2 : PySem.W.findIn K (.ref C2) "__class__" = some (some (.builtin "object.__class__"))) (g5_2 : PySem.W.specialIn K (.builtin "object.__class__") "__get__" = some (some (.builtin "getset_descriptor.__get__"))) (g6_2 : PySem.W.takesIn K (.builtin "object.__class__") = some true) (g7_2 : PySem.W.mroIn K C2 (.type "object") = some true)
  (g1_3 : PySem.W.findIn K (.ref C3) "__getattribute__" = some (some (.builtin "BaseException.__getattribute__"))) (g2_3 : PySem.W.findIn K (.ref C3) "__getattr__" = some none) (g3_3 : PySem.W.hasDictIn K C3 = true) (g4_3 : PySem.W.findIn K (.ref C3) "__class__" = some (some (.builtin "object.__class__"))) (g5_3 : PySem.W.specialIn K (.builtin "object.__class__") "__get__" = some (some (.builtin "getset_descriptor.__get__"))) (g6_3 : PySem.W.takesIn K (.builtin "object.__class__") = some true) (g7_3 : PySem.W.mroIn K C3 (.type "object") = some true)
  (kt1_3 : PySem.W.kitOne K (.ref C1) (.ref C3) = some false)
  (kt2_3 : PySem.W.kitOne K (.ref C2) (.ref C3) = some false) (hfa : mg "law" = some (.ref fa)) :
  ∃ fd : FuncData, (∀ (s : Shared) (v : Value), BindsTo s fd ⟨[v], []⟩ [("script", v)]) ∧ ∀ base : Heap, K.In base → base.Ns mainGlobals mg → FnOk P w K mg base (L2.CX P w) 6 fa fd ["script"] (spLaw K) := by
  have e := hfa.symm.trans (PySem.W.mg_of X G a_law)
  cases e
  have fx := fx_of X G (z_abs := z_abs) (z_all := z_all) (z_any := z_any) (z_bool := z_bool) (z_enumerate := z_enumerate) (z_int := z_int) (z_isinstance := z_isinstance) (z_len := z_len) (z_list := z_list) (z_min := z_min) (z_range := z_range) (z_set := z_set) (z_sorted := z_sorted) (z_sum := z_sum) (z_tuple := z_tuple) (z_zip := z_zip) (v_FORM := v_FORM) (l_FORM := l_FORM) (v_MOST_DAY := v_MOST_DAY) (v_MOST_KIND := v_MOST_KIND) (v_MOST_PIECES := v_MOST_PIECES) (v_MOST_ROWS := v_MOST_ROWS) (a__law_draws := a__law_draws) (l__law_draws := l__law_draws) (c__law_draws := c__law_draws) (k__law_draws := k__law_draws) (a__law_trays := a__law_trays) (l__law_trays := l__law_trays) (c__law_trays := c__law_trays) (k__law_trays := k__law_trays) (a__law_wishes := a__law_wishes) (l__law_wishes := l__law_wishes) (c__law_wishes := c__law_wishes) (k__law_wishes := k__law_wishes) (a_is_whole := a_is_whole) (l_is_whole := l_is_whole) (c_is_whole := c_is_whole) (k_is_whole := k_is_whole) (a__is_tray := a__is_tray) (l__is_tray := l__is_tray) (c__is_tray := c__is_tray) (k__is_tray := k__is_tray) (a_ascends := a_ascends) (l_ascends := l_ascends) (c_ascends := c_ascends) (k_ascends := k_ascends) (a__is_wish := a__is_wish) (l__is_wish := l__is_wish) (c__is_wish := c__is_wish) (k__is_wish := k__is_wish) (a__check := a__check) (l__check := l__check) (c__check := c__check) (k__check := k__check) (a__has := a__has) (l__has := l__has) (c__has := c__has) (k__has := k__has) (a__given := a__given) (l__given := l__given) (c__given := c__given) (k__given := k__given) (a__short_days := a__short_days) (l__short_days := l__short_days) (c__short_days := c__short_days) (k__short_days := k__short_days) (a_met := a_met) (l_met := l_met) (c_met := c_met) (k_met := k_met) (a__law_has := a__law_has) (l__law_has := l__law_has) (c__law_has := c__law_has) (k__law_has := k__law_has) (a__law_is_number := a__law_is_number) (l__law_is_number := l__law_is_number) (c__law_is_number := c__law_is_number) (k__law_is_number := k__law_is_number) (a__law_met_due := a__law_met_due) (l__law_met_due := l__law_met_due) (c__law_met_due := c__law_met_due) (k__law_met_due := k__law_met_due) (a__are_rows := a__are_rows) (l__are_rows := l__are_rows) (c__are_rows := c__are_rows) (k__are_rows := k__are_rows) (a__fault := a__fault) (l__fault := l__fault) (c__fault := c__fault) (k__fault := k__fault) (a_met_fault := a_met_fault) (l_met_fault := l_met_fault) (c_met_fault := c_met_fault) (k_met_fault := k_met_fault) (a_left_on := a_left_on) (l_left_on := l_left_on) (c_left_on := c_left_on) (k_left_on := k_left_on) (a__law_left := a__law_left) (l__law_left := l__law_left) (c__law_left := c__law_left) (k__law_left := k__law_left) (a__law_days_due := a__law_days_due) (l__law_days_due := l__law_days_due) (c__law_days_due := c__law_days_due) (k__law_days_due := k__law_days_due) (a_days_fault := a_days_fault) (l_days_fault := l_days_fault) (c_days_fault := c_days_fault) (k_days_fault := k_days_fault) (a_law := a_law) (l_law := l_law) (c_law := c_law) (k_law := k_law) (aC0 := aC0) (bC0 := bC0) (tC0 := tC0) (aC1 := aC1) (bC1 := bC1) (tC1 := tC1) (aC2 := aC2) (bC2 := bC2) (tC2 := tC2) (aC3 := aC3) (bC3 := bC3) (tC3 := tC3) (xC1 := xC1) (kC1 := kC1) (xC2 := xC2) (kC2 := kC2) (xC3 := xC3) (kC3 := kC3) (hC0 := hC0) (s1_0 := s1_0) (s2_0 := s2_0) (s3_0 := s3_0) (g1_1 := g1_1) (g2_1 := g2_1) (g3_1 := g3_1) (g4_1 := g4_1) (g5_1 := g5_1) (g6_1 := g6_1) (g7_1 := g7_1) (g1_2 := g1_2) (g2_2 := g2_2) (g3_2 := g3_2) (g4_2 := g4_2) (g5_2 := g5_2) (g6_2 := g6_2) (g7_2 := g7_2) (g1_3 := g1_3) (g2_3 := g2_3) (g3_3 := g3_3) (g4_3 := g4_3) (g5_3 := g5_3) (g6_3 := g6_3) (g7_3 := g7_3) (kt1_3 := kt1_3) (kt2_3 := kt2_3)
  exact ⟨_, fun s v => .of_eq rfl, fun base _ _ => law_imp (fn_law fx (fun_mk (st := s_law) l_law c_law k_law))⟩
theorem law_arg {K : PySem.W.Frag} {H : Hp} {a : Addr} {ns : List Int} (hl : ns.length ≤ 63) (hO : Only H) (hS : SqL K H a (ns.map V.int)) : spLaw K [.ref a] H (fun v _ => v = .bl true) fun _ _ _ => False := by
  refine ⟨a, ns, rfl, ?_, hl, fun _ => rfl⟩
  rcases hS with (h | h) | h
  · rcases hO a with z | ⟨o, xs, z⟩
    · rw [z] at h; cases h
    · rw [z] at h; cases h
  · exact .inl h
  · exact .inr fun _ => .inr h
theorem cx_none {P : Program} {w : World} {H : Hp} {s s1 : Shared} {e : Value} (h : L2.CX P w [] H s (fun _ _ _ => False) e s1) : False := by
  obtain ⟨_, _, _, _, _, _, _, _, _, _, _, _, z⟩ := h
  exact z.elim
theorem walk_law {l : PySem.W.OpenLaw} {k : Nat} {q : Program} {loose : List Str} {XP : (Str → Option Value) → Heap → Prop} {YP : World → Heap → Prop} {d : DefRec} {K : Params → PySem.W.Frag}
    (hn : l.most = some 63) (hd : d.params.defaults = []) (hr : Room k callerA) (hY : ∀ (w : World) (h : Heap), YP w h → (K w.params).In h)
    (F : ∀ (w : World) (mg : Str → Option Value) (fa : Addr) (h : Heap), (K w.params).In h → h.Ns mainGlobals mg → mg d.name = some (.ref fa) → ∃ fd : FuncData, (∀ (s : Shared) (v : Value), BindsTo s fd ⟨[v], []⟩ [("script", v)]) ∧
      ∀ base : Heap, (K w.params).In base → base.Ns mainGlobals mg → FnOk l.prog w (K w.params) mg base (L2.CX l.prog w) k fa fd ["script"] (spLaw (K w.params))) : PySem.W.WalkO q loose XP YP l.row.toRowW d [] (fun f vs => PySem.call f vs) :=
  L2.walk_of (K := K) (CX := fun w => L2.CX l.prog w) (sp := fun w => spLaw (K w.params)) hn (by rw [sizeLine_eq]; decide) hd hr hY F (fun w H a ns hl hO hS => law_arg hl hO hS) (fun w H s e s' h => cx_none h)
end Dl
set_option Elab.async false
set_option linter.all false
set_option maxRecDepth 100000
open PySem PySem.W PyProof.Rows
set_option maxHeartbeats 0 in
theorem PySem.Challenge.cw_bakewright_k54_rows_and_days_of_weeks_holds : PySem.Challenge.rw_bakewright_k54_rows_and_days_of_weeks.Holds := by
  w_on; o_law; k_head; (case hw => w_witness2)
  k_fill
  refine Dl.walk_law (l := PySem.Challenge.rw_bakewright_k54_rows_and_days_of_weeks) (k := 6) rfl rfl ⟨rfl, by decide, by decide⟩ (fun w h Y => PySem.W.kIn_of Y) ?F
  case F =>
    intro w mg fa h KX G hmg
    refine' Dl.all_mk KX G (z_abs := ?z_abs) (z_all := ?z_all) (z_any := ?z_any) (z_bool := ?z_bool) (z_enumerate := ?z_enumerate) (z_int := ?z_int) (z_isinstance := ?z_isinstance) (z_len := ?z_len) (z_list := ?z_list) (z_min := ?z_min) (z_range := ?z_range) (z_set := ?z_set) (z_sorted := ?z_sorted) (z_sum := ?z_sum) (z_tuple := ?z_tuple) (z_zip := ?z_zip) (v_FORM := ?v_FORM) (l_FORM := ?l_FORM) (v_MOST_DAY := ?v_MOST_DAY) (v_MOST_KIND := ?v_MOST_KIND) (v_MOST_PIECES := ?v_MOST_PIECES) (v_MOST_ROWS := ?v_MOST_ROWS) (a__law_draws := ?a__law_draws) (l__law_draws := ?l__law_draws) (c__law_draws := ?c__law_draws) (k__law_draws := ?k__law_draws) (a__law_trays := ?a__law_trays) (l__law_trays := ?l__law_trays) (c__law_trays := ?c__law_trays) (k__law_trays := ?k__law_trays) (a__law_wishes := ?a__law_wishes) (l__law_wishes := ?l__law_wishes) (c__law_wishes := ?c__law_wishes) (k__law_wishes := ?k__law_wishes) (a_is_whole := ?a_is_whole) (l_is_whole := ?l_is_whole) (c_is_whole := ?c_is_whole) (k_is_whole := ?k_is_whole) (a__is_tray := ?a__is_tray) (l__is_tray := ?l__is_tray) (c__is_tray := ?c__is_tray) (k__is_tray := ?k__is_tray) (a_ascends := ?a_ascends) (l_ascends := ?l_ascends) (c_ascends := ?c_ascends) (k_ascends := ?k_ascends) (a__is_wish := ?a__is_wish) (l__is_wish := ?l__is_wish) (c__is_wish := ?c__is_wish) (k__is_wish := ?k__is_wish) (a__check := ?a__check) (l__check := ?l__check) (c__check := ?c__check) (k__check := ?k__check) (a__has := ?a__has) (l__has := ?l__has) (c__has := ?c__has) (k__has := ?k__has) (a__given := ?a__given) (l__given := ?l__given) (c__given := ?c__given) (k__given := ?k__given) (a__short_days := ?a__short_days) (l__short_days := ?l__short_days) (c__short_days := ?c__short_days) (k__short_days := ?k__short_days) (a_met := ?a_met) (l_met := ?l_met) (c_met := ?c_met) (k_met := ?k_met) (a__law_has := ?a__law_has) (l__law_has := ?l__law_has) (c__law_has := ?c__law_has) (k__law_has := ?k__law_has) (a__law_is_number := ?a__law_is_number) (l__law_is_number := ?l__law_is_number) (c__law_is_number := ?c__law_is_number) (k__law_is_number := ?k__law_is_number) (a__law_met_due := ?a__law_met_due) (l__law_met_due := ?l__law_met_due) (c__law_met_due := ?c__law_met_due) (k__law_met_due := ?k__law_met_due) (a__are_rows := ?a__are_rows) (l__are_rows := ?l__are_rows) (c__are_rows := ?c__are_rows) (k__are_rows := ?k__are_rows) (a__fault := ?a__fault) (l__fault := ?l__fault) (c__fault := ?c__fault) (k__fault := ?k__fault) (a_met_fault := ?a_met_fault) (l_met_fault := ?l_met_fault) (c_met_fault := ?c_met_fault) (k_met_fault := ?k_met_fault) (a_left_on := ?a_left_on) (l_left_on := ?l_left_on) (c_left_on := ?c_left_on) (k_left_on := ?k_left_on) (a__law_left := ?a__law_left) (l__law_left := ?l__law_left) (c__law_left := ?c__law_left) (k__law_left := ?k__law_left) (a__law_days_due := ?a__law_days_due) (l__law_days_due := ?l__law_days_due) (c__law_days_due := ?c__law_days_due) (k__law_days_due := ?k__law_days_due) (a_days_fault := ?a_days_fault) (l_days_fault := ?l_days_fault) (c_days_fault := ?c_days_fault) (k_days_fault := ?k_days_fault) (a_law := ?a_law) (l_law := ?l_law) (c_law := ?c_law) (k_law := ?k_law) (aC0 := ?aC0) (bC0 := ?bC0) (tC0 := ?tC0) (aC1 := ?aC1) (bC1 := ?bC1) (tC1 := ?tC1) (aC2 := ?aC2) (bC2 := ?bC2) (tC2 := ?tC2) (aC3 := ?aC3) (bC3 := ?bC3) (tC3 := ?tC3) (xC1 := ?xC1) (kC1 := ?kC1) (xC2 := ?xC2) (kC2 := ?kC2) (xC3 := ?xC3) (kC3 := ?kC3) (hC0 := ?hC0) (s1_0 := ?s1_0) (s2_0 := ?s2_0) (s3_0 := ?s3_0) (g1_1 := ?g1_1) (g2_1 := ?g2_1) (g3_1 := ?g3_1) (g4_1 := ?g4_1) (g5_1 := ?g5_1) (g6_1 := ?g6_1) (g7_1 := ?g7_1) (g1_2 := ?g1_2) (g2_2 := ?g2_2) (g3_2 := ?g3_2) (g4_2 := ?g4_2) (g5_2 := ?g5_2) (g6_2 := ?g6_2) (g7_2 := ?g7_2) (g1_3 := ?g1_3) (g2_3 := ?g2_3) (g3_3 := ?g3_3) (g4_3 := ?g4_3) (g5_3 := ?g5_3) (g6_3 := ?g6_3) (g7_3 := ?g7_3) (kt1_3 := ?kt1_3) (kt2_3 := ?kt2_3) (hfa := hmg)
    (case z_abs => k_is)
    (case z_all => k_is)
    (case z_any => k_is)
    (case z_bool => k_is)
    (case z_enumerate => k_is)
    (case z_int => k_is)
    (case z_isinstance => k_is)
    (case z_len => k_is)
    (case z_list => k_is)
    (case z_min => k_is)
    (case z_range => k_is)
    (case z_set => k_is)
    (case z_sorted => k_is)
    (case z_sum => k_is)
    (case z_tuple => k_is)
    (case z_zip => k_is)
    (case v_FORM => k_is)
    (case l_FORM => k_is)
    (case v_MOST_DAY => k_is)
    (case v_MOST_KIND => k_is)
    (case v_MOST_PIECES => k_is)
    (case v_MOST_ROWS => k_is)
    (case a__law_draws => k_is)
    (case l__law_draws => k_is)
    (case c__law_draws => k_is)
    (case k__law_draws => k_is)
    (case a__law_trays => k_is)
    (case l__law_trays => k_is)
    (case c__law_trays => k_is)
    (case k__law_trays => k_is)
    (case a__law_wishes => k_is)
    (case l__law_wishes => k_is)
    (case c__law_wishes => k_is)
    (case k__law_wishes => k_is)
    (case a_is_whole => k_is)
    (case l_is_whole => k_is)
    (case c_is_whole => k_is)
    (case k_is_whole => k_is)
    (case a__is_tray => k_is)
    (case l__is_tray => k_is)
    (case c__is_tray => k_is)
    (case k__is_tray => k_is)
    (case a_ascends => k_is)
    (case l_ascends => k_is)
    (case c_ascends => k_is)
    (case k_ascends => k_is)
    (case a__is_wish => k_is)
    (case l__is_wish => k_is)
    (case c__is_wish => k_is)
    (case k__is_wish => k_is)
    (case a__check => k_is)
    (case l__check => k_is)
    (case c__check => k_is)
    (case k__check => k_is)
    (case a__has => k_is)
    (case l__has => k_is)
    (case c__has => k_is)
    (case k__has => k_is)
    (case a__given => k_is)
    (case l__given => k_is)
    (case c__given => k_is)
    (case k__given => k_is)
    (case a__short_days => k_is)
    (case l__short_days => k_is)
    (case c__short_days => k_is)
    (case k__short_days => k_is)
    (case a_met => k_is)
    (case l_met => k_is)
    (case c_met => k_is)
    (case k_met => k_is)
    (case a__law_has => k_is)
    (case l__law_has => k_is)
    (case c__law_has => k_is)
    (case k__law_has => k_is)
    (case a__law_is_number => k_is)
    (case l__law_is_number => k_is)
    (case c__law_is_number => k_is)
    (case k__law_is_number => k_is)
    (case a__law_met_due => k_is)
    (case l__law_met_due => k_is)
    (case c__law_met_due => k_is)
    (case k__law_met_due => k_is)
    (case a__are_rows => k_is)
    (case l__are_rows => k_is)
    (case c__are_rows => k_is)
    (case k__are_rows => k_is)
    (case a__fault => k_is)
    (case l__fault => k_is)
    (case c__fault => k_is)
    (case k__fault => k_is)
    (case a_met_fault => k_is)
    (case l_met_fault => k_is)
    (case c_met_fault => k_is)
    (case k_met_fault => k_is)
    (case a_left_on => k_is)
    (case l_left_on => k_is)
    (case c_left_on => k_is)
    (case k_left_on => k_is)
    (case a__law_left => k_is)
    (case l__law_left => k_is)
    (case c__law_left => k_is)
    (case k__law_left => k_is)
    (case a__law_days_due => k_is)
    (case l__law_days_due => k_is)
    (case c__law_days_due => k_is)
    (case k__law_days_due => k_is)
    (case a_days_fault => k_is)
    (case l_days_fault => k_is)
    (case c_days_fault => k_is)
    (case k_days_fault => k_is)
    (case a_law => k_is)
    (case l_law => k_is)
    (case c_law => k_is)
    (case k_law => k_is)
    (case aC0 => k_is)
    (case bC0 => k_is)
    (case tC0 => k_is)
    (case aC1 => k_is)
    (case bC1 => k_is)
    (case tC1 => k_is)
    (case aC2 => k_is)
    (case bC2 => k_is)
    (case tC2 => k_is)
    (case aC3 => k_is)
    (case bC3 => k_is)
    (case tC3 => k_is)
    (case xC1 => k_exc)
    (case kC1 => k_is)
    (case xC2 => k_exc)
    (case kC2 => k_is)
    (case xC3 => k_exc)
    (case kC3 => k_is)
    (case hC0 => k_is)
    (case s1_0 => k_is)
    (case s2_0 => k_is)
    (case s3_0 => k_is)
    (case g1_1 => k_is)
    (case g2_1 => k_is)
    (case g3_1 => k_is)
    (case g4_1 => k_is)
    (case g5_1 => k_is)
    (case g6_1 => k_is)
    (case g7_1 => k_is)
    (case g1_2 => k_is)
    (case g2_2 => k_is)
    (case g3_2 => k_is)
    (case g4_2 => k_is)
    (case g5_2 => k_is)
    (case g6_2 => k_is)
    (case g7_2 => k_is)
    (case g1_3 => k_is)
    (case g2_3 => k_is)
    (case g3_3 => k_is)
    (case g4_3 => k_is)
    (case g5_3 => k_is)
    (case g6_3 => k_is)
    (case g7_3 => k_is)
    (case kt1_3 => kit_is)
    (case kt2_3 => kit_is)