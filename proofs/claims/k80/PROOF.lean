import PyProof.Rows.All
import HandS.ForMost
import HandS.ForExc
import HandS.TryOnly
import HandS.TryMany
import HandS.TupAny
import HandS.TupMul
import HandS.IsInst
import HandS.Conv
import HandS.Zip
import HandS.Deep
import HandS.Style
import HandS.Wide
import KE.DataEq
import KE.DataCmp
import KE.DataMinMax
import KE.SortData
import KE.KTupSum
import KE.GoesEnum
import HandS.ExcIs
import HandS.TupSets
import HandS.Strs
import HandS.SetFor
import HandS.More
import KE.KDictSum
import KE.KDictCopyH
import KE.GoesMore
import KE.GoesZip
import KE.KDictDisplayH
import PySem.Challenge.RW_bakewright_k80_whole_prices
import HandS.Ends
set_option Elab.async false
set_option linter.all false
set_option maxRecDepth 100000
/-! D1: data states. A def's slots as data, its own lists, and how they lie in the abstract heap. -/
namespace Dl
open PySem PySem.Spec L2

/-- a result: stuck (nothing is said), a value, an exception of the c-th class -/
inductive Rz (α : Type) where
  | st | ok (a : α) | ex (c : Nat)
namespace Rz
def bind {α β : Type} (x : Rz α) (f : α → Rz β) : Rz β := match x with
  | st => st
  | ok a => f a
  | ex c => ex c
def map {α β : Type} (f : α → β) (x : Rz α) : Rz β := x.bind fun a => ok (f a)
@[simp] theorem bind_ok {α β : Type} (a : α) (f : α → Rz β) : (ok a).bind f = f a := rfl
@[simp] theorem bind_st {α β : Type} (f : α → Rz β) : (st : Rz α).bind f = st := rfl
@[simp] theorem bind_ex {α β : Type} (c : Nat) (f : α → Rz β) : (ex c : Rz α).bind f = ex c := rfl
@[simp] theorem map_ok {α β : Type} (a : α) (f : α → β) : (ok a).map f = ok (f a) := rfl
@[simp] theorem map_st {α β : Type} (f : α → β) : (st : Rz α).map f = st := rfl
@[simp] theorem map_ex {α β : Type} (c : Nat) (f : α → β) : (ex c : Rz α).map f = ex c := rfl
end Rz

/-- what a slot holds: data that nobody changes; a list of its own; the law's script, only read -/
inductive W where
  | d (x : PyData)
  | l (xs : List PyData)
  | r (ns : List Int)
  /-- a dict of its own -/
  | m (T : Bool) (kvs : List (PyData × PyData))
  /-- data with dicts in it, given up -/
  | q (x : PyData)
/-- the same as data -/
def W.dat : W → PyData
  | .d x => x
  | .l xs => .list xs
  | .r ns => .list (ns.map .int)
  | .m _ kvs => .dict kvs
  | .q x => x
@[simp] theorem W.dat_d (x : PyData) : W.dat (.d x) = x := rfl
@[simp] theorem W.dat_l (xs : List PyData) : W.dat (.l xs) = .list xs := rfl
abbrev Ms := List (Option W)

/-- a text first: so are the written tuples -/
def hdStr : List PyData → Bool
  | .str _ :: _ => true
  | _ => false
/-! the value v is the data x; Fz: the lists that nobody changes any more -/
mutual
inductive Rp (K : PySem.W.Frag) (Fz : Addr → Prop) (H : Hp) : V → PyData → Prop
  | non : Rp K Fz H .non .none
  | bl (b : Bool) : Rp K Fz H (.bl b) (.bool b)
  | int (i : Int) : Rp K Fz H (.int i) (.int i)
  | str (x : Str) : Rp K Fz H (.str x) (.str x)
  | lst {a : Addr} {xs : List V} {ds : List PyData} : Fz a → H a = some (.lst xs) → RpAll K Fz H xs ds → Rp K Fz H (.ref a) (.list ds)
  | tup {a : Addr} {xs : List V} {ds : List PyData} : H a = some (.tup xs) → RpAll K Fz H xs ds → Rp K Fz H (.ref a) (.tuple ds)
  | tupK {a : Addr} {xs : List V} {ds : List PyData} : (∀ H, SqT K H a xs) → hdStr ds = true → RpAll K Fz H xs ds → Rp K Fz H (.ref a) (.tuple ds)
inductive RpAll (K : PySem.W.Frag) (Fz : Addr → Prop) (H : Hp) : List V → List PyData → Prop
  | nil : RpAll K Fz H [] []
  | cons {v : V} {vs : List V} {d : PyData} {ds : List PyData} : Rp K Fz H v d → RpAll K Fz H vs ds → RpAll K Fz H (v :: vs) (d :: ds)
end
def isT : HO → Prop
  | .tup _ => True
  | .frz _ _ => True
  | _ => False
/-- what was frozen stays so, and stands -/
structure Le (Fz : Addr → Prop) (H : Hp) (Fz' : Addr → Prop) (H' : Hp) : Prop where
  fz : ∀ a, Fz a → Fz' a
  hp : ∀ a o, H a = some o → (Fz a ∨ isT o) → H' a = some o
theorem Le.refl {Fz : Addr → Prop} {H : Hp} : Le Fz H Fz H := ⟨fun _ h => h, fun _ _ h _ => h⟩
theorem Le.trans {F1 F2 F3 : Addr → Prop} {H1 H2 H3 : Hp} (a : Le F1 H1 F2 H2) (b : Le F2 H2 F3 H3) : Le F1 H1 F3 H3 :=
  ⟨fun x h => b.fz x (a.fz x h), fun x o h k => b.hp x o (a.hp x o h k) (k.imp (a.fz x) id)⟩
section
variable {K : PySem.W.Frag} {Fz Fz' : Addr → Prop} {H H' : Hp}
theorem sqT_le (l : Le Fz H Fz' H') {a : Addr} {xs : List V} (h : SqT K H a xs) : SqT K H' a xs := by
  rcases h with (h | ⟨o, h⟩) | h
  · exact .inl (.inl (l.hp _ _ h (.inr trivial)))
  · exact .inl (.inr ⟨o, l.hp _ _ h (.inr trivial)⟩)
  · exact .inr h
theorem sqL_le (l : Le Fz H Fz' H') {a : Addr} {xs : List V} (f : Fz a) (h : SqL K H a xs) : SqL K H' a xs := by
  rcases h with (h | ⟨o, h⟩) | h
  · exact .inl (.inl (l.hp _ _ h (.inl f)))
  · exact .inl (.inr ⟨o, l.hp _ _ h (.inr trivial)⟩)
  · exact .inr h
mutual
theorem Rp.mono (l : Le Fz H Fz' H') : ∀ {d : PyData} {v : V}, Rp K Fz H v d → Rp K Fz' H' v d
  | _, _, .non => .non
  | _, _, .bl b => .bl b
  | _, _, .int i => .int i
  | _, _, .str x => .str x
  | _, _, .lst f s r => .lst (l.fz _ f) (l.hp _ _ s (.inl f)) (RpAll.mono l r)
  | _, _, .tup s r => .tup (l.hp _ _ s (.inr trivial)) (RpAll.mono l r)
  | _, _, .tupK s h r => .tupK s h (RpAll.mono l r)
theorem RpAll.mono (l : Le Fz H Fz' H') : ∀ {ds : List PyData} {vs : List V}, RpAll K Fz H vs ds → RpAll K Fz' H' vs ds
  | _, _, .nil => .nil
  | _, _, .cons r rs => .cons (Rp.mono l r) (RpAll.mono l rs)
end
theorem RpAll.length : ∀ {vs : List V} {ds : List PyData}, RpAll K Fz H vs ds → vs.length = ds.length
  | _, _, .nil => rfl
  | _, _, .cons _ r => by rw [List.length_cons, List.length_cons, RpAll.length r]
theorem RpAll.append : ∀ {vs us : List V} {ds es : List PyData}, RpAll K Fz H vs ds → RpAll K Fz H us es → RpAll K Fz H (vs ++ us) (ds ++ es)
  | _, _, _, _, .nil, s => s
  | _, _, _, _, .cons r t, s => .cons r (RpAll.append t s)
theorem RpAll.get : ∀ {vs : List V} {ds : List PyData} {i : Nat} {v : V}, RpAll K Fz H vs ds → vs[i]? = some v → ∃ d, ds[i]? = some d ∧ Rp K Fz H v d
  | _, _, _, _, .nil, e => by simp at e
  | _, _, 0, _, .cons r _, e => by simp at e; subst e; exact ⟨_, rfl, r⟩
  | _, _, i + 1, _, .cons _ t, e => by
    obtain ⟨d, h1, h2⟩ := RpAll.get (i := i) t (by simpa using e)
    exact ⟨d, by simpa using h1, h2⟩
theorem RpAll.get' : ∀ {vs : List V} {ds : List PyData} {i : Nat} {d : PyData}, RpAll K Fz H vs ds → ds[i]? = some d → ∃ v, vs[i]? = some v ∧ Rp K Fz H v d
  | _, _, _, _, .nil, e => by simp at e
  | _, _, 0, _, .cons r _, e => by simp at e; subst e; exact ⟨_, rfl, r⟩
  | _, _, i + 1, _, .cons _ t, e => by
    obtain ⟨d, h1, h2⟩ := RpAll.get' (i := i) t (by simpa using e)
    exact ⟨d, by simpa using h1, h2⟩
theorem RpAll.set {v : V} {d : PyData} (r : Rp K Fz H v d) : ∀ {vs : List V} {ds : List PyData} (i : Nat), RpAll K Fz H vs ds → RpAll K Fz H (vs.set i v) (ds.set i d)
  | _, _, _, .nil => .nil
  | _, _, 0, .cons _ t => .cons r t
  | _, _, i + 1, .cons q t => .cons q (RpAll.set r i t)
theorem RpAll.take : ∀ {vs : List V} {ds : List PyData} (n : Nat), RpAll K Fz H vs ds → RpAll K Fz H (vs.take n) (ds.take n)
  | _, _, 0, _ => .nil
  | _, _, _ + 1, .nil => .nil
  | _, _, n + 1, .cons r t => .cons r (RpAll.take n t)
theorem RpAll.drop : ∀ {vs : List V} {ds : List PyData} (n : Nat), RpAll K Fz H vs ds → RpAll K Fz H (vs.drop n) (ds.drop n)
  | _, _, 0, r => r
  | _, _, _ + 1, .nil => .nil
  | _, _, n + 1, .cons _ t => RpAll.drop n t
theorem RpAll.reverse : ∀ {vs : List V} {ds : List PyData}, RpAll K Fz H vs ds → RpAll K Fz H vs.reverse ds.reverse
  | _, _, .nil => .nil
  | _, _, .cons r t => by
    rw [List.reverse_cons, List.reverse_cons]
    exact RpAll.append (RpAll.reverse t) (.cons r .nil)
theorem RpAll.rep {vs : List V} {ds : List PyData} (r : RpAll K Fz H vs ds) : ∀ k : Nat, RpAll K Fz H (List.replicate k vs).flatten (List.replicate k ds).flatten
  | 0 => .nil
  | k + 1 => by
    rw [List.replicate_succ, List.replicate_succ, List.flatten_cons, List.flatten_cons]
    exact r.append (RpAll.rep r k)
theorem RpAll.repL {vs : List V} {ds : List PyData} {k : Nat} (e : (List.replicate k vs).flatten = vs) (r : RpAll K Fz H vs ds) : (List.replicate k ds).flatten = ds := by
  have hl := r.length
  match k, e with
  | 0, e =>
    simp at e
    subst e
    cases r; rfl
  | 1, _ => simp
  | k + 2, e =>
    have h1 := congrArg List.length e
    simp only [List.length_flatten, List.map_replicate, List.sum_replicate_nat] at h1
    have : vs.length = 0 := by
      cases hv : vs.length with
      | zero => rfl
      | succ n => rw [hv] at h1; simp [Nat.add_mul] at h1; omega
    have : ds = [] := List.eq_nil_of_length_eq_zero (by omega)
    subst this
    simp
theorem RpAll.ints : ∀ {vs : List V} {ns : List Int}, RpAll K Fz H vs (ns.map .int) → vs = ns.map V.int
  | _, [], .nil => rfl
  | _, n :: ns, .cons r t => by
    cases r
    rw [RpAll.ints t]
    rfl
theorem RpAll.of_ints : ∀ ns : List Int, RpAll K Fz H (ns.map V.int) (ns.map .int)
  | [] => .nil
  | n :: ns => .cons (.int n) (RpAll.of_ints ns)
theorem RpAll.bools : ∀ {vs : List V} {bs : List Bool}, RpAll K Fz H vs (bs.map .bool) → vs = bs.map V.bl
  | _, [], .nil => rfl
  | _, n :: ns, .cons r t => by
    cases r
    rw [RpAll.bools t]
    rfl
/-- read as the layer's own data -/
theorem Rp.dp : ∀ {d : PyData} {v : V}, Rp K Fz H v d → Dp K H v d := fun {d v} h =>
  Rp.rec (motive_1 := fun v d _ => Dp K H v d) (motive_2 := fun vs ds _ => DpAll K H vs ds)
    .non (fun b => .bl b) (fun i => .int i) (fun x => .str x) (fun _ s _ r => .lst (.inl (.inl s)) r) (fun s _ r => .tup (.inl (.inl s)) r) (fun s _ _ r => .tup (s _) r) .nil (fun _ _ r rs => .cons r rs) h
theorem RpAll.dp : ∀ {ds : List PyData} {vs : List V}, RpAll K Fz H vs ds → DpAll K H vs ds
  | _, _, .nil => .nil
  | _, _, .cons r rs => .cons r.dp (RpAll.dp rs)
mutual
/-- no dict in it -/
theorem Rp.plain : ∀ {d : PyData} {v : V}, Rp K Fz H v d → d.plain = true
  | _, _, .non => by simp [PyData.plain]
  | _, _, .bl _ => by simp [PyData.plain]
  | _, _, .int _ => by simp [PyData.plain]
  | _, _, .str _ => by simp [PyData.plain]
  | _, _, .lst _ _ r => by simp only [PyData.plain]; exact RpAll.plain r
  | _, _, .tup _ r => by simp only [PyData.plain]; exact RpAll.plain r
  | _, _, .tupK _ _ r => by simp only [PyData.plain]; exact RpAll.plain r
theorem RpAll.plain : ∀ {ds : List PyData} {vs : List V}, RpAll K Fz H vs ds → PyData.plainAll ds = true
  | _, _, .nil => by simp [PyData.plainAll]
  | _, _, .cons r rs => by simp only [PyData.plainAll, Rp.plain r, RpAll.plain rs, Bool.and_self]
end
end

/-! ### dicts -/
def keyD : Key → PyData
  | .inl i => .int i
  | .inr x => .str x
def keysD (k : List Key) : PyData := .tuple (k.map keyD)
/-- what a dict holds -/
structure DEnt (K : PySem.W.Frag) (Fz : Addr → Prop) (H : Hp) {κ : Type} (kd : κ → PyData) (ks : List (κ × V)) (kvs : List (PyData × PyData)) : Prop where
  keys : kvs.map (·.1) = ks.map fun p => kd p.1
  vals : RpAll K Fz H (ks.map (·.2)) (kvs.map (·.2))
theorem DEnt.mono {K : PySem.W.Frag} {Fz Fz' : Addr → Prop} {H H' : Hp} (l : Le Fz H Fz' H') {κ : Type} {kd : κ → PyData} {ks : List (κ × V)} {kvs : List (PyData × PyData)} (h : DEnt K Fz H kd ks kvs) : DEnt K Fz' H' kd ks kvs := ⟨h.keys, h.vals.mono l⟩
mutual
/-- data with dicts in it -/
inductive Rq (K : PySem.W.Frag) (Fz : Addr → Prop) (H : Hp) : V → PyData → Prop
  | pl {v : V} {x : PyData} : Rp K Fz H v x → Rq K Fz H v x
  | dK {a : Addr} {o : Obj} {ks : List (Key × V)} {kvs : List (PyData × PyData)} : H a = some (.frz o (.dK ks)) → DEnt K Fz H keyD ks kvs → Rq K Fz H (.ref a) (.dict kvs)
  | dT {a : Addr} {o : Obj} {ks : List (List Key × V)} {kvs : List (PyData × PyData)} : H a = some (.frz o (.dT ks)) → DEnt K Fz H keysD ks kvs → Rq K Fz H (.ref a) (.dict kvs)
  | tup {a : Addr} {xs : List V} {ds : List PyData} : H a = some (.tup xs) → RqAll K Fz H xs ds → Rq K Fz H (.ref a) (.tuple ds)
inductive RqAll (K : PySem.W.Frag) (Fz : Addr → Prop) (H : Hp) : List V → List PyData → Prop
  | nil : RqAll K Fz H [] []
  | cons {v : V} {vs : List V} {d : PyData} {ds : List PyData} : Rq K Fz H v d → RqAll K Fz H vs ds → RqAll K Fz H (v :: vs) (d :: ds)
end
section
variable {K : PySem.W.Frag} {Fz Fz' : Addr → Prop} {H H' : Hp}
mutual
theorem Rq.mono (l : Le Fz H Fz' H') : ∀ {d : PyData} {v : V}, Rq K Fz H v d → Rq K Fz' H' v d
  | _, _, .pl r => .pl (r.mono l)
  | _, _, .dK s r => .dK (l.hp _ _ s (.inr trivial)) (r.mono l)
  | _, _, .dT s r => .dT (l.hp _ _ s (.inr trivial)) (r.mono l)
  | _, _, .tup s r => .tup (l.hp _ _ s (.inr trivial)) (RqAll.mono l r)
theorem RqAll.mono (l : Le Fz H Fz' H') : ∀ {ds : List PyData} {vs : List V}, RqAll K Fz H vs ds → RqAll K Fz' H' vs ds
  | _, _, .nil => .nil
  | _, _, .cons r rs => .cons (Rq.mono l r) (RqAll.mono l rs)
end
mutual
theorem Rq.rp : ∀ {d : PyData} {v : V}, Rq K Fz H v d → d.plain = true → Rp K Fz H v d
  | _, _, .pl r, _ => r
  | _, _, .dK _ _, h => by simp [PyData.plain] at h
  | _, _, .dT _ _, h => by simp [PyData.plain] at h
  | _, _, .tup s r, h => .tup s (RqAll.rp r (by simpa only [PyData.plain] using h))
theorem RqAll.rp : ∀ {ds : List PyData} {vs : List V}, RqAll K Fz H vs ds → PyData.plainAll ds = true → RpAll K Fz H vs ds
  | _, _, .nil, _ => .nil
  | _, _, .cons r rs, h => by
    simp only [PyData.plainAll, Bool.and_eq_true] at h
    exact .cons (Rq.rp r h.1) (RqAll.rp rs h.2)
end
end
/-- what a slot's value is, with the addresses that it owns -/
inductive RW (K : PySem.W.Frag) (Fz : Addr → Prop) (H : Hp) : V → W → List Addr → Prop
  | mK {a : Addr} {ks : List (Key × V)} {kvs : List (PyData × PyData)} : H a = some (.dK ks) → DEnt K Fz H keyD ks kvs → RW K Fz H (.ref a) (.m false kvs) [a]
  | mT {a : Addr} {ks : List (List Key × V)} {kvs : List (PyData × PyData)} : H a = some (.dT ks) → DEnt K Fz H keysD ks kvs → RW K Fz H (.ref a) (.m true kvs) [a]
  | q {v : V} {x : PyData} : Rq K Fz H v x → RW K Fz H v (.q x) []
  | d {v : V} {x : PyData} : Rp K Fz H v x → RW K Fz H v (.d x) []
  | l {a : Addr} {vs : List V} {xs : List PyData} : H a = some (.lst vs) → RpAll K Fz H vs xs → RW K Fz H (.ref a) (.l xs) [a]
  | r {a : Addr} {ns : List Int} : ((∃ o, H a = some (.frz o (.lst (ns.map V.int)))) ∨ ∀ H, SqL K H a (ns.map V.int)) → RW K Fz H (.ref a) (.r ns) []
/-- all slots -/
inductive RL (K : PySem.W.Frag) (Fz : Addr → Prop) (H : Hp) : L2.St → Ms → List Addr → Prop
  | nil : RL K Fz H [] [] []
  | no {x : Option V} {σ : L2.St} {m : Ms} {fp : List Addr} : RL K Fz H σ m fp → RL K Fz H (x :: σ) (none :: m) fp
  | so {v : V} {w : W} {f : List Addr} {σ : L2.St} {m : Ms} {fp : List Addr} : RW K Fz H v w f → RL K Fz H σ m fp → RL K Fz H (some v :: σ) (some w :: m) (f ++ fp)
/-- the state: B is what stood ahead and stands -/
structure RsF (K : PySem.W.Frag) (B : Hp) (Fz : Addr → Prop) (H : Hp) (σ : L2.St) (m : Ms) (fp : List Addr) : Prop where
  rl : RL K Fz H σ m fp
  nd : fp.Nodup
  own : ∀ a ∈ fp, B a = none ∧ ¬ Fz a
  base : ∀ a o, B a = some o → H a = some o
  fz : ∀ a, Fz a → H a ≠ none
def Rs (K : PySem.W.Frag) (B : Hp) (Fz : Addr → Prop) (H : Hp) (σ : L2.St) (m : Ms) : Prop := ∃ fp, RsF K B Fz H σ m fp
/-- more is frozen: only what was new or one's own -/
structure Ext (B : Hp) (Fz Fz' : Addr → Prop) : Prop where
  le : ∀ a, Fz a → Fz' a
  new : ∀ a, Fz' a → Fz a ∨ B a = none
theorem Ext.refl {B : Hp} {Fz : Addr → Prop} : Ext B Fz Fz := ⟨fun _ h => h, fun _ h => .inl h⟩
theorem Ext.trans {B : Hp} {F1 F2 F3 : Addr → Prop} (a : Ext B F1 F2) (b : Ext B F2 F3) : Ext B F1 F3 :=
  ⟨fun x h => b.le x (a.le x h), fun x h => (b.new x h).elim (a.new x) .inr⟩
section
variable {K : PySem.W.Frag} {B : Hp} {Fz Fz' : Addr → Prop} {H H' : Hp} {σ τ : L2.St} {m n : Ms} {fp f : List Addr} {v : V} {w : W}
theorem RW.mono (l : Le Fz H Fz' H') (k : ∀ a ∈ f, ∀ o, H a = some o → H' a = some o) (h : RW K Fz H v w f) : RW K Fz' H' v w f := by
  cases h with
  | d r => exact .d (r.mono l)
  | l e r => exact .l (k _ (by simp) _ e) (r.mono l)
  | mK e r => exact .mK (k _ (by simp) _ e) (r.mono l)
  | mT e r => exact .mT (k _ (by simp) _ e) (r.mono l)
  | q r => exact .q (r.mono l)
  | r q => exact .r (q.imp (fun ⟨o, q⟩ => ⟨o, l.hp _ _ q (.inr trivial)⟩) id)
theorem RL.mono (l : Le Fz H Fz' H') : ∀ {σ : L2.St} {m : Ms} {fp : List Addr}, RL K Fz H σ m fp → (∀ a ∈ fp, ∀ o, H a = some o → H' a = some o) → RL K Fz' H' σ m fp
  | _, _, _, .nil, _ => .nil
  | _, _, _, .no r, k => .no (RL.mono l r k)
  | _, _, _, .so r s, k => .so (r.mono l fun a h => k a (List.mem_append_left _ h)) (RL.mono l s fun a h => k a (List.mem_append_right _ h))
theorem RL.length : ∀ {σ : L2.St} {m : Ms} {fp : List Addr}, RL K Fz H σ m fp → σ.length = m.length
  | _, _, _, .nil => rfl
  | _, _, _, .no r => by rw [List.length_cons, List.length_cons, RL.length r]
  | _, _, _, .so _ r => by rw [List.length_cons, List.length_cons, RL.length r]
/-- what is owned is a tracked list -/
theorem RW.own (h : RW K Fz H v w f) : ∀ a ∈ f, ∃ o, H a = some o ∧ ¬ isT o := by
  cases h with
  | d _ => intro a h; simp at h
  | l e r =>
    intro a h
    rw [List.mem_singleton] at h
    subst h; exact ⟨_, e, id⟩
  | mK e r =>
    intro a h
    rw [List.mem_singleton] at h
    subst h; exact ⟨_, e, id⟩
  | mT e r =>
    intro a h
    rw [List.mem_singleton] at h
    subst h; exact ⟨_, e, id⟩
  | q _ => intro a h; simp at h
  | r _ => intro a h; simp at h
theorem RL.own : ∀ {σ : L2.St} {m : Ms} {fp : List Addr}, RL K Fz H σ m fp → ∀ a ∈ fp, ∃ o, H a = some o ∧ ¬ isT o
  | _, _, _, .nil => by intro a h; simp at h
  | _, _, _, .no r => RL.own r
  | _, _, _, .so r s => by
    intro a h
    rcases List.mem_append.mp h with h | h
    · exact r.own a h
    · exact RL.own s a h
/-- a slot -/
theorem RL.get : ∀ {σ : L2.St} {m : Ms} {fp : List Addr} {i : Nat} {w : W}, RL K Fz H σ m fp → m[i]? = some (some w) → ∃ v f, σ[i]? = some (some v) ∧ RW K Fz H v w f ∧ ∀ a ∈ f, a ∈ fp
  | _, _, _, _, _, .nil, e => by simp at e
  | _, _, _, 0, _, .no r, e => by simp at e
  | _, _, _, i + 1, _, .no r, e => by
    obtain ⟨v, f, h1, h2, h3⟩ := RL.get (i := i) r (by simpa using e)
    exact ⟨v, f, by simpa using h1, h2, h3⟩
  | _, _, _, 0, _, .so r _, e => by
    simp at e; subst e
    exact ⟨_, _, rfl, r, fun a h => List.mem_append_left _ h⟩
  | _, _, _, i + 1, _, .so _ r, e => by
    obtain ⟨v, f, h1, h2, h3⟩ := RL.get (i := i) r (by simpa using e)
    exact ⟨v, f, by simpa using h1, h2, fun a h => List.mem_append_right _ (h3 a h)⟩
/-- a slot is stored: the top's value goes there -/
theorem RL.put : ∀ {σ : L2.St} {m : Ms} {fp f : List Addr} (i : Nat) {v : V} {w : W}, RL K Fz H σ m fp → RW K Fz H v w f → i < m.length →
    ∃ fp', RL K Fz H (σ.set i (some v)) (m.set i (some w)) fp' ∧ ∃ g, (fp').Perm (f ++ g) ∧ g.Sublist fp
  | _, _, _, _, i, _, _, .nil, _, h => by simp at h
  | _, _, _, _, 0, _, _, .no r, q, _ => ⟨_, .so q r, _, .refl _, .refl _⟩
  | _, _, _, _, 0, _, _, .so q' r, q, _ => ⟨_, .so q r, _, .refl _, List.sublist_append_right _ _⟩
  | _, _, _, _, i + 1, _, _, .no r, q, h => by
    obtain ⟨fp', r', g, p, s⟩ := RL.put i r q (by simpa using h)
    exact ⟨fp', .no r', g, p, s⟩
  | _, _, _, f, i + 1, _, _, .so (f := f0) q' r, q, h => by
    obtain ⟨fp', r', g, p, s⟩ := RL.put i r q (by simpa using h)
    refine ⟨_, .so q' r', f0 ++ g, ?_, s.append_left f0⟩
    refine (List.Perm.append_left f0 p).trans ?_
    rw [← List.append_assoc, ← List.append_assoc]
    exact List.Perm.append_right g List.perm_append_comm
/-- a slot is forgotten -/
theorem RL.drop1 : ∀ {σ : L2.St} {m : Ms} {fp : List Addr} (i : Nat), RL K Fz H σ m fp → ∃ g, RL K Fz H (σ.set i none) (m.set i none) g ∧ g.Sublist fp
  | _, _, _, _, .nil => ⟨_, .nil, .refl _⟩
  | _, _, _, 0, .no r => ⟨_, .no r, .refl _⟩
  | _, _, _, 0, .so _ r => ⟨_, .no r, List.sublist_append_right _ _⟩
  | _, _, _, i + 1, .no r => by
    obtain ⟨g, r', s⟩ := RL.drop1 i r
    exact ⟨g, .no r', s⟩
  | _, _, _, i + 1, .so (f := f0) q r => by
    obtain ⟨g, r', s⟩ := RL.drop1 i r
    exact ⟨_, .so q r', s.append_left f0⟩

/-! ### the state -/
theorem Rs.lsz (h : Rs K B Fz H σ m) : σ.length = m.length := let ⟨_, r⟩ := h; r.rl.length
theorem Rs.base (h : Rs K B Fz H σ m) : ∀ a o, B a = some o → H a = some o := let ⟨_, r⟩ := h; r.base
theorem Rs.fzn (h : Rs K B Fz H σ m) : ∀ a, Fz a → H a ≠ none := let ⟨_, r⟩ := h; r.fz
/-- the top is dropped -/
theorem Rs.pop {x : Option V} {y : Option W} (h : Rs K B Fz H (x :: σ) (y :: m)) : Rs K B Fz H σ m := by
  obtain ⟨fp, r⟩ := h
  cases r with
  | mk rl nd own base fz =>
  cases rl with
  | no s => exact ⟨_, s, nd, own, base, fz⟩
  | so q s =>
    rw [List.nodup_append] at nd
    exact ⟨_, s, nd.2.1, fun a h => own a (List.mem_append_right _ h), base, fz⟩
/-- the second is dropped -/
theorem Rs.pop2 {x y : Option V} {u w : Option W} (h : Rs K B Fz H (x :: y :: σ) (u :: w :: m)) : Rs K B Fz H (x :: σ) (u :: m) := by
  obtain ⟨fp, rl, nd, own, base, fz⟩ := h
  cases rl with
  | no s =>
    obtain ⟨g, t, nd', own', base', fz'⟩ := Rs.pop ⟨_, s, nd, own, base, fz⟩
    exact ⟨_, .no t, nd', own', base', fz'⟩
  | so q s =>
    cases s with
    | no s => exact ⟨_, .so q s, nd, own, base, fz⟩
    | @so _ _ f2 _ _ fp2 q2 s =>
      refine ⟨_, .so q s, nd.sublist ?_, fun a h => own a ?_, base, fz⟩
      · exact (List.sublist_append_right f2 fp2).append_left _
      · rcases List.mem_append.mp h with h | h
        · exact List.mem_append_left _ h
        · exact List.mem_append_right _ (List.mem_append_right _ h)
/-- data on top -/
theorem Rs.top {x : PyData} (h : Rs K B Fz H (some v :: σ) (some (.d x) :: m)) : Rp K Fz H v x := by
  obtain ⟨fp, r⟩ := h
  have z := r.rl
  cases z with
  | so q s => cases q with | d q' => exact q'
theorem Rs.push {x : PyData} (h : Rs K B Fz H σ m) (r : Rp K Fz H v x) : Rs K B Fz H (some v :: σ) (some (.d x) :: m) := by
  obtain ⟨fp, rl, nd, own, base, fz⟩ := h
  exact ⟨_, .so (f := []) (.d r) rl, nd, own, base, fz⟩
theorem Rs.get {i : Nat} {x : PyData} (h : Rs K B Fz H σ m) (e : m[i]? = some (some (.d x))) : ∃ v, σ[i]? = some (some v) ∧ Rp K Fz H v x := by
  obtain ⟨fp, r⟩ := h
  obtain ⟨v, f, h1, h2, _⟩ := r.rl.get e
  cases h2 with | d q => exact ⟨v, h1, q⟩
theorem Rs.getL {i : Nat} {xs : List PyData} (h : Rs K B Fz H σ m) (e : m[i]? = some (some (.l xs))) :
    ∃ a vs, σ[i]? = some (some (.ref a)) ∧ H a = some (.lst vs) ∧ RpAll K Fz H vs xs ∧ B a = none ∧ ¬ Fz a := by
  obtain ⟨fp, r⟩ := h
  obtain ⟨v, f, h1, h2, h3⟩ := r.rl.get e
  cases h2 with
  | l q q2 => exact ⟨_, _, h1, q, q2, (r.own _ (h3 _ (by simp))).1, (r.own _ (h3 _ (by simp))).2⟩
theorem Rs.getR {i : Nat} {ns : List Int} (h : Rs K B Fz H σ m) (e : m[i]? = some (some (.r ns))) : ∃ a, σ[i]? = some (some (.ref a)) ∧ SqL K H a (ns.map V.int) ∧ RW K Fz H (.ref a) (.r ns) [] := by
  obtain ⟨fp, r⟩ := h
  obtain ⟨v, f, h1, h2, h3⟩ := r.rl.get e
  cases h2 with
  | r q => exact ⟨_, h1, q.elim (fun ⟨o, q⟩ => .inl (.inr ⟨o, q⟩)) (fun q => q H), .r q⟩
/-- the top is stored in slot i -/
theorem Rs.put (i : Nat) (h : Rs K B Fz H (some v :: σ) (some w :: m)) (hi : i < m.length) : Rs K B Fz H (σ.set i (some v)) (m.set i (some w)) := by
  obtain ⟨fp, rl, nd, own, base, fz⟩ := h
  cases rl with
  | @so _ _ f _ _ fp q s =>
    obtain ⟨fp', r', g, p, sub⟩ := RL.put i s q hi
    refine ⟨fp', r', p.nodup_iff.mpr (nd.sublist (sub.append_left f)), fun a ha => own a ?_, base, fz⟩
    rcases List.mem_append.mp (p.mem_iff.mp ha) with h | h
    · exact List.mem_append_left _ h
    · exact List.mem_append_right _ (sub.subset h)
theorem Rs.clear (i : Nat) (h : Rs K B Fz H σ m) : Rs K B Fz H (σ.set i none) (m.set i none) := by
  obtain ⟨fp, rl, nd, own, base, fz⟩ := h
  obtain ⟨g, r, s⟩ := RL.drop1 i rl
  exact ⟨g, r, nd.sublist s, fun a h => own a (s.subset h), base, fz⟩
/-- what is known of all of the heap but of one's own lists -/
theorem RsF.le_of (r : RsF K B Fz H σ m fp) (h : ∀ a o, H a = some o → a ∉ fp → H' a = some o) (e : ∀ a, Fz a → Fz' a) : Le Fz H Fz' H' := by
  refine ⟨e, fun a o q k => h a o q fun hf => ?_⟩
  rcases k with k | k
  · exact (r.own a hf).2 k
  · obtain ⟨vs, q', n⟩ := r.rl.own a hf
    rw [q] at q'; cases q'
    exact n k
/-- the heap grows -/
theorem Rs.grow (h : Rs K B Fz H σ m) (s : Same H H') (e : Ext H Fz Fz') (z : ∀ a, Fz' a → H' a ≠ none) : Rs K B Fz' H' σ m := by
  obtain ⟨fp, r⟩ := h
  refine ⟨fp, r.rl.mono ⟨e.le, fun a o q _ => s a o q⟩ (fun a _ o q => s a o q), r.nd, fun a ha => ⟨(r.own a ha).1, fun hf => ?_⟩, fun a o q => s a o (r.base a o q), z⟩
  rcases e.new a hf with h | h
  · exact (r.own a ha).2 h
  · obtain ⟨vs, q, _⟩ := r.rl.own a ha
    rw [h] at q; cases q
theorem same_new {p : Addr} {o : HO} (h : H p = none) : Same H (upd H p o) := fun b x e => by
  rw [upd_ne (ne_of_none e h)]
  exact e
theorem Rs.new {p : Addr} {o : HO} (h : Rs K B Fz H σ m) (hp : H p = none) : Rs K B Fz (upd H p o) σ m :=
  h.grow (same_new hp) .refl fun a ha => by
    have q := h.fzn a ha
    by_cases e : a = p
    · subst e; rw [upd_same]; simp
    · rw [upd_ne e]; exact q
/-- a new tuple -/
theorem Rs.newTup {p : Addr} {vs : List V} {ds : List PyData} (h : Rs K B Fz H σ m) (hp : H p = none) (r : RpAll K Fz H vs ds) : Rs K B Fz (upd H p (.tup vs)) (some (.ref p) :: σ) (some (.d (.tuple ds)) :: m) :=
  (h.new hp).push (.tup upd_same (r.mono ⟨fun _ x => x, fun a o q _ => same_new hp a o q⟩))
/-- a new list, one's own -/
theorem Rs.newLst {p : Addr} {vs : List V} {ds : List PyData} (h : Rs K B Fz H σ m) (hp : H p = none) (r : RpAll K Fz H vs ds) : Rs K B Fz (upd H p (.lst vs)) (some (.ref p) :: σ) (some (.l ds) :: m) := by
  obtain ⟨fp, s⟩ := id h
  have nf : ¬ Fz p := fun z => h.fzn p z hp
  have nb : B p = none := by
    cases q : B p with
    | none => rfl
    | some o =>
      have := h.base p o q
      rw [hp] at this; cases this
  have rl' : RL K Fz (upd H p (.lst vs)) σ m fp := s.rl.mono ⟨fun _ x => x, fun a o q _ => same_new hp a o q⟩ fun a _ o q => same_new hp a o q
  refine ⟨[p] ++ fp, .so (.l upd_same (r.mono ⟨fun _ x => x, fun a o q _ => same_new hp a o q⟩)) rl', ?_, fun a ha => ?_, fun a o q => same_new hp a o (s.base a o q), fun a q => ?_⟩
  · rw [List.singleton_append, List.nodup_cons]
    refine ⟨fun z => ?_, s.nd⟩
    obtain ⟨us, q, _⟩ := s.rl.own p z
    rw [hp] at q; cases q
  · rcases List.mem_append.mp ha with z | z
    · rw [List.mem_singleton] at z
      subst z; exact ⟨nb, nf⟩
    · exact s.own a z
  · have e := h.fzn a q
    by_cases z : a = p
    · subst z; rw [upd_same]; simp
    · rw [upd_ne z]; exact e

/-! ### freezing -/
/-- a list of one's own is given up -/
theorem RL.more {p : Addr} (hp : ∃ vs, H p = some (.lst vs)) (h : RL K Fz H σ m fp) : RL K (fun a => Fz a ∨ a = p) H σ m fp := h.mono ⟨fun _ => .inl, fun _ _ q _ => q⟩ fun _ _ _ q => q
theorem Rs.frzTop {xs : List PyData} (h : Rs K B Fz H (some v :: σ) (some (.l xs) :: m)) : ∃ Fz', Ext B Fz Fz' ∧ Rs K B Fz' H (some v :: σ) (some (.d (.list xs)) :: m) := by
  obtain ⟨fp, rl, nd, own, base, fz⟩ := h
  cases rl with
  | so q s =>
    cases q with
    | @l p vs _ e r =>
      have l : Le Fz H (fun a => Fz a ∨ a = p) H := ⟨fun _ => .inl, fun _ _ q _ => q⟩
      rw [List.singleton_append, List.nodup_cons] at nd
      refine ⟨fun a => Fz a ∨ a = p, ⟨fun _ => .inl, fun a ha => ha.imp id fun z => by subst z; exact (own a (by simp)).1⟩, _, .so (f := []) (.d (.lst (.inr rfl) e (r.mono l))) (s.mono l fun _ _ _ q => q), nd.2, fun a ha => ?_, base, fun a ha => ?_⟩
      · refine ⟨(own a (List.mem_append_right _ ha)).1, fun z => ?_⟩
        rcases z with z | z
        · exact (own a (List.mem_append_right _ ha)).2 z
        · subst z; exact nd.1 ha
      · rcases ha with ha | ha
        · exact fz a ha
        · subst ha; rw [e]; simp
/-- data of a value, its own list given up -/
def W.noR : W → Bool
  | .d _ => true
  | .l _ => true
  | _ => false
theorem Rs.frz (h : Rs K B Fz H (some v :: σ) (some w :: m)) (n : w.noR = true) : ∃ Fz', Ext B Fz Fz' ∧ Rs K B Fz' H (some v :: σ) (some (.d w.dat) :: m) := by
  cases w with
  | d x => exact ⟨Fz, .refl, h⟩
  | l xs => exact h.frzTop
  | r ns => cases n
  | m _ _ => cases n
  | q _ => cases n
theorem getElem?_some_split {α : Type} : ∀ {l : List α} {i : Nat} {x : α}, l[i]? = some x → ∃ l1 l2, l = l1 ++ x :: l2 ∧ l1.length = i
  | [], _, _, h => by simp at h
  | a :: l, 0, x, h => by simp at h; subst h; exact ⟨[], l, rfl, rfl⟩
  | a :: l, i + 1, x, h => by
    obtain ⟨l1, l2, e, z⟩ := getElem?_some_split (l := l) (i := i) (by simpa using h)
    exact ⟨a :: l1, l2, by rw [e]; rfl, by simp [z]⟩
/-- the own list of slot i is given up, where it stands -/
theorem RL.frzAt : ∀ {σ : L2.St} {m : Ms} {fp : List Addr} (i : Nat) {xs : List PyData}, RL K Fz H σ m fp → m[i]? = some (some (.l xs)) →
    ∃ p vs g, σ[i]? = some (some (.ref p)) ∧ H p = some (.lst vs) ∧ RpAll K Fz H vs xs ∧ RL K (fun a => Fz a ∨ a = p) H σ (m.set i (some (.d (.list xs)))) g ∧ fp.Perm (p :: g)
  | _, _, _, _, _, .nil, e => by simp at e
  | _, _, _, 0, _, .no _, e => by simp at e
  | _, _, _, i + 1, _, .no r, e => by
    obtain ⟨p, vs, g, h1, h2, h3, h4, h5⟩ := RL.frzAt i r (by simpa using e)
    exact ⟨p, vs, g, by simpa using h1, h2, h3, .no h4, h5⟩
  | _, _, _, 0, _, .so q r, e => by
    have e' := Option.some.inj (Option.some.inj e)
    subst e'
    cases q with
    | @l p vs _ e r' =>
      have l : Le Fz H (fun a => Fz a ∨ a = p) H := ⟨fun _ => .inl, fun _ _ q _ => q⟩
      exact ⟨p, vs, _, rfl, e, r', .so (f := []) (.d (.lst (.inr rfl) e (r'.mono l))) (r.mono l fun _ _ _ q => q), .refl _⟩
  | _, _, _, i + 1, _, .so (f := f) q r, e => by
    obtain ⟨p, vs, g, h1, h2, h3, h4, h5⟩ := RL.frzAt i r (by simpa using e)
    have l : Le Fz H (fun a => Fz a ∨ a = p) H := ⟨fun _ => .inl, fun _ _ q _ => q⟩
    exact ⟨p, vs, f ++ g, by simpa using h1, h2, h3, .so (q.mono l fun _ _ _ q => q) h4, (h5.append_left f).trans List.perm_middle⟩
theorem Rs.frzAt (i : Nat) {xs : List PyData} (h : Rs K B Fz H σ m) (e : m[i]? = some (some (.l xs))) : ∃ Fz', Ext B Fz Fz' ∧ Rs K B Fz' H σ (m.set i (some (.d (.list xs)))) := by
  obtain ⟨fp, rl, nd, own, base, fz⟩ := h
  obtain ⟨p, vs, g, h1, h2, h3, h4, h5⟩ := rl.frzAt i e
  have nd' := h5.nodup_iff.mp nd
  rw [List.nodup_cons] at nd'
  have pin : p ∈ fp := h5.mem_iff.mpr (by simp)
  refine ⟨fun a => Fz a ∨ a = p, ⟨fun _ => .inl, fun a ha => ha.imp id fun z => by subst z; exact (own a pin).1⟩, g, h4, nd'.2, fun a ha => ?_, base, fun a ha => ?_⟩
  · have ha' : a ∈ fp := h5.mem_iff.mpr (List.mem_cons_of_mem _ ha)
    refine ⟨(own a ha').1, fun z => ?_⟩
    rcases z with z | z
    · exact (own a ha').2 z
    · subst z; exact nd'.1 ha
  · rcases ha with ha | ha
    · exact fz a ha
    · subst ha; rw [h2]; simp

/-! ### holding values while something else is reckoned -/
open Classical in
/-- values τ are held; what comes behind leaves them alone -/
theorem Rs.hold (h : Rs K B Fz H (τ ++ σ) (n ++ m)) (hl : τ.length = n.length) : ∃ B2 : Hp, Rs K B2 Fz H σ m ∧ (∀ a o, B2 a = some o → H a = some o) ∧ (∀ F', Ext B2 Fz F' → Ext B Fz F') ∧
    ∀ {Fz' : Addr → Prop} {H' : Hp} {ρ : L2.St} {r : Ms}, Ext B2 Fz Fz' → Rs K B2 Fz' H' (ρ ++ σ) (r ++ m) → ρ.length = r.length → Rs K B Fz' H' (ρ ++ (τ ++ σ)) (r ++ (n ++ m)) ∧ Le Fz H Fz' H' := by
  obtain ⟨fp, rl, nd, own, base, fz⟩ := h
  have split : ∀ {Fz : Addr → Prop} {H : Hp} {τ σ : L2.St} {n m : Ms} {fp : List Addr}, RL K Fz H (τ ++ σ) (n ++ m) fp → τ.length = n.length → ∃ f1 f2, fp = f1 ++ f2 ∧ RL K Fz H τ n f1 ∧ RL K Fz H σ m f2 := by
    intro Fz H τ
    induction τ with
    | nil =>
      intro σ n m fp h hl
      cases n with
      | nil => exact ⟨[], fp, rfl, .nil, h⟩
      | cons _ _ => simp at hl
    | cons x τ ih =>
      intro σ n m fp h hl
      cases n with
      | nil => simp at hl
      | cons y n =>
        rw [List.cons_append, List.cons_append] at h
        cases h with
        | no r =>
          obtain ⟨f1, f2, e, a, b⟩ := ih r (by simpa using hl)
          exact ⟨f1, f2, e, .no a, b⟩
        | @so _ _ f _ _ _ q r =>
          obtain ⟨f1, f2, e, a, b⟩ := ih r (by simpa using hl)
          exact ⟨f ++ f1, f2, by rw [e, List.append_assoc], .so q a, b⟩
  have glue : ∀ {Fz : Addr → Prop} {H : Hp} {τ σ : L2.St} {n m : Ms} {f1 f2 : List Addr}, RL K Fz H τ n f1 → RL K Fz H σ m f2 → RL K Fz H (τ ++ σ) (n ++ m) (f1 ++ f2) := by
    intro Fz H τ σ n m f1 f2 a b
    induction a with
    | nil => exact b
    | no r ih => exact .no ih
    | so q r ih => rw [List.append_assoc]; exact .so q ih
  obtain ⟨f1, f2, e, r1, r2⟩ := split rl hl
  subst e
  rw [List.nodup_append] at nd
  obtain ⟨nd1, nd2, nd3⟩ := nd
  have b2s : ∀ a o, (if a ∈ f2 then none else H a) = some o → a ∉ f2 ∧ H a = some o := fun a o q => by
    by_cases z : a ∈ f2
    · rw [if_pos z] at q; cases q
    · rw [if_neg z] at q; exact ⟨z, q⟩
  have bb : ∀ a, (if a ∈ f2 then (none : Option HO) else H a) = none → B a = none := fun a q => by
    by_cases z : a ∈ f2
    · exact (own a (List.mem_append_right _ z)).1
    · rw [if_neg z] at q
      cases w : B a with
      | none => rfl
      | some o => rw [base a o w] at q; cases q
  have exB : ∀ F', Ext (fun a => if a ∈ f2 then none else H a) Fz F' → Ext B Fz F' := fun F' x => ⟨x.le, fun a ha => (x.new a ha).imp id (bb a)⟩
  refine ⟨fun a => if a ∈ f2 then none else H a, ⟨f2, r2, nd2, fun a ha => ⟨if_pos ha, (own a (List.mem_append_right _ ha)).2⟩, fun a o q => (b2s a o q).2, fz⟩, fun a o q => (b2s a o q).2, exB, ?_⟩
  intro Fz' H' ρ r x h' hl'
  obtain ⟨fp', rl', nd', own', base', fz'⟩ := h'
  obtain ⟨g1, g2, e', q1, q2⟩ := split rl' hl'
  subst e'
  -- the heap beyond the slots' own lists stands
  have st : ∀ a o, H a = some o → a ∉ f2 → H' a = some o := fun a o q z => base' a o (by rw [if_neg z]; exact q)
  have l : Le Fz H Fz' H' := ⟨x.le, fun a o q k => st a o q fun z => by
    rcases k with k | k
    · exact (own a (List.mem_append_right _ z)).2 k
    · obtain ⟨vs, q', n⟩ := r2.own a z
      rw [q] at q'; cases q'
      exact n k⟩
  have d1 : ∀ a ∈ f1, (if a ∈ f2 then none else H a) ≠ none := fun a ha => by
    have z : a ∉ f2 := fun z => nd3 a ha a z rfl
    rw [if_neg z]
    obtain ⟨vs, q, _⟩ := r1.own a ha
    rw [q]; simp
  have rt : RL K Fz' H' τ n f1 := r1.mono l fun a ha o q => st a o q fun z => nd3 a ha a z rfl
  rw [List.nodup_append] at nd'
  obtain ⟨n1, n2, n3⟩ := nd'
  refine ⟨⟨g1 ++ (f1 ++ g2), glue q1 (glue rt q2), ?_, fun a ha => ?_, fun a o q => ?_, fz'⟩, l⟩
  · rw [List.nodup_append]
    refine ⟨n1, ?_, fun a ha b hb e => ?_⟩
    · rw [List.nodup_append]
      refine ⟨nd1, n2, fun a ha b hb e => ?_⟩
      subst e
      exact d1 a ha (own' a (List.mem_append_right _ hb)).1
    · subst e
      rcases List.mem_append.mp hb with hb | hb
      · exact d1 a hb (own' a (List.mem_append_left _ ha)).1
      · exact n3 a ha a hb rfl
  · rcases List.mem_append.mp ha with ha | ha
    · exact ⟨bb a (own' a (List.mem_append_left _ ha)).1, (own' a (List.mem_append_left _ ha)).2⟩
    · rcases List.mem_append.mp ha with ha | ha
      · refine ⟨(own a (List.mem_append_left _ ha)).1, fun z => ?_⟩
        rcases x.new a z with z | z
        · exact (own a (List.mem_append_left _ ha)).2 z
        · exact d1 a ha z
      · exact ⟨bb a (own' a (List.mem_append_right _ ha)).1, (own' a (List.mem_append_right _ ha)).2⟩
  · have z : a ∉ f2 := fun z => by
      have := (own a (List.mem_append_right _ z)).1
      rw [q] at this; cases this
    exact st a o (base a o q) z
/-- something else is reckoned: what was data stays so -/
theorem Rs.step (h : Rs K B Fz H σ m) : ∃ B2 : Hp, Rs K B2 Fz H σ m ∧ (∀ F', Ext B2 Fz F' → Ext B Fz F') ∧
    ∀ {Fz' : Addr → Prop} {H' : Hp} {ρ : L2.St} {r : Ms}, Ext B2 Fz Fz' → Rs K B2 Fz' H' (ρ ++ σ) (r ++ m) → ρ.length = r.length → Rs K B Fz' H' (ρ ++ σ) (r ++ m) ∧ Le Fz H Fz' H' := by
  obtain ⟨B2, h1, h2, h3, h4⟩ := Rs.hold (τ := []) (n := []) (by simpa using h) rfl
  exact ⟨B2, h1, h3, fun x h' hl => by simpa using h4 x h' hl⟩
end
end Dl
set_option Elab.async false
set_option linter.all false
set_option maxRecDepth 100000
/-! D2: judgements of expressions over data states; names, constants, operators, comparisons, displays, subscripts. -/
namespace Dl
open PySem PySem.Spec L2
abbrev CT := Nat → Value
/-- a value that is read: data, or a list of one's own in a slot -/
def SV (K : PySem.W.Frag) (Fz : Addr → Prop) (H : Hp) (σ : L2.St) (m : Ms) (v : V) (x : PyData) : Prop :=
  Rp K Fz H v x ∨ ∃ (i : Nat) (xs : List PyData), σ[i]? = some (some v) ∧ m[i]? = some (some (W.l xs)) ∧ x = PyData.list xs
inductive Vw (K : PySem.W.Frag) (Fz : Addr → Prop) (H : Hp) : V → PyData → Prop
  | rp {v : V} {x : PyData} : Rp K Fz H v x → Vw K Fz H v x
  | own {a : Addr} {vs : List V} {xs : List PyData} : H a = some (.lst vs) → RpAll K Fz H vs xs → Vw K Fz H (.ref a) (.list xs)
section
variable {K : PySem.W.Frag} {B : Hp} {Fz Fz' : Addr → Prop} {H H' : Hp} {σ : L2.St} {m : Ms} {v : V} {x : PyData}
theorem SV.vw (h : Rs K B Fz H σ m) (s : SV K Fz H σ m v x) : Vw K Fz H v x := by
  rcases s with s | ⟨i, xs, e1, e2, rfl⟩
  · exact .rp s
  · obtain ⟨a, vs, e, q1, q2, _⟩ := h.getL e2
    rw [e1] at e; cases e
    exact .own q1 q2
theorem SV.le (l : Le Fz H Fz' H') (s : SV K Fz H σ m v x) : SV K Fz' H' σ m v x := s.imp (Rp.mono l) id
theorem Vw.dp (h : Vw K Fz H v x) : Dp K H v x := by
  cases h with
  | rp r => exact r.dp
  | own e r => exact .lst (.inl (.inl e)) r.dp
theorem Vw.plain (h : Vw K Fz H v x) : x.plain = true := by
  cases h with
  | rp r => exact r.plain
  | own e r => simp only [PyData.plain]; exact r.plain
theorem Vw.int {i : Int} (h : Vw K Fz H v (.int i)) : v = .int i := by
  cases h with | rp r => cases r; rfl
theorem Vw.bool {b : Bool} (h : Vw K Fz H v (.bool b)) : v = .bl b := by
  cases h with | rp r => cases r; rfl
theorem Vw.str {s : Str} (h : Vw K Fz H v (.str s)) : v = .str s := by
  cases h with | rp r => cases r; rfl
theorem Vw.non (h : Vw K Fz H v .none) : v = .non := by
  cases h with | rp r => cases r; rfl
theorem Vw.list {xs : List PyData} (h : Vw K Fz H v (.list xs)) : ∃ a vs, v = .ref a ∧ H a = some (.lst vs) ∧ RpAll K Fz H vs xs := by
  cases h with
  | rp r => cases r with | lst f e r => exact ⟨_, _, rfl, e, r⟩
  | own e r => exact ⟨_, _, rfl, e, r⟩
theorem Rp.tupE {xs : List PyData} (h : Rp K Fz H v (.tuple xs)) : ∃ a vs, v = .ref a ∧ SqT K H a vs ∧ RpAll K Fz H vs xs := by
  cases h with
  | tup e r => exact ⟨_, _, rfl, .inl (.inl e), r⟩
  | tupK e _ r => exact ⟨_, _, rfl, e _, r⟩
theorem Vw.tupR {xs : List PyData} (h : Vw K Fz H v (.tuple xs)) : Rp K Fz H v (.tuple xs) := by
  cases h with
  | rp r => exact r
theorem Vw.tup {xs : List PyData} (h : Vw K Fz H v (.tuple xs)) : ∃ a vs, v = .ref a ∧ SqT K H a vs ∧ RpAll K Fz H vs xs := by
  cases h with
  | rp r => cases r with
    | tup e r => exact ⟨_, _, rfl, .inl (.inl e), r⟩
    | tupK e _ r => exact ⟨_, _, rfl, e _, r⟩
end

/-! ### the judgement -/
/-- R: what is known of the value and the state behind the expression; Wx: what is wanted of an exception -/
def tG {α : Type} (K : PySem.W.Frag) (ct : CT) (Wx : WX) (R : Hp → (Addr → Prop) → Hp → L2.St → Ms → V → α → Prop) (f : Ms → Rz α) : TE := fun σ H Q => ∃ B Fz m, Rs K B Fz H σ m ∧
  match f m with
  | .st => False
  | .ok a => ∀ v H' Fz', Ext B Fz Fz' → R B Fz' H' σ m v a → Q v H'
  | .ex c => ∀ H' Fz', Ext B Fz Fz' → Rs K B Fz' H' σ m → Wx (ct c) Option.none σ H'
def rE (K : PySem.W.Frag) : Hp → (Addr → Prop) → Hp → L2.St → Ms → V → W → Prop := fun B Fz H σ m v w => Rs K B Fz H (some v :: σ) (some w :: m)
def rV (K : PySem.W.Frag) : Hp → (Addr → Prop) → Hp → L2.St → Ms → V → PyData → Prop := fun B Fz H σ m v x => Rs K B Fz H σ m ∧ Rp K Fz H v x
def rR (K : PySem.W.Frag) : Hp → (Addr → Prop) → Hp → L2.St → Ms → V → PyData → Prop := fun B Fz H σ m v x => Rs K B Fz H σ m ∧ SV K Fz H σ m v x
abbrev tE (K : PySem.W.Frag) (ct : CT) (Wx : WX) (f : Ms → Rz W) : TE := tG K ct Wx (rE K) f
abbrev tV (K : PySem.W.Frag) (ct : CT) (Wx : WX) (f : Ms → Rz PyData) : TE := tG K ct Wx (rV K) f
abbrev tR (K : PySem.W.Frag) (ct : CT) (Wx : WX) (f : Ms → Rz PyData) : TE := tG K ct Wx (rR K) f
structure DE (X : Cx) (ct : CT) (Wx : WX) (e : Expr) (f : Ms → Rz W) : Prop where
  pe : PE X e (tE X.K ct Wx f)
structure DV (X : Cx) (ct : CT) (Wx : WX) (e : Expr) (f : Ms → Rz PyData) : Prop where
  pe : PE X e (tV X.K ct Wx f)
structure DR (X : Cx) (ct : CT) (Wx : WX) (e : Expr) (f : Ms → Rz PyData) : Prop where
  pe : PE X e (tR X.K ct Wx f)
theorem PE_imp {X : Cx} {e : Expr} {t t' : TE} (h : PE X e t) (q : ∀ σ H Q, t' σ H Q → t σ H Q) : PE X e t' := ⟨fun pins s σ H Q I w => h.run pins s σ H Q I (q _ _ _ w)⟩
section
variable {X : Cx} {ct : CT} {Wx : WX} {e a b : Expr} {pos : Pos}
/-- a value given up is data -/
def toV (f : Ms → Rz W) : Ms → Rz PyData := fun m => (f m).bind fun w => match w with
  | .d x => .ok x
  | .l xs => .ok (.list xs)
  | _ => .st
def ofV (f : Ms → Rz PyData) : Ms → Rz W := fun m => (f m).map W.d
theorem DE.v {f : Ms → Rz W} (h : DE X ct Wx e f) : DV X ct Wx e (toV f) := ⟨PE_imp h.pe fun σ H Q ⟨B, Fz, m, r, q⟩ => by
  refine ⟨B, Fz, m, r, ?_⟩
  unfold toV at q
  cases hf : f m with
  | st => rw [hf] at q; exact q
  | ex c => rw [hf] at q; exact q
  | ok w =>
    rw [hf] at q
    cases w with
    | d x => exact fun v H' Fz' e r' => q v H' Fz' e ⟨r'.pop, r'.top⟩
    | l xs =>
      intro v H' Fz' e r'
      obtain ⟨F2, e2, r2⟩ := Rs.frzTop r'
      exact q v H' F2 (e.trans e2) ⟨r2.pop, r2.top⟩
    | _ => exact q.elim⟩
theorem DV.rd {f : Ms → Rz PyData} (h : DV X ct Wx e f) : DR X ct Wx e f := ⟨PE_imp h.pe fun σ H Q ⟨B, Fz, m, r, q⟩ => by
  refine ⟨B, Fz, m, r, ?_⟩
  cases hf : f m with
  | st => rw [hf] at q; exact q
  | ex c => rw [hf] at q; exact q
  | ok w => rw [hf] at q; exact fun v H' Fz' e r' => q v H' Fz' e ⟨r'.1, Or.inl r'.2⟩⟩
theorem DE.rd {f : Ms → Rz W} (h : DE X ct Wx e f) : DR X ct Wx e (toV f) := h.v.rd
theorem DV.toE {f : Ms → Rz PyData} (h : DV X ct Wx e f) : DE X ct Wx e (ofV f) := ⟨PE_imp h.pe fun σ H Q ⟨B, Fz, m, r, q⟩ => by
  refine ⟨B, Fz, m, r, ?_⟩
  unfold ofV at q
  cases hf : f m with
  | st => rw [hf] at q; exact q
  | ex c => rw [hf] at q; exact q
  | ok w => rw [hf] at q; exact fun v H' Fz' e r' => q v H' Fz' e (r'.1.push r'.2)⟩

/-- one after another: a read value -/
theorem tR_then {K : PySem.W.Frag} {f : Ms → Rz PyData} {B : Hp} {Fz : Addr → Prop} {σ : L2.St} {m : Ms} {H : Hp} {Q : VK} (h : Rs K B Fz H σ m)
    (hk : match f m with
      | .st => False
      | .ok x => ∀ v H' Fz', Ext B Fz Fz' → Rs K B Fz' H' σ m → Le Fz H Fz' H' → SV K Fz' H' σ m v x → Q v H'
      | .ex c => ∀ H' Fz', Ext B Fz Fz' → Rs K B Fz' H' σ m → Wx (ct c) Option.none σ H') : tR K ct Wx f σ H Q := by
  obtain ⟨B2, h2, he, ht⟩ := h.step
  refine ⟨B2, Fz, m, h2, ?_⟩
  cases hf : f m with
  | st => rw [hf] at hk; exact hk
  | ex c => rw [hf] at hk; exact fun H' Fz' e r => hk H' Fz' (he _ e) (ht (ρ := []) (r := []) e r rfl).1
  | ok x =>
    rw [hf] at hk
    intro v H' Fz' e ⟨r, s⟩
    obtain ⟨r', l⟩ := ht (ρ := []) (r := []) e r rfl
    exact hk v H' Fz' (he _ e) r' l s
theorem tV_then {K : PySem.W.Frag} {f : Ms → Rz PyData} {B : Hp} {Fz : Addr → Prop} {σ : L2.St} {m : Ms} {H : Hp} {Q : VK} (h : Rs K B Fz H σ m)
    (hk : match f m with
      | .st => False
      | .ok x => ∀ v H' Fz', Ext B Fz Fz' → Rs K B Fz' H' σ m → Le Fz H Fz' H' → Rp K Fz' H' v x → Q v H'
      | .ex c => ∀ H' Fz', Ext B Fz Fz' → Rs K B Fz' H' σ m → Wx (ct c) Option.none σ H') : tV K ct Wx f σ H Q := by
  obtain ⟨B2, h2, he, ht⟩ := h.step
  refine ⟨B2, Fz, m, h2, ?_⟩
  cases hf : f m with
  | st => rw [hf] at hk; exact hk
  | ex c => rw [hf] at hk; exact fun H' Fz' e r => hk H' Fz' (he _ e) (ht (ρ := []) (r := []) e r rfl).1
  | ok x =>
    rw [hf] at hk
    intro v H' Fz' e ⟨r, s⟩
    obtain ⟨r', l⟩ := ht (ρ := []) (r := []) e r rfl
    exact hk v H' Fz' (he _ e) r' l s
def ofO {α : Type} : Option α → Rz α
  | some a => .ok a
  | none => .st
@[simp] theorem ofO_some {α : Type} (a : α) : ofO (some a) = .ok a := rfl
@[simp] theorem ofO_none {α : Type} : ofO (none : Option α) = .st := rfl

/-! ### names and constants -/
def vVar (i : Nat) : Ms → Rz PyData := fun m => match m[i]? with
  | some (some (.d x)) => .ok x
  | _ => .st
def rVar (i : Nat) : Ms → Rz PyData := fun m => match m[i]? with
  | some (some (.d x)) => .ok x
  | some (some (.l xs)) => .ok (.list xs)
  | _ => .st
def vC (x : PyData) : Ms → Rz PyData := fun _ => .ok x
theorem vVar_ok {i : Nat} {m : Ms} {x : PyData} (h : vVar i m = .ok x) : m[i]? = some (some (.d x)) := by
  unfold vVar at h
  split at h
  · rename_i y z
    cases h; exact z
  · cases h
theorem vVar_ex {i : Nat} {m : Ms} {c : Nat} : vVar i m ≠ .ex c := by
  unfold vVar
  split <;> (intro h; cases h)
theorem rVar_ok {i : Nat} {m : Ms} {x : PyData} (h : rVar i m = .ok x) : m[i]? = some (some (.d x)) ∨ ∃ xs, m[i]? = some (some (.l xs)) ∧ x = .list xs := by
  unfold rVar at h
  split at h
  · rename_i y z
    cases h; exact .inl z
  · rename_i y z
    cases h; exact .inr ⟨_, z, rfl⟩
  · cases h
theorem rVar_ex {i : Nat} {m : Ms} {c : Nat} : rVar i m ≠ .ex c := by
  unfold rVar
  split <;> (intro h; cases h)
section
variable {x : Str}
theorem dv_var (i : Nat) (hN : X.N[i]? = some x := by rfl) (hv : Vis X.env.scope x := by first | exact Or.inl rfl | exact Or.inr (Or.inl rfl) | exact Or.inr (Or.inr rfl)) (hd : (x == ("__debug__" : Str)) = false := by decide)
    (hcd : (x == ("__classdict__" : Str)) = false := by decide) : DV X ct Wx (.Name x pos) (vVar i) := ⟨PE_imp (pe_var hN hv hd hcd) fun σ H Q ⟨B, Fz, m, r, q⟩ => by
  cases hf : vVar i m with
  | st => rw [hf] at q; exact q.elim
  | ex c => exact absurd hf vVar_ex
  | ok y =>
    rw [hf] at q
    obtain ⟨v, h1, h2⟩ := r.get (vVar_ok hf)
    exact ⟨v, h1, q v H Fz .refl ⟨r, h2⟩⟩⟩
theorem dr_var (i : Nat) (hN : X.N[i]? = some x := by rfl) (hv : Vis X.env.scope x := by first | exact Or.inl rfl | exact Or.inr (Or.inl rfl) | exact Or.inr (Or.inr rfl)) (hd : (x == ("__debug__" : Str)) = false := by decide)
    (hcd : (x == ("__classdict__" : Str)) = false := by decide) : DR X ct Wx (.Name x pos) (rVar i) := ⟨PE_imp (pe_var hN hv hd hcd) fun σ H Q ⟨B, Fz, m, r, q⟩ => by
  cases hf : rVar i m with
  | st => rw [hf] at q; exact q.elim
  | ex c => exact absurd hf rVar_ex
  | ok y =>
    rw [hf] at q
    rcases rVar_ok hf with e | ⟨xs, e, rfl⟩
    · obtain ⟨v, h1, h2⟩ := r.get e
      exact ⟨v, h1, q v H Fz .refl ⟨r, Or.inl h2⟩⟩
    · obtain ⟨a, vs, h1, h2, h3, _⟩ := r.getL e
      exact ⟨_, h1, q _ H Fz .refl ⟨r, Or.inr ⟨i, xs, h1, e, rfl⟩⟩⟩⟩
end
theorem dv_c {t : V} {x : PyData} (h : PE X e (tC t)) (r : ∀ Fz H, Rp X.K Fz H t x) : DV X ct Wx e (vC x) := ⟨PE_imp h fun σ H Q ⟨B, Fz, m, s, q⟩ => q t H Fz .refl ⟨s, r _ _⟩⟩
theorem dv_int {i : Int} {j pos} : DV X ct Wx (.Constant (.int i) j pos) (vC (.int i)) := dv_c pe_int fun _ _ => .int i
theorem dv_bl {i : Bool} {j pos} : DV X ct Wx (.Constant (.bool i) j pos) (vC (.bool i)) := dv_c pe_bl fun _ _ => .bl i
theorem dv_non {j pos} : DV X ct Wx (.Constant .none j pos) (vC .none) := dv_c pe_non fun _ _ => .non
theorem dv_str {i : Str} {j pos} : DV X ct Wx (.Constant (.str i) j pos) (vC (.str i)) := dv_c pe_str fun _ _ => .str i
/-- a constant of the module -/
def GlC (K : PySem.W.Frag) (mg : Str → Option Value) (x : Str) (d : PyData) : Prop := ∃ v u, mg x = some u ∧ RelV v u ∧ ∀ Fz H, Rp K Fz H v d
theorem dv_glob {x : Str} {d : PyData} (h : GlC X.K X.mg x d) (hg : Gl X x := by rfl) (hd : (x == ("__debug__" : Str)) = false := by decide) : DV X ct Wx (.Name x pos) (vC d) := by
  obtain ⟨v, u, h1, h2, h3⟩ := h
  exact dv_c (pe_glob hg h1 h2 hd) h3

/-! ### two operands -/
def e2 (g : PyData → PyData → Option W) (f1 f2 : Ms → Rz PyData) : Ms → Rz W := fun m => (f1 m).bind fun x => (f2 m).bind fun y => ofO (g x y)
def e1 (g : PyData → Option W) (f : Ms → Rz PyData) : Ms → Rz W := fun m => (f m).bind fun x => ofO (g x)
/-- a rule by values does what g says -/
def OpOk (K : PySem.W.Frag) (r : R2) (g : PyData → PyData → Option W) : Prop :=
  ∀ {B : Hp} {Fz : Addr → Prop} {H : Hp} {σ : L2.St} {m : Ms} {v u : V} {x y : PyData} {w : W} {Q : VK}, Rs K B Fz H σ m → Vw K Fz H v x → Vw K Fz H u y → g x y = some w →
    (∀ v' H', Rs K B Fz H' (some v' :: σ) (some w :: m) → Q v' H') → r v u H Q
theorem op2 {r : R2} {g : PyData → PyData → Option W} {fa fb : Ms → Rz PyData} (hg : OpOk X.K r g) {σ : L2.St} {H : Hp} {Q : VK} (q : tE X.K ct Wx (e2 g fa fb) σ H Q) : tOp r (tR X.K ct Wx fa) (tR X.K ct Wx fb) σ H Q := by
  obtain ⟨B, Fz, m, h, q⟩ := q
  unfold e2 at q
  refine tR_then h ?_
  cases ha : fa m with
  | st => rw [ha] at q; exact q
  | ex c => rw [ha] at q; exact q
  | ok x =>
    intro v H1 Fz1 x1 h1 l1 s1
    rw [ha, Rz.bind_ok] at q
    refine tR_then h1 ?_
    cases hb : fb m with
    | st => rw [hb] at q; exact q
    | ex c => rw [hb] at q; exact fun H' Fz' x2 r2 => q H' Fz' (x1.trans x2) r2
    | ok y =>
      intro u H2 Fz2 x2 h2 l2 s2
      rw [hb, Rz.bind_ok] at q
      cases hw : g x y with
      | none => rw [hw] at q; exact q.elim
      | some w =>
        rw [hw] at q
        exact hg h2 ((s1.le l2).vw h2) (s2.vw h2) hw fun v' H' r => q v' H' Fz2 (x1.trans x2) r
theorem de_op {op : Operator} {r : R2} {g : PyData → PyData → Option W} {fa fb : Ms → Rz PyData} (ho : OpR X (binaryOp op) r) (hg : OpOk X.K r g) (ha : DR X ct Wx a fa) (hb : DR X ct Wx b fb) : DE X ct Wx (.BinOp a op b pos) (e2 g fa fb) :=
  ⟨PE_imp (pe_op ho ha.pe hb.pe) fun _ _ _ q => op2 hg q⟩
/-- by cases of the data -/
theorem OpOk.imm {K : PySem.W.Frag} {B : Hp} {Fz : Addr → Prop} {H : Hp} {σ : L2.St} {m : Ms} {v : V} {x : PyData} {Q : VK} (h : Rs K B Fz H σ m) (r : Rp K Fz H v x) (q : ∀ v' H', Rs K B Fz H' (some v' :: σ) (some (.d x) :: m) → Q v' H') : Q v H := q v H (h.push r)
end
end Dl
set_option Elab.async false
set_option linter.all false
set_option maxRecDepth 100000
/-! D3: operators by data. -/
namespace Dl
open PySem PySem.Spec PyProof.Rows L2

/-! ### what operators give -/
def addD : PyData → PyData → Option W
  | .int i, .int j => some (.d (.int (i + j)))
  | .tuple a, .tuple b => if a.length + b.length ≤ 16000000 then some (.d (.tuple (a ++ b))) else none
  | .list a, .list b => if a.length + b.length ≤ 16000000 then some (.l (a ++ b)) else none
  | .str a, .str b => if a.length + b.length ≤ 16000000 then some (.d (.str (a ++ b))) else none
  | _, _ => none
def subD : PyData → PyData → Option W
  | .int i, .int j => some (.d (.int (i - j)))
  | _, _ => none
def smallI (i : Int) : Prop := -(2 ^ 64) < i ∧ i < 2 ^ 64
noncomputable instance (i : Int) : Decidable (smallI i) := Classical.propDecidable _
noncomputable def mulD : PyData → PyData → Option W
  | .int i, .int j => if smallI i ∨ smallI j then some (.d (.int (i * j))) else none
  | .list a, .int k => if (-1000000 ≤ k ∧ k ≤ 1000000) ∧ a.length * k.toNat ≤ 16000000 then some (.l (List.replicate k.toNat a).flatten) else none
  | .tuple a, .int k => if (-1000 ≤ k ∧ k ≤ 1000) ∧ a.length ≤ 1000 then some (.d (.tuple (List.replicate k.toNat a).flatten)) else none
  | _, _ => none
def divD : PyData → PyData → Option W
  | .int i, .int j => if 0 < j ∧ j < 1073741824 then some (.d (.int (i / j))) else none
  | _, _ => none
def modD : PyData → PyData → Option W
  | .int i, .int j => if 0 < j then some (.d (.int (i % j))) else none
  | _, _ => none
def powD : PyData → PyData → Option W
  | .int i, .int j => if 0 ≤ j ∧ j ≤ 1000000 ∧ i.natAbs < 2 ^ 64 then some (.d (.int (i ^ j.toNat))) else none
  | _, _ => none
theorem sz_le : (16000000 : Nat) ≤ sizeLine := by rw [sizeLine_eq]; decide
section
variable {X : Cx}
/-! ### the rules by values -/
def rStrCat : R2 := fun x y H Q => ∃ i j, x = .str i ∧ y = .str j ∧ i.length + j.length ≤ sizeLine ∧ Q (.str (i ++ j)) H
def rAddD (K : PySem.W.Frag) : R2 := fun x y H Q => rI0 (fun i j => .int (i + j)) x y H Q ∨ (rCatA K x y H Q ∨ (rCat x y H Q ∨ rStrCat x y H Q))
theorem op_addD : OpR X (binaryOp .Add) (rAddD X.K) := op_add.or (op_catA.or (op_cat.or op_add_str))
theorem ok_addD {K : PySem.W.Frag} : OpOk K (rAddD K) addD := by
  intro B Fz H σ m v u x y w Q h a b e q
  unfold addD at e
  split at e
  · cases e
    exact .inl ⟨_, _, a.int, b.int, q _ _ (h.push (.int _))⟩
  · split at e
    · rename_i hz
      cases e
      have ra := a.tupR
      have rb := b.tupR
      obtain ⟨p, vs, rfl, s1, r1⟩ := a.tup
      obtain ⟨p', us, rfl, s2, r2⟩ := b.tup
      refine .inr (.inl ⟨p, p', vs, us, rfl, rfl, s1, s2, ?_, fun z => ?_, fun _ z => ?_, fun _ _ p hp => ?_⟩)
      · rw [r1.length, r2.length]; exact Nat.le_trans hz sz_le
      · subst z; cases r1
        exact q _ _ (h.push (by simpa using rb))
      · subst z; cases r2
        exact q _ _ (h.push (by simpa using ra))
      · exact q _ _ (h.newTup hp (r1.append r2))
    · cases e
  · split at e
    · rename_i hz
      cases e
      obtain ⟨p, vs, rfl, s1, r1⟩ := a.list
      obtain ⟨p', us, rfl, s2, r2⟩ := b.list
      refine .inr (.inr (.inl ⟨p, p', vs, us, rfl, rfl, s1, s2, ?_, fun p hp => ?_⟩))
      · rw [r1.length, r2.length]; exact Nat.le_trans hz sz_le
      · exact q _ _ (h.newLst hp (r1.append r2))
    · cases e
  · split at e
    · rename_i hz
      cases e
      exact .inr (.inr (.inr ⟨_, _, a.str, b.str, Nat.le_trans hz sz_le, q _ _ (h.push (.str _))⟩))
    · cases e
  · cases e
theorem ok_subD {K : PySem.W.Frag} : OpOk K (rI0 fun i j => .int (i - j)) subD := by
  intro B Fz H σ m v u x y w Q h a b e q
  unfold subD at e
  split at e
  · cases e
    exact ⟨_, _, a.int, b.int, q _ _ (h.push (.int _))⟩
  · cases e
theorem ok_divD {K : PySem.W.Frag} : OpOk K (rI CDiv fun i j => .int (i / j)) divD := by
  intro B Fz H σ m v u x y w Q h a b e q
  unfold divD at e
  split at e
  · split at e
    · rename_i hz
      cases e
      exact ⟨_, _, a.int, b.int, hz, q _ _ (h.push (.int _))⟩
    · cases e
  · cases e
theorem ok_modD {K : PySem.W.Frag} : OpOk K (rI (fun _ j => 0 < j) fun i j => .int (i % j)) modD := by
  intro B Fz H σ m v u x y w Q h a b e q
  unfold modD at e
  split at e
  · split at e
    · rename_i hz
      cases e
      exact ⟨_, _, a.int, b.int, hz, q _ _ (h.push (.int _))⟩
    · cases e
  · cases e
theorem ok_powD {K : PySem.W.Frag} : OpOk K (rI CPow fun i j => .int (i ^ j.toNat)) powD := by
  intro B Fz H σ m v u x y w Q h a b e q
  unfold powD at e
  split at e
  · split at e
    · rename_i hz
      cases e
      exact ⟨_, _, a.int, b.int, hz, q _ _ (h.push (.int _))⟩
    · cases e
  · cases e

/-! ### a tuple so many times -/
theorem tuple_mul_same (l : Addr) (items : Array Value) (n : Nat) (dd : Option Addr) (sl : Array (Option Value)) (x : Int) (u : Tok) (c0 : (decide (x < -(2 ^ 63)) || decide (x ≥ 2 ^ 63)) = false) (c1 : (items.isEmpty || x == 1) = true) :
    Meets (Builtin.«tuple.__mul__» ⟨[.ref l, .int x u], []⟩) (fun _ R s => s.heap.get? l = some { cls := .type "tuple", dict := dd, data := .seq items n, slots := sl } ∧ R (.ok (.ret (Value.ref l))) s) :=
  .of_wp fun prog w A R s h => by
    obtain ⟨hp, g, d, tk, os⟩ := s
    obtain ⟨hl, h⟩ := h
    have f1 := AutoSeq1.idx_int
    wp_walk using wpAny_loadPart' hl
    repeat (first
      | (refine wpAny_ite_false (decide_eq_false (by rw [c0]; exact Bool.false_ne_true)) ?_; wp_walk using wpAny_loadPart' hl)
      | (refine wpAny_ite_true (decide_eq_true c1) ?_; wp_walk using wpAny_loadPart' hl))
    exact ⟨_, rfl, h⟩
theorem tuple_mul_none (l : Addr) (items : Array Value) (n : Nat) (dd : Option Addr) (sl : Array (Option Value)) (x : Int) (u : Tok) (c0 : (decide (x < -(2 ^ 63)) || decide (x ≥ 2 ^ 63)) = false) (c1 : (items.isEmpty || x == 1) = false) (c2 : (decide (x ≤ 0) || items.isEmpty) = true) :
    Meets (Builtin.«tuple.__mul__» ⟨[.ref l, .int x u], []⟩) (fun _ R s => s.heap.get? l = some { cls := .type "tuple", dict := dd, data := .seq items n, slots := sl } ∧
      R (.ok (.ret (Value.ref s.heap.objs.size))) { s with heap := s.heap.push { cls := Value.type "tuple", data := Data.seq #[] } }) :=
  .of_wp fun prog w A R s h => by
    obtain ⟨hp, g, d, tk, os⟩ := s
    obtain ⟨hl, h⟩ := h
    have f1 := AutoSeq1.idx_int
    have hsz : (#[] : Array Value).size ≤ sizeLine := Nat.zero_le _
    wp_walk using wpAny_loadPart' hl
    repeat (first
      | (refine wpAny_ite_false (decide_eq_false (by rw [c0]; exact Bool.false_ne_true)) ?_; wp_walk using wpAny_loadPart' hl)
      | (refine wpAny_ite_false (decide_eq_false (by rw [c1]; exact Bool.false_ne_true)) ?_; wp_walk using wpAny_loadPart' hl)
      | (refine wpAny_ite_true (decide_eq_true c2) ?_; wp_walk using wpAny_loadPart' hl)
      | (refine wpAny_ite_false (decide_eq_false (Nat.not_lt.mpr hsz)) ?_; wp_walk using wpAny_loadPart' hl))
    exact ⟨_, rfl, h⟩
/-- a tuple times an int, any -/
def rRepA (K : PySem.W.Frag) : R2 := fun x y H Q => ∃ l k xs, x = .ref l ∧ y = .int k ∧ SqT K H l xs ∧ (-1000 ≤ k ∧ k ≤ 1000) ∧ xs.length ≤ 1000 ∧
  (xs = [] ∨ k = 1 → Q (.ref l) H) ∧ (¬ (xs = [] ∨ k = 1) → ∀ p, H p = none → Q (.ref p) (upd H p (.tup (List.replicate k.toNat xs).flatten)))
theorem op_repA : OpR X (binaryOp .Mult) (rRepA X.K) := by
  intro pins s σ H x y v u Q I rx ry h
  obtain ⟨l, k, xs, rfl, rfl, hT, ⟨h1, h2⟩, hz, q1, q2⟩ := h
  by_cases big : xs ≠ [] ∧ 2 ≤ k
  · exact op_repT pins s σ H _ _ v u Q I rx ry ⟨l, k, xs, rfl, rfl, hT, big.1, big.2, h2, hz, q2 fun z => z.elim big.1 fun z => by omega⟩
  · cases rx
    obtain ⟨t, rfl⟩ := ry
    obtain ⟨its, r, ⟨⟨cls, dd, data, sl⟩, ho, hc, n, hd⟩, hs⟩ := I.tuple hT
    simp only at hc hd
    subst hc hd
    have hle : its.length = xs.length := r.length.symm
    have he : its.toArray.isEmpty = decide (xs = []) := by
      cases its with
      | nil =>
        have : xs = [] := List.eq_nil_of_length_eq_zero hle.symm
        simp [this]
      | cons a b =>
        have : xs ≠ [] := fun z => by rw [z] at hle; simp at hle
        simp [this]
    have c0 : (decide (k < -(2 ^ 63)) || decide (k ≥ 2 ^ 63)) = false := by
      rw [decide_eq_false (by omega), decide_eq_false (by omega)] <;> rfl
    by_cases hk : xs = [] ∨ k = 1
    · have c1 : (its.toArray.isEmpty || k == 1) = true := by
        rw [he]
        rcases hk with z | z
        · simp [z]
        · simp [z]
      refine wpAny_binaryOp_repeat_ref (T := "tuple") (U := "int") (by decide) ⟨_, ho, rfl⟩ (fun s' => typeIs_int s' k t) noFill_tuple_mul PySem.F.fills_int_mul PySem.F.slot_int_rmul repeat_tuple PySem.F.slot_int_index.lookup
        (call_meets PySem.F.slot_int_rmul (typeIs_int s k t) PySem.F.entry_int_rmul (PySem.F.args_int_rmul_2 _ _) (int_rmul_tuple k t l its.toArray n dd sl)
          ⟨ho, rfl, ⟨_, ho, rfl⟩, call_meets PySem.F.slot_tuple_mul ⟨_, ho, rfl⟩ PySem.F.entry_tuple_mul (PySem.F.args_tuple_mul_2 _ _) (tuple_mul_same l its.toArray n dd sl k t c0 c1) ⟨ho, ?_⟩⟩)
      exact ⟨.ref l, H, I, rfl, q1 hk⟩
    · have hx : xs ≠ [] := fun z => hk (.inl z)
      have hk1 : k ≠ 1 := fun z => hk (.inr z)
      have hk0 : k ≤ 0 := by
        by_cases z : 2 ≤ k
        · exact absurd ⟨hx, z⟩ big
        · omega
      have c1 : (its.toArray.isEmpty || k == 1) = false := by
        rw [he, decide_eq_false hx, Bool.false_or]
        exact beq_eq_false_iff_ne.mpr hk1
      have c2 : (decide (k ≤ 0) || its.toArray.isEmpty) = true := by
        rw [decide_eq_true hk0] <;> rfl
      refine wpAny_binaryOp_repeat_ref (T := "tuple") (U := "int") (by decide) ⟨_, ho, rfl⟩ (fun s' => typeIs_int s' k t) noFill_tuple_mul PySem.F.fills_int_mul PySem.F.slot_int_rmul repeat_tuple PySem.F.slot_int_index.lookup
        (call_meets PySem.F.slot_int_rmul (typeIs_int s k t) PySem.F.entry_int_rmul (PySem.F.args_int_rmul_2 _ _) (int_rmul_tuple k t l its.toArray n dd sl)
          ⟨ho, rfl, ⟨_, ho, rfl⟩, call_meets PySem.F.slot_tuple_mul ⟨_, ho, rfl⟩ PySem.F.entry_tuple_mul (PySem.F.args_tuple_mul_2 _ _) (tuple_mul_none l its.toArray n dd sl k t c0 c1 c2) ⟨ho, ?_⟩⟩)
      have e0 : (List.replicate k.toNat xs).flatten = [] := by
        have : k.toNat = 0 := by omega
        rw [this] <;> rfl
      refine ⟨.ref s.heap.objs.size, upd H s.heap.objs.size (.tup (List.replicate k.toNat xs).flatten), I.laid (t' := s.toks) (fun b ob q => Heap.get?_push_of_some _ q) (Nat.le_refl _) ?_, rfl, q2 hk _ (I.hok.fresh (Nat.le_refl _))⟩
      rw [e0]
      exact ⟨Nat.zero_le _, [], .nil, IsTup.new _ _⟩
def rMulD (K : PySem.W.Frag) : R2 := fun x y H Q => rI CMul (fun i j => .int (i * j)) x y H Q ∨ (rRep x y H Q ∨ rRepA K x y H Q)
theorem op_mulD : OpR X (binaryOp .Mult) (rMulD X.K) := op_mul.or (op_rep.or op_repA)
theorem ok_mulD {K : PySem.W.Frag} : OpOk K (rMulD K) mulD := by
  intro B Fz H σ m v u x y w Q h a b e q
  unfold mulD at e
  split at e
  · split at e
    · rename_i hz
      cases e
      exact .inl ⟨_, _, a.int, b.int, hz, q _ _ (h.push (.int _))⟩
    · cases e
  · split at e
    · rename_i hz
      cases e
      obtain ⟨p, vs, rfl, s1, r1⟩ := a.list
      refine .inr (.inl ⟨p, _, vs, rfl, b.int, s1, by omega, by omega, ?_, fun p hp => ?_⟩)
      · rw [r1.length]; exact Nat.le_trans hz.2 sz_le
      · exact q _ _ (h.newLst hp (r1.rep _))
    · cases e
  · split at e
    · rename_i k hz
      cases e
      have ra := a.tupR
      obtain ⟨p, vs, rfl, s1, r1⟩ := a.tup
      refine .inr (.inr ⟨p, _, vs, rfl, b.int, s1, hz.1, by rw [r1.length]; exact hz.2, fun z => ?_, fun _ p hp => ?_⟩)
      · have e0 : (List.replicate k.toNat vs).flatten = vs := by
          rcases z with z | z
          · subst z
            induction k.toNat with
            | zero => rfl
            | succ n ih => rw [List.replicate_succ, List.flatten_cons, ih] <;> rfl
          · subst z
            simp
        have e1 : (List.replicate k.toNat _).flatten = _ := RpAll.repL e0 r1
        rw [e1] at q
        exact q _ _ (h.push ra)
      · exact q _ _ (h.newTup hp (r1.rep _))
    · cases e
  · cases e

/-! ### comparisons -/
def eqD : PyData → PyData → Option Bool := fun x y => if min x.depth y.depth ≤ 100 then some (PyData.eqv x y) else none
def neD : PyData → PyData → Option Bool := fun x y => if min x.depth y.depth ≤ 100 then some (!PyData.eqv x y) else none
def isNoneD : PyData → Bool
  | .none => true
  | _ => false
theorem isNoneD_iff {x : PyData} : isNoneD x = false ↔ x ≠ .none := by cases x <;> simp [isNoneD]
/-- may be ordered: ints, or data of one shape -/
def canLt : PyData → PyData → Bool
  | .int _, .int _ => true
  | x, y => PySem.W.alike x y && !isNoneD x && decide (min x.depth y.depth ≤ 100)
def ltB : PyData → PyData → Bool
  | .int i, .int j => decide (i < j)
  | x, y => PySem.W.dataLt x y
def ltD (x y : PyData) : Option Bool := if canLt x y = true then some (ltB x y) else none
def gtD (x y : PyData) : Option Bool := ltD y x
def leD (x y : PyData) : Option Bool := (gtD x y).map not
def geD (x y : PyData) : Option Bool := (ltD x y).map not
def isD : PyData → PyData → Option Bool
  | x, .none => some (isNoneD x)
  | .bool a, .bool b => some (a == b)
  | .none, .bool _ => some false
  | .int _, .bool _ => some false
  | .tuple _, .bool _ => some false
  | .list _, .bool _ => some false
  | .str _, .bool _ => some false
  | _, _ => none
def isnotD (x y : PyData) : Option Bool := (isD x y).map not
def inD (x : PyData) : PyData → Option Bool
  | .list xs => if min x.depth (PyData.depthAll xs) ≤ 100 then some (xs.any fun y => PyData.eqv y x) else none
  | .tuple xs => if min x.depth (PyData.depthAll xs) ≤ 100 then some (xs.any fun y => PyData.eqv y x) else none
  | _ => none
def notInD (x y : PyData) : Option Bool := (inD x y).map not
/-- a comparison -/
def CmpOk (K : PySem.W.Frag) (r : R2) (g : PyData → PyData → Option Bool) : Prop :=
  ∀ {Fz : Addr → Prop} {H : Hp} {v u : V} {x y : PyData} {b : Bool} {Q : VK}, Vw K Fz H v x → Vw K Fz H u y → g x y = some b → Q (.bl b) H → r v u H Q
def rOf (P : V → V → Hp → Bool → Prop) : R2 := fun v u H Q => ∃ b, P v u H b ∧ Q (.bl b) H
def pEq (K : PySem.W.Frag) (g : PyData → PyData → Option Bool) : V → V → Hp → Bool → Prop := fun v u H b => ∃ x y, Dp K H v x ∧ Dp K H u y ∧ x.plain = true ∧ y.plain = true ∧ g x y = some b
theorem cmpOk_of {K : PySem.W.Frag} {g : PyData → PyData → Option Bool} : CmpOk K (rOf (pEq K g)) g := fun a b e q => ⟨_, ⟨_, _, a.dp, b.dp, a.plain, b.plain, e⟩, q⟩
/-- from a rule of the model over data -/
theorem op_of {op : CmpOp} {g : PyData → PyData → Option Bool} (h : ∀ (s : Shared) (v u : Value) (x y : PyData) (as bs : List Addr) (b : Bool) (Q : Value → Shared → Prop) (E : Value → Shared → Prop), Reads s.heap v x as → Reads s.heap u y bs →
    x.plain = true → y.plain = true → g x y = some b → (∀ tk, Q (.bool b) { s with toks := tk }) → wpAny (model X.prog X.w) X.A (compareOp op v u) Q E s) : OpR X (compareOp op) (rOf (pEq X.K g)) := by
  intro pins s σ H x y v u Q I rx ry hh
  obtain ⟨b, ⟨dx, dy, a1, a2, p1, p2, e⟩, q⟩ := hh
  obtain ⟨as, r1⟩ := Dp.reads I dx x v a1 rx
  obtain ⟨bs, r2⟩ := Dp.reads I dy y u a2 ry
  exact h s v u dx dy as bs b _ _ r1 r2 p1 p2 e fun tk => ⟨.bl b, H, I.tok tk, rfl, q⟩
theorem op_eqG (hu : X.A.units + 101 < cLine) : OpR X (compareOp .Eq) (rOf (pEq X.K eqD)) := op_of fun s v u x y as bs b Q E r1 r2 p1 p2 e q => by
  unfold eqD at e
  split at e
  · cases e
    exact PySem.SeqAt.eq_plain r1 r2 p1 p2 (by omega) (q s.toks)
  · cases e
theorem op_neG (hu : X.A.units + 101 < cLine) : OpR X (compareOp .NotEq) (rOf (pEq X.K neD)) := op_of fun s v u x y as bs b Q E r1 r2 p1 p2 e q => by
  unfold neD at e
  split at e
  · cases e
    exact PySem.SeqAt.ne_plain r1 r2 p1 p2 (by omega) (q s.toks)
  · cases e
theorem canLt_cases {x y : PyData} (h : canLt x y = true) : (∃ i j, x = .int i ∧ y = .int j ∧ ltB x y = decide (i < j)) ∨ (PySem.W.alike x y = true ∧ x ≠ .none ∧ min x.depth y.depth ≤ 100 ∧ ltB x y = PySem.W.dataLt x y) := by
  unfold canLt at h
  split at h
  · exact .inl ⟨_, _, rfl, rfl, rfl⟩
  · rename_i hn
    simp only [Bool.and_eq_true, decide_eq_true_eq, Bool.not_eq_true'] at h
    refine .inr ⟨h.1.1, isNoneD_iff.mp h.1.2, h.2, ?_⟩
    unfold ltB
    split
    · exact absurd rfl (hn _ _ rfl)
    · rfl
theorem ints_of {h : Heap} {v : Value} {i : Int} {as : List Addr} (r : Reads h v (.int i) as) : ∃ t, v = .int i t := by
  cases r with | int _ t => exact ⟨t, rfl⟩
theorem op_ltG (hu : X.A.units + 101 < cLine) : OpR X (compareOp .Lt) (rOf (pEq X.K ltD)) := op_of fun s v u x y as bs b Q E r1 r2 p1 p2 e q => by
  unfold ltD at e
  split at e
  · rename_i hc
    cases e
    rcases canLt_cases hc with ⟨i, j, rfl, rfl, e⟩ | ⟨h1, h2, h3, e⟩
    · obtain ⟨t, rfl⟩ := ints_of r1
      obtain ⟨t', rfl⟩ := ints_of r2
      rw [e] at q
      exact lt_int (q s.toks)
    · rw [e] at q
      exact PySem.W.lt_data r1 r2 h1 h2 (by omega) (q s.toks)
  · cases e
theorem op_gtG (hu : X.A.units + 101 < cLine) : OpR X (compareOp .Gt) (rOf (pEq X.K gtD)) := op_of fun s v u x y as bs b Q E r1 r2 p1 p2 e q => by
  unfold gtD ltD at e
  split at e
  · rename_i hc
    cases e
    rcases canLt_cases hc with ⟨i, j, rfl, rfl, e⟩ | ⟨h1, h2, h3, e⟩
    · obtain ⟨t, rfl⟩ := ints_of r1
      obtain ⟨t', rfl⟩ := ints_of r2
      rw [e] at q
      exact gt_int (q s.toks)
    · rw [e] at q
      have h1' := (PySem.W.alike_comm y x).symm.trans h1
      exact PySem.W.gt_data r1 r2 h1' (PySem.W.ne_none_both h1 h2) (by omega) (q s.toks)
  · cases e
theorem op_leG (hu : X.A.units + 101 < cLine) : OpR X (compareOp .LtE) (rOf (pEq X.K leD)) := op_of fun s v u x y as bs b Q E r1 r2 p1 p2 e q => by
  unfold leD gtD ltD at e
  split at e
  · rename_i hc
    cases e
    rcases canLt_cases hc with ⟨i, j, rfl, rfl, e⟩ | ⟨h1, h2, h3, e⟩
    · obtain ⟨t, rfl⟩ := ints_of r1
      obtain ⟨t', rfl⟩ := ints_of r2
      rw [e] at q
      have z : (!decide (i < j)) = decide (j ≤ i) := by
        by_cases c : i < j
        · rw [decide_eq_true c, decide_eq_false (by omega)] <;> rfl
        · rw [decide_eq_false c, decide_eq_true (by omega)] <;> rfl
      refine le_int ?_
      rw [← z]
      exact q s.toks
    · rw [e] at q
      have h1' := (PySem.W.alike_comm y x).symm.trans h1
      exact PySem.W.le_data r1 r2 h1' (PySem.W.ne_none_both h1 h2) (by omega) (q s.toks)
  · cases e
theorem op_geG (hu : X.A.units + 101 < cLine) : OpR X (compareOp .GtE) (rOf (pEq X.K geD)) := op_of fun s v u x y as bs b Q E r1 r2 p1 p2 e q => by
  unfold geD ltD at e
  split at e
  · rename_i hc
    cases e
    rcases canLt_cases hc with ⟨i, j, rfl, rfl, e⟩ | ⟨h1, h2, h3, e⟩
    · obtain ⟨t, rfl⟩ := ints_of r1
      obtain ⟨t', rfl⟩ := ints_of r2
      rw [e] at q
      have z : (!decide (i < j)) = decide (j ≤ i) := by
        by_cases c : i < j
        · rw [decide_eq_true c, decide_eq_false (by omega)] <;> rfl
        · rw [decide_eq_false c, decide_eq_true (by omega)] <;> rfl
      refine ge_int ?_
      rw [← z]
      exact q s.toks
    · rw [e] at q
      exact PySem.W.ge_data r1 r2 h1 h2 (by omega) (q s.toks)
  · cases e
end
end Dl
set_option Elab.async false
set_option linter.all false
set_option maxRecDepth 100000
/-! D4: comparisons, tests, and / or / not, conditional expressions, arguments, displays, subscripts, slices. -/
namespace Dl
open PySem PySem.Spec PyProof.Rows L2
def evalAllD : List (Ms → Rz PyData) → Ms → Rz (List PyData)
  | [], _ => .ok []
  | f :: fs, m => (f m).bind fun x => (evalAllD fs m).bind fun xs => .ok (x :: xs)
def tT (K : PySem.W.Frag) (ct : CT) (Wx : WX) (f : Ms → Rz Bool) : TT := fun σ H Q => ∃ B Fz m, Rs K B Fz H σ m ∧
  match f m with
  | .st => False
  | .ok b => ∀ H' Fz', Ext B Fz Fz' → Rs K B Fz' H' σ m → Q b H'
  | .ex c => ∀ H' Fz', Ext B Fz Fz' → Rs K B Fz' H' σ m → Wx (ct c) Option.none σ H'
structure DT (X : Cx) (ct : CT) (Wx : WX) (e : Expr) (f : Ms → Rz Bool) : Prop where
  pt : PT X e (tT X.K ct Wx f)
/-- a test in a row of and / or -/
structure DW (X : Cx) (ct : CT) (Wx : WX) (e : Expr) (f : Ms → Rz Bool) : Prop where
  pw : PW X e (tT X.K ct Wx f)
theorem PT_imp {X : Cx} {e : Expr} {t t' : TT} (h : PT X e t) (q : ∀ σ H Q, t' σ H Q → t σ H Q) : PT X e t' := ⟨fun pins s σ H Q I w => h.run pins s σ H Q I (q _ _ _ w)⟩
theorem PW_imp {X : Cx} {e : Expr} {t t' : TT} (h : PW X e t) (q : ∀ σ H Q, t' σ H Q → t σ H Q) : PW X e t' := ⟨fun wh pins s σ H Q I w => h.run wh pins s σ H Q I (q _ _ _ w)⟩
section
variable {X : Cx} {ct : CT} {Wx : WX} {e a b c : Expr} {pos : Pos}
theorem DW.t {f : Ms → Rz Bool} (h : DW X ct Wx e f) : DT X ct Wx e f := ⟨h.pw.pt⟩
theorem tT_then {K : PySem.W.Frag} {f : Ms → Rz Bool} {B : Hp} {Fz : Addr → Prop} {σ : L2.St} {m : Ms} {H : Hp} {Q : Bool → Hp → Prop} (h : Rs K B Fz H σ m)
    (hk : match f m with
      | .st => False
      | .ok x => ∀ H' Fz', Ext B Fz Fz' → Rs K B Fz' H' σ m → Le Fz H Fz' H' → Q x H'
      | .ex c => ∀ H' Fz', Ext B Fz Fz' → Rs K B Fz' H' σ m → Wx (ct c) Option.none σ H') : tT K ct Wx f σ H Q := by
  obtain ⟨B2, h2, he, ht⟩ := h.step
  refine ⟨B2, Fz, m, h2, ?_⟩
  cases hf : f m with
  | st => rw [hf] at hk; exact hk
  | ex c => rw [hf] at hk; exact fun H' Fz' e r => hk H' Fz' (he _ e) (ht (ρ := []) (r := []) e r rfl).1
  | ok x =>
    rw [hf] at hk
    intro H' Fz' e r
    obtain ⟨r', l⟩ := ht (ρ := []) (r := []) e r rfl
    exact hk H' Fz' (he _ e) r' l

/-! ### comparisons -/
def t2 (g : PyData → PyData → Option Bool) (f1 f2 : Ms → Rz PyData) : Ms → Rz Bool := fun m => (f1 m).bind fun x => (f2 m).bind fun y => ofO (g x y)
def v2 (g : PyData → PyData → Option Bool) (f1 f2 : Ms → Rz PyData) : Ms → Rz PyData := fun m => (t2 g f1 f2 m).map .bool
theorem cmp2 {r : R2} {g : PyData → PyData → Option Bool} {fa fb : Ms → Rz PyData} (hg : CmpOk X.K r g) {σ : L2.St} {H : Hp} {B : Hp} {Fz : Addr → Prop} {m : Ms} {Q : VK} (h : Rs X.K B Fz H σ m)
    (q : match t2 g fa fb m with
      | .st => False
      | .ok b => ∀ H' Fz', Ext B Fz Fz' → Rs X.K B Fz' H' σ m → Q (.bl b) H'
      | .ex c => ∀ H' Fz', Ext B Fz Fz' → Rs X.K B Fz' H' σ m → Wx (ct c) Option.none σ H') : tOp r (tR X.K ct Wx fa) (tR X.K ct Wx fb) σ H Q := by
  unfold t2 at q
  refine tR_then h ?_
  cases ha : fa m with
  | st => rw [ha] at q; exact q
  | ex c => rw [ha] at q; exact q
  | ok x =>
    intro v H1 Fz1 x1 h1 l1 s1
    rw [ha, Rz.bind_ok] at q
    refine tR_then h1 ?_
    cases hb : fb m with
    | st => rw [hb] at q; exact q
    | ex c => rw [hb] at q; exact fun H' Fz' x2 r2 => q H' Fz' (x1.trans x2) r2
    | ok y =>
      intro u H2 Fz2 x2 h2 l2 s2
      rw [hb, Rz.bind_ok] at q
      cases hw : g x y with
      | none => rw [hw] at q; exact q.elim
      | some w =>
        rw [hw] at q
        exact hg ((s1.le l2).vw h2) (s2.vw h2) hw (q H2 Fz2 (x1.trans x2) h2)
theorem dv_cmp {op : CmpOp} {r : R2} {g : PyData → PyData → Option Bool} {fa fb : Ms → Rz PyData} (ho : OpR X (compareOp op) r) (hg : CmpOk X.K r g) (ha : DR X ct Wx a fa) (hb : DR X ct Wx b fb) (hm : behindInMarks op b = false) :
    DV X ct Wx (.Compare a [op] [b] pos) (v2 g fa fb) := ⟨PE_imp (pe_cmpR ho ha.pe hb.pe hm) fun σ H Q ⟨B, Fz, m, h, q⟩ => by
  refine cmp2 hg h ?_
  unfold v2 at q
  cases ht : t2 g fa fb m with
  | st => rw [ht] at q; exact q
  | ex c => rw [ht] at q; exact q
  | ok b => rw [ht] at q; exact fun H' Fz' e r => q _ H' Fz' e ⟨r, .bl b⟩⟩
theorem dt_cmp {op : CmpOp} {r : R2} {g : PyData → PyData → Option Bool} {fa fb : Ms → Rz PyData} (ho : OpR X (compareOp op) r) (hg : CmpOk X.K r g) (ha : DR X ct Wx a fa) (hb : DR X ct Wx b fb) (hm : behindInMarks op b = false) :
    DT X ct Wx (.Compare a [op] [b] pos) (t2 g fa fb) := ⟨PT_imp (pt_cmpR ho ha.pe hb.pe hm) fun σ H Q ⟨B, Fz, m, h, q⟩ => by
  refine cmp2 hg h ?_
  cases ht : t2 g fa fb m with
  | st => rw [ht] at q; exact q
  | ex c => rw [ht] at q; exact q
  | ok b => rw [ht] at q; exact fun H' Fz' e r => ⟨b, rfl, q H' Fz' e r⟩⟩
/-- a < b < c -/
def t3 (g g' : PyData → PyData → Option Bool) (f1 f2 f3 : Ms → Rz PyData) : Ms → Rz Bool := fun m => (f1 m).bind fun x => (f2 m).bind fun y => (ofO (g x y)).bind fun b => if b = true then (f3 m).bind fun z => ofO (g' y z) else .ok false
def v3 (g g' : PyData → PyData → Option Bool) (f1 f2 f3 : Ms → Rz PyData) : Ms → Rz PyData := fun m => (t3 g g' f1 f2 f3 m).map .bool
theorem chain3 {r r' : R2} {g g' : PyData → PyData → Option Bool} {fa fb fc : Ms → Rz PyData} (hg : CmpOk X.K r g) (hg' : CmpOk X.K r' g') {σ : L2.St} {H : Hp} {B : Hp} {Fz : Addr → Prop} {m : Ms} {Q : VK} (h : Rs X.K B Fz H σ m)
    (q : match t3 g g' fa fb fc m with
      | .st => False
      | .ok b => ∀ H' Fz', Ext B Fz Fz' → Rs X.K B Fz' H' σ m → Q (.bl b) H'
      | .ex c => ∀ H' Fz', Ext B Fz Fz' → Rs X.K B Fz' H' σ m → Wx (ct c) Option.none σ H') : tChain r r' (tR X.K ct Wx fa) (tR X.K ct Wx fb) (tR X.K ct Wx fc) σ H Q := by
  unfold t3 at q
  refine tR_then h ?_
  cases ha : fa m with
  | st => rw [ha] at q; exact q
  | ex c => rw [ha] at q; exact q
  | ok x =>
    intro v H1 Fz1 x1 h1 l1 s1
    rw [ha, Rz.bind_ok] at q
    refine tR_then h1 ?_
    cases hb : fb m with
    | st => rw [hb] at q; exact q
    | ex c => rw [hb] at q; exact fun H' Fz' x2 r2 => q H' Fz' (x1.trans x2) r2
    | ok y =>
      intro u H2 Fz2 x2 h2 l2 s2
      rw [hb, Rz.bind_ok] at q
      cases hw : g x y with
      | none => rw [hw] at q; exact q.elim
      | some w =>
        rw [hw, ofO_some, Rz.bind_ok] at q
        refine hg ((s1.le l2).vw h2) (s2.vw h2) hw ⟨w, rfl, ?_⟩
        cases w with
        | false =>
          rw [if_neg Bool.false_ne_true] at q ⊢
          exact q H2 Fz2 (x1.trans x2) h2
        | true =>
          rw [if_pos rfl] at q ⊢
          refine tR_then h2 ?_
          cases hc : fc m with
          | st => rw [hc] at q; exact q
          | ex c => rw [hc] at q; exact fun H' Fz' x3 r3 => q H' Fz' ((x1.trans x2).trans x3) r3
          | ok z =>
            intro t H3 Fz3 x3 h3 l3 s3
            rw [hc, Rz.bind_ok] at q
            cases hw' : g' y z with
            | none => rw [hw'] at q; exact q.elim
            | some w =>
              rw [hw'] at q
              exact hg' ((s2.le l3).vw h3) (s3.vw h3) hw' (q H3 Fz3 ((x1.trans x2).trans x3) h3)
theorem dv_chain {op op' : CmpOp} {r r' : R2} {g g' : PyData → PyData → Option Bool} {fa fb fc : Ms → Rz PyData} (ho : OpR X (compareOp op) r) (ho' : OpR X (compareOp op') r') (hg : CmpOk X.K r g) (hg' : CmpOk X.K r' g') (ha : DR X ct Wx a fa) (hb : DR X ct Wx b fb) (hc : DR X ct Wx c fc)
    (hm : lastMarks [op, op'] [b, c] = false := by with_unfolding_all rfl) : DV X ct Wx (.Compare a [op, op'] [b, c] pos) (v3 g g' fa fb fc) := ⟨PE_imp (pe_chain ho ho' ha.pe hb.pe hc.pe hm) fun σ H Q ⟨B, Fz, m, h, q⟩ => by
  refine chain3 hg hg' h ?_
  unfold v3 at q
  cases ht : t3 g g' fa fb fc m with
  | st => rw [ht] at q; exact q
  | ex c => rw [ht] at q; exact q
  | ok b => rw [ht] at q; exact fun H' Fz' e r => q _ H' Fz' e ⟨r, .bl b⟩⟩
theorem dt_chain {op op' : CmpOp} {r r' : R2} {g g' : PyData → PyData → Option Bool} {fa fb fc : Ms → Rz PyData} (ho : OpR X (compareOp op) r) (ho' : OpR X (compareOp op') r') (hg : CmpOk X.K r g) (hg' : CmpOk X.K r' g') (ha : DR X ct Wx a fa) (hb : DR X ct Wx b fb) (hc : DR X ct Wx c fc)
    (hm : lastMarks [op, op'] [b, c] = false := by with_unfolding_all rfl) : DT X ct Wx (.Compare a [op, op'] [b, c] pos) (t3 g g' fa fb fc) := ⟨PT_imp (pt_chain ho ho' ha.pe hb.pe hc.pe hm) fun σ H Q ⟨B, Fz, m, h, q⟩ => by
  refine chain3 hg hg' h ?_
  cases ht : t3 g g' fa fb fc m with
  | st => rw [ht] at q; exact q
  | ex c => rw [ht] at q; exact q
  | ok b => rw [ht] at q; exact fun H' Fz' e r => ⟨b, rfl, q H' Fz' e r⟩⟩

/-! ### tests -/
def boolD : PyData → Rz Bool
  | .bool b => .ok b
  | _ => .st
def tV' (f : Ms → Rz PyData) : Ms → Rz Bool := fun m => (f m).bind boolD
/-- an expression whose value is True or False -/
theorem dt_val {f : Ms → Rz PyData} (h : DR X ct Wx e f) (he : ∀ whole, isTrue e X.env whole = (do let v ← whole; standAt e.pos; holding [v] (truthy v)) := by intro _; rfl) : DT X ct Wx e (tV' f) := ⟨PT_imp (pt_val h.pe he) fun σ H Q ⟨B, Fz, m, h, q⟩ => by
  unfold tV' at q
  refine tR_then h ?_
  cases hf : f m with
  | st => rw [hf] at q; exact q
  | ex c => rw [hf] at q; exact q
  | ok x =>
    intro v H1 Fz1 x1 h1 l1 s1
    rw [hf, Rz.bind_ok] at q
    cases x with
    | bool b => exact ⟨b, (s1.vw h1).bool, q H1 Fz1 x1 h1⟩
    | _ => exact q.elim⟩
def tAnd' (f g : Ms → Rz Bool) : Ms → Rz Bool := fun m => (f m).bind fun b => if b = true then g m else .ok false
def tOr' (f g : Ms → Rz Bool) : Ms → Rz Bool := fun m => (f m).bind fun b => if b = true then .ok true else g m
def tNot' (f : Ms → Rz Bool) : Ms → Rz Bool := fun m => (f m).map not
theorem dt_not {f : Ms → Rz Bool} (h : DT X ct Wx a f) : DT X ct Wx (.UnaryOp .Not a pos) (tNot' f) := ⟨PT_imp (pt_not h.pt) fun σ H Q ⟨B, Fz, m, h, q⟩ => by
  unfold tNot' at q
  refine tT_then h ?_
  cases hf : f m with
  | st => rw [hf] at q; exact q
  | ex c => rw [hf] at q; exact q
  | ok x => rw [hf] at q; exact fun H1 Fz1 x1 h1 l1 => q H1 Fz1 x1 h1⟩
theorem dw_and1 {f : Ms → Rz Bool} (h : DT X ct Wx a f) : DW X ct Wx (.BoolOp .And [a] pos) f := ⟨pw_and1 h.pt⟩
theorem dw_or1 {f : Ms → Rz Bool} (h : DT X ct Wx a f) : DW X ct Wx (.BoolOp .Or [a] pos) f := ⟨pw_or1 h.pt⟩
theorem dw_and {rest : List Expr} {f g : Ms → Rz Bool} (h : DT X ct Wx a f) (h2 : DW X ct Wx (.BoolOp .And (b :: rest) pos) g) : DW X ct Wx (.BoolOp .And (a :: b :: rest) pos) (tAnd' f g) := ⟨PW_imp (pw_and h.pt h2.pw) fun σ H Q ⟨B, Fz, m, h, q⟩ => by
  unfold tAnd' at q
  refine tT_then h ?_
  cases hf : f m with
  | st => rw [hf] at q; exact q
  | ex c => rw [hf] at q; exact q
  | ok x =>
    intro H1 Fz1 x1 h1 l1
    rw [hf, Rz.bind_ok] at q
    cases x with
    | false => exact q H1 Fz1 x1 h1
    | true =>
      rw [if_pos rfl] at q ⊢
      refine tT_then h1 ?_
      cases hg : g m with
      | st => rw [hg] at q; exact q
      | ex c => rw [hg] at q; exact fun H2 Fz2 x2 r2 => q H2 Fz2 (x1.trans x2) r2
      | ok y => rw [hg] at q; exact fun H2 Fz2 x2 r2 _ => q H2 Fz2 (x1.trans x2) r2⟩
theorem dw_or {rest : List Expr} {f g : Ms → Rz Bool} (h : DT X ct Wx a f) (h2 : DW X ct Wx (.BoolOp .Or (b :: rest) pos) g) : DW X ct Wx (.BoolOp .Or (a :: b :: rest) pos) (tOr' f g) := ⟨PW_imp (pw_or h.pt h2.pw) fun σ H Q ⟨B, Fz, m, h, q⟩ => by
  unfold tOr' at q
  refine tT_then h ?_
  cases hf : f m with
  | st => rw [hf] at q; exact q
  | ex c => rw [hf] at q; exact q
  | ok x =>
    intro H1 Fz1 x1 h1 l1
    rw [hf, Rz.bind_ok] at q
    cases x with
    | true => exact q H1 Fz1 x1 h1
    | false =>
      rw [if_neg Bool.false_ne_true] at q ⊢
      refine tT_then h1 ?_
      cases hg : g m with
      | st => rw [hg] at q; exact q
      | ex c => rw [hg] at q; exact fun H2 Fz2 x2 r2 => q H2 Fz2 (x1.trans x2) r2
      | ok y => rw [hg] at q; exact fun H2 Fz2 x2 r2 _ => q H2 Fz2 (x1.trans x2) r2⟩
/-- values: and, or (all but the last True or False), not -/
def vAnd (f g : Ms → Rz PyData) : Ms → Rz PyData := fun m => (f m).bind fun x => (boolD x).bind fun b => if b = true then g m else .ok (.bool false)
def vOr (f g : Ms → Rz PyData) : Ms → Rz PyData := fun m => (f m).bind fun x => (boolD x).bind fun b => if b = true then .ok (.bool true) else g m
def vNot (f : Ms → Rz PyData) : Ms → Rz PyData := fun m => (f m).bind fun x => (boolD x).map fun b => .bool (!b)
theorem dv_one {op} {f : Ms → Rz PyData} (h : DV X ct Wx a f) : DV X ct Wx (.BoolOp op [a] pos) f := ⟨pe_one h.pe⟩
theorem dv_and {rest : List Expr} {f g : Ms → Rz PyData} (h : DV X ct Wx a f) (h2 : DV X ct Wx (.BoolOp .And (b :: rest) pos) g) : DV X ct Wx (.BoolOp .And (a :: b :: rest) pos) (vAnd f g) := ⟨PE_imp (pe_and h.pe h2.pe) fun σ H Q ⟨B, Fz, m, h, q⟩ => by
  unfold vAnd at q
  refine tV_then h ?_
  cases hf : f m with
  | st => rw [hf] at q; exact q
  | ex c => rw [hf] at q; exact q
  | ok x =>
    intro v H1 Fz1 x1 h1 l1 r1
    rw [hf, Rz.bind_ok] at q
    cases x with
    | bool b =>
      cases r1
      refine ⟨b, rfl, ?_⟩
      have q : _ := q
      cases b with
      | false => exact q _ H1 Fz1 x1 ⟨h1, .bl false⟩
      | true =>
        rw [if_pos rfl]
        refine tV_then h1 ?_
        simp only [boolD, Rz.bind_ok, if_pos, if_neg, Bool.false_eq_true, if_false, if_true] at q
        cases hg : g m with
        | st => rw [hg] at q; exact q
        | ex c => rw [hg] at q; exact fun H2 Fz2 x2 r2 => q H2 Fz2 (x1.trans x2) r2
        | ok y => rw [hg] at q; exact fun v H2 Fz2 x2 r2 _ p => q v H2 Fz2 (x1.trans x2) ⟨r2, p⟩
    | _ => exact q.elim⟩
theorem dv_or {rest : List Expr} {f g : Ms → Rz PyData} (h : DV X ct Wx a f) (h2 : DV X ct Wx (.BoolOp .Or (b :: rest) pos) g) : DV X ct Wx (.BoolOp .Or (a :: b :: rest) pos) (vOr f g) := ⟨PE_imp (pe_or h.pe h2.pe) fun σ H Q ⟨B, Fz, m, h, q⟩ => by
  unfold vOr at q
  refine tV_then h ?_
  cases hf : f m with
  | st => rw [hf] at q; exact q
  | ex c => rw [hf] at q; exact q
  | ok x =>
    intro v H1 Fz1 x1 h1 l1 r1
    rw [hf, Rz.bind_ok] at q
    cases x with
    | bool b =>
      cases r1
      refine ⟨b, rfl, ?_⟩
      cases b with
      | true => exact q _ H1 Fz1 x1 ⟨h1, .bl true⟩
      | false =>
        rw [if_neg Bool.false_ne_true]
        refine tV_then h1 ?_
        simp only [boolD, Rz.bind_ok, if_pos, if_neg, Bool.false_eq_true, if_false, if_true] at q
        cases hg : g m with
        | st => rw [hg] at q; exact q
        | ex c => rw [hg] at q; exact fun H2 Fz2 x2 r2 => q H2 Fz2 (x1.trans x2) r2
        | ok y => rw [hg] at q; exact fun v H2 Fz2 x2 r2 _ p => q v H2 Fz2 (x1.trans x2) ⟨r2, p⟩
    | _ => exact q.elim⟩
theorem dv_not {f : Ms → Rz PyData} (h : DV X ct Wx a f) : DV X ct Wx (.UnaryOp .Not a pos) (vNot f) := ⟨PE_imp (pe_not h.pe) fun σ H Q ⟨B, Fz, m, h, q⟩ => by
  unfold vNot at q
  refine tV_then h ?_
  cases hf : f m with
  | st => rw [hf] at q; exact q
  | ex c => rw [hf] at q; exact q
  | ok x =>
    intro v H1 Fz1 x1 h1 l1 r1
    rw [hf, Rz.bind_ok] at q
    cases x with
    | bool b =>
      cases r1
      exact ⟨b, rfl, q _ H1 Fz1 x1 ⟨h1, .bl _⟩⟩
    | _ => exact q.elim⟩
def vIf (t : Ms → Rz Bool) (f g : Ms → Rz PyData) : Ms → Rz PyData := fun m => (t m).bind fun b => if b = true then f m else g m
theorem dv_if {t : Ms → Rz Bool} {f g : Ms → Rz PyData} (ht : DT X ct Wx c t) (hf : DV X ct Wx a f) (hg : DV X ct Wx b g) : DV X ct Wx (.IfExp c a b pos) (vIf t f g) := ⟨PE_imp (pe_ifExp ht.pt hf.pe hg.pe) fun σ H Q ⟨B, Fz, m, h, q⟩ => by
  unfold vIf at q
  refine tT_then h ?_
  cases hf : t m with
  | st => rw [hf] at q; exact q
  | ex c => rw [hf] at q; exact q
  | ok x =>
    intro H1 Fz1 x1 h1 l1
    rw [hf, Rz.bind_ok] at q
    cases x with
    | true =>
      rw [if_pos rfl] at q ⊢
      refine tV_then h1 ?_
      cases hg : f m with
      | st => rw [hg] at q; exact q
      | ex c => rw [hg] at q; exact fun H2 Fz2 x2 r2 => q H2 Fz2 (x1.trans x2) r2
      | ok y => rw [hg] at q; exact fun v H2 Fz2 x2 r2 _ p => q v H2 Fz2 (x1.trans x2) ⟨r2, p⟩
    | false =>
      rw [if_neg Bool.false_ne_true] at q ⊢
      refine tV_then h1 ?_
      cases hg : g m with
      | st => rw [hg] at q; exact q
      | ex c => rw [hg] at q; exact fun H2 Fz2 x2 r2 => q H2 Fz2 (x1.trans x2) r2
      | ok y => rw [hg] at q; exact fun v H2 Fz2 x2 r2 _ p => q v H2 Fz2 (x1.trans x2) ⟨r2, p⟩⟩

/-! ### arguments, displays -/
def tAv (K : PySem.W.Frag) (ct : CT) (Wx : WX) (fs : List (Ms → Rz PyData)) : TA := fun σ H Q => ∃ B Fz m, Rs K B Fz H σ m ∧
  match evalAllD fs m with
  | .st => False
  | .ok xs => ∀ vs H' Fz', Ext B Fz Fz' → Rs K B Fz' H' σ m → RpAll K Fz' H' vs xs → Q vs H'
  | .ex c => ∀ H' Fz', Ext B Fz Fz' → Rs K B Fz' H' σ m → Wx (ct c) Option.none σ H'
structure DA (X : Cx) (ct : CT) (Wx : WX) (es : List Expr) (fs : List (Ms → Rz PyData)) : Prop where
  pa : PA X es (tAv X.K ct Wx fs)
theorem PA_imp {es : List Expr} {t t' : TA} (h : PA X es t) (q : ∀ σ H Q, t' σ H Q → t σ H Q) : PA X es t' := ⟨fun p pins s σ H Q I w => h.run p pins s σ H Q I (q _ _ _ w)⟩
theorem da_nil : DA X ct Wx [] [] := ⟨PA_imp pa_nil fun σ H Q ⟨B, Fz, m, h, q⟩ => q [] H Fz .refl h .nil⟩
theorem tAv_then {K : PySem.W.Frag} {fs : List (Ms → Rz PyData)} {B : Hp} {Fz : Addr → Prop} {σ : L2.St} {m : Ms} {H : Hp} {Q : List V → Hp → Prop} (h : Rs K B Fz H σ m)
    (hk : match evalAllD fs m with
      | .st => False
      | .ok xs => ∀ vs H' Fz', Ext B Fz Fz' → Rs K B Fz' H' σ m → Le Fz H Fz' H' → RpAll K Fz' H' vs xs → Q vs H'
      | .ex c => ∀ H' Fz', Ext B Fz Fz' → Rs K B Fz' H' σ m → Wx (ct c) Option.none σ H') : tAv K ct Wx fs σ H Q := by
  obtain ⟨B2, h2, he, ht⟩ := h.step
  refine ⟨B2, Fz, m, h2, ?_⟩
  cases hf : evalAllD fs m with
  | st => rw [hf] at hk; exact hk
  | ex c => rw [hf] at hk; exact fun H' Fz' e r => hk H' Fz' (he _ e) (ht (ρ := []) (r := []) e r rfl).1
  | ok x =>
    rw [hf] at hk
    intro vs H' Fz' e r s
    obtain ⟨r', l⟩ := ht (ρ := []) (r := []) e r rfl
    exact hk vs H' Fz' (he _ e) r' l s
theorem da_cons {es : List Expr} {f : Ms → Rz PyData} {fs : List (Ms → Rz PyData)} (ha : DV X ct Wx e f) (hs : DA X ct Wx es fs) (hst : starEach (e :: es) X.env = (false, eval e X.env) :: starEach es X.env := by rfl) : DA X ct Wx (e :: es) (f :: fs) := ⟨PA_imp (pa_cons ha.pe hs.pa hst) fun σ H Q ⟨B, Fz, m, h, q⟩ => by
  refine tV_then h ?_
  cases hf : f m with
  | st => simp only [evalAllD, hf, Rz.bind_st] at q
  | ex c => simp only [evalAllD, hf, Rz.bind_ex] at q; exact q
  | ok x =>
    intro v H1 Fz1 x1 h1 l1 s1
    simp only [evalAllD, hf, Rz.bind_ok] at q
    refine tAv_then h1 ?_
    cases hg : evalAllD fs m with
    | st => rw [hg] at q; exact q
    | ex c => rw [hg] at q; exact fun H2 Fz2 x2 r2 => q H2 Fz2 (x1.trans x2) r2
    | ok xs =>
      rw [hg] at q
      exact fun vs H2 Fz2 x2 r2 l2 s2 => q (v :: vs) H2 Fz2 (x1.trans x2) r2 (.cons (s1.mono l2) s2)⟩
def eTup (fs : List (Ms → Rz PyData)) : Ms → Rz PyData := fun m => (evalAllD fs m).map .tuple
def eLst (fs : List (Ms → Rz PyData)) : Ms → Rz W := fun m => (evalAllD fs m).map .l
theorem evalAllD_len : ∀ {fs : List (Ms → Rz PyData)} {m : Ms} {xs : List PyData}, evalAllD fs m = .ok xs → xs.length = fs.length
  | [], m, xs, h => by simp only [evalAllD] at h; cases h; rfl
  | f :: fs, m, xs, h => by
    simp only [evalAllD] at h
    cases hf : f m with
    | st => rw [hf] at h; cases h
    | ex c => rw [hf] at h; cases h
    | ok x =>
      rw [hf, Rz.bind_ok] at h
      cases hg : evalAllD fs m with
      | st => rw [hg] at h; cases h
      | ex c => rw [hg] at h; cases h
      | ok ys =>
        rw [hg] at h
        cases h
        rw [List.length_cons, List.length_cons, evalAllD_len hg]
theorem dv_tup {es : List Expr} {fs : List (Ms → Rz PyData)} {x1} (h : DA X ct Wx es fs) (hz : fs.length ≤ 1000 := by decide) : DV X ct Wx (.Tuple es x1 pos) (eTup fs) := ⟨PE_imp (pe_tup h.pa) fun σ H Q ⟨B, Fz, m, h, q⟩ => by
  unfold eTup at q
  refine tAv_then h ?_
  cases hf : evalAllD fs m with
  | st => rw [hf] at q; exact q
  | ex c => rw [hf] at q; exact q
  | ok xs =>
    intro vs H1 Fz1 x1 h1 l1 s1
    rw [hf] at q
    have z := evalAllD_len hf
    refine ⟨?_, fun p hp => ?_⟩
    · rw [s1.length, z]; exact Nat.le_trans (Nat.le_trans hz (by decide)) sz_le
    · have r := h1.newTup hp s1
      exact q _ _ Fz1 x1 ⟨r.pop, r.top⟩⟩
theorem de_lst {es : List Expr} {fs : List (Ms → Rz PyData)} (h : DA X ct Wx es fs) (hz : fs.length ≤ 1000 := by decide) : DE X ct Wx (.List es pos) (eLst fs) := ⟨PE_imp (pe_lst h.pa) fun σ H Q ⟨B, Fz, m, h, q⟩ => by
  unfold eLst at q
  refine tAv_then h ?_
  cases hf : evalAllD fs m with
  | st => rw [hf] at q; exact q
  | ex c => rw [hf] at q; exact q
  | ok xs =>
    intro vs H1 Fz1 x1 h1 l1 s1
    rw [hf] at q
    have z := evalAllD_len hf
    refine ⟨?_, fun p hp => ?_⟩
    · rw [s1.length, z]; exact Nat.le_trans (Nat.le_trans hz (by decide)) sz_le
    · exact q _ _ Fz1 x1 (h1.newLst hp s1)⟩

/-! ### unary, subscripts, slices -/
def negD : PyData → Option W
  | .int i => some (.d (.int (-i)))
  | _ => none
theorem de_neg {f : Ms → Rz PyData} (h : DR X ct Wx a f) : DE X ct Wx (.UnaryOp .USub a pos) (e1 negD f) := ⟨PE_imp (pe_un un_neg h.pe) fun σ H Q ⟨B, Fz, m, h, q⟩ => by
  unfold e1 at q
  refine tR_then h ?_
  cases hf : f m with
  | st => rw [hf] at q; exact q
  | ex c => rw [hf] at q; exact q
  | ok x =>
    intro v H1 Fz1 x1 h1 l1 s1
    rw [hf, Rz.bind_ok] at q
    cases x with
    | int i => exact ⟨i, (s1.vw h1).int, q _ _ Fz1 x1 (h1.push (.int _))⟩
    | _ => exact q.elim⟩
/-- the item of any sign's place -/
def ixD : PyData → PyData → Option W
  | .list xs, .int i => (atI xs i).map .d
  | .tuple xs, .int i => (atI xs i).map .d
  | _, _ => none
theorem rp_atI {K : PySem.W.Frag} {Fz : Addr → Prop} {H : Hp} {vs : List V} {xs : List PyData} {i : Int} {x : PyData} (r : RpAll K Fz H vs xs) (e : atI xs i = some x) : ∃ v, atI vs i = some v ∧ Rp K Fz H v x := by
  unfold atI at e ⊢
  rw [r.length]
  cases hj : ixN xs.length i with
  | none => rw [hj] at e; cases e
  | some j =>
    rw [hj] at e
    obtain ⟨v, h1, h2⟩ := r.get' (i := j) (by simpa using e)
    exact ⟨v, by simpa using h1, h2⟩
theorem ok_ixD {K : PySem.W.Frag} : OpOk K (rIx K) ixD := by
  intro B Fz H σ m v u x y w Q h a b e q
  unfold ixD at e
  split at e
  · rename_i xs i
    cases ha : atI xs i with
    | none => rw [ha] at e; cases e
    | some z =>
      rw [ha] at e; cases e
      obtain ⟨p, vs, rfl, s1, r1⟩ := a.list
      obtain ⟨v', e1, r'⟩ := rp_atI r1 ha
      exact .inl ⟨p, vs, i, v', rfl, b.int, .inl (.inl s1), e1, q _ _ (h.push r')⟩
  · rename_i xs i
    cases ha : atI xs i with
    | none => rw [ha] at e; cases e
    | some z =>
      rw [ha] at e; cases e
      obtain ⟨p, vs, rfl, s1, r1⟩ := a.tup
      obtain ⟨v', e1, r'⟩ := rp_atI r1 ha
      exact .inr (.inl ⟨p, vs, i, v', rfl, b.int, s1, e1, q _ _ (h.push r')⟩)
  · cases e
theorem de_ix {fa fb : Ms → Rz PyData} (ha : DR X ct Wx a fa) (hb : DR X ct Wx b fb) (hs : PlainIx b := by exact fun _ _ => rfl) : DE X ct Wx (.Subscript a b pos) (e2 ixD fa fb) :=
  ⟨PE_imp (pe_ix ix_seq ha.pe hb.pe hs) fun _ _ _ q => op2 ok_ixD q⟩
/-- a part of a slice -/
def tO (K : PySem.W.Frag) (ct : CT) (Wx : WX) (f : Ms → Rz (Option Int)) : TO := fun σ H Q => ∃ B Fz m, Rs K B Fz H σ m ∧
  match f m with
  | .st => False
  | .ok o => ∀ H' Fz', Ext B Fz Fz' → Rs K B Fz' H' σ m → Q o H'
  | .ex c => ∀ H' Fz', Ext B Fz Fz' → Rs K B Fz' H' σ m → Wx (ct c) Option.none σ H'
structure DO (X : Cx) (ct : CT) (Wx : WX) (e : Option Expr) (f : Ms → Rz (Option Int)) : Prop where
  po : PO X e (tO X.K ct Wx f)
theorem PO_imp {e : Option Expr} {t t' : TO} (h : PO X e t) (q : ∀ σ H Q, t' σ H Q → t σ H Q) : PO X e t' := ⟨fun pins s σ H Q I w => h.run pins s σ H Q I (q _ _ _ w)⟩
def oNone : Ms → Rz (Option Int) := fun _ => .ok none
def intD : PyData → Rz Int
  | .int i => .ok i
  | _ => .st
def oSome (f : Ms → Rz PyData) : Ms → Rz (Option Int) := fun m => (f m).bind fun x => (intD x).map some
theorem do_none : DO X ct Wx none oNone := ⟨PO_imp po_none fun σ H Q ⟨B, Fz, m, h, q⟩ => q H Fz .refl h⟩
theorem do_some {f : Ms → Rz PyData} (h : DR X ct Wx e f) : DO X ct Wx (some e) (oSome f) := ⟨PO_imp (po_some h.pe) fun σ H Q ⟨B, Fz, m, h, q⟩ => by
  unfold oSome at q
  refine tR_then h ?_
  cases hf : f m with
  | st => rw [hf] at q; exact q
  | ex c => rw [hf] at q; exact q
  | ok x =>
    intro v H1 Fz1 x1 h1 l1 s1
    rw [hf, Rz.bind_ok] at q
    cases x with
    | int i => exact ⟨i, (s1.vw h1).int, q H1 Fz1 x1 h1⟩
    | _ => exact q.elim⟩
theorem tO_then {K : PySem.W.Frag} {f : Ms → Rz (Option Int)} {B : Hp} {Fz : Addr → Prop} {σ : L2.St} {m : Ms} {H : Hp} {Q : Option Int → Hp → Prop} (h : Rs K B Fz H σ m)
    (hk : match f m with
      | .st => False
      | .ok x => ∀ H' Fz', Ext B Fz Fz' → Rs K B Fz' H' σ m → Le Fz H Fz' H' → Q x H'
      | .ex c => ∀ H' Fz', Ext B Fz Fz' → Rs K B Fz' H' σ m → Wx (ct c) Option.none σ H') : tO K ct Wx f σ H Q := by
  obtain ⟨B2, h2, he, ht⟩ := h.step
  refine ⟨B2, Fz, m, h2, ?_⟩
  cases hf : f m with
  | st => rw [hf] at hk; exact hk
  | ex c => rw [hf] at hk; exact fun H' Fz' e r => hk H' Fz' (he _ e) (ht (ρ := []) (r := []) e r rfl).1
  | ok x =>
    rw [hf] at hk
    intro H' Fz' e r
    obtain ⟨r', l⟩ := ht (ρ := []) (r := []) e r rfl
    exact hk H' Fz' (he _ e) r' l
/-- xs[lo:hi] -/
def cutL {α : Type} (xs : List α) (lo hi : Option Int) : List α := (xs.drop (HT.sIx xs.length 0 lo)).take (HT.sIx xs.length xs.length hi - HT.sIx xs.length 0 lo)
def slD (x : PyData) (lo hi : Option Int) : Option W := match x with
  | .list xs => some (.l (cutL xs lo hi))
  | .tuple xs => some (.d (.tuple (cutL xs lo hi)))
  | _ => none
theorem rp_cut {K : PySem.W.Frag} {Fz : Addr → Prop} {H : Hp} {vs : List V} {xs : List PyData} (r : RpAll K Fz H vs xs) (lo hi : Option Int) : RpAll K Fz H (cutV vs lo hi) (cutL xs lo hi) := by
  unfold cutV cutL
  rw [r.length]
  exact (r.drop _).take _
def rSlD (K : PySem.W.Frag) : V → Option Int → Option Int → Hp → VK → Prop := fun x lo hi H Q => rSlL K x lo hi H Q ∨ rSlA K x lo hi H Q
def eSl (f : Ms → Rz PyData) (l u : Ms → Rz (Option Int)) : Ms → Rz W := fun m => (f m).bind fun x => (l m).bind fun lo => (u m).bind fun hi => ofO (slD x lo hi)
theorem de_sl {lo hi : Option Expr} {f : Ms → Rz PyData} {fl fu : Ms → Rz (Option Int)} {p2 : Pos} (h : DR X ct Wx e f) (hl : DO X ct Wx lo fl) (hu : DO X ct Wx hi fu) : DE X ct Wx (.Subscript e (.Slice lo hi none p2) pos) (eSl f fl fu) := ⟨PE_imp (pe_slice (r := rSlD X.K) (SlR.or sl_list sl_tupA) h.pe hl.po hu.po) fun σ H Q ⟨B, Fz, m, h, q⟩ => by
  unfold eSl at q
  refine tR_then h ?_
  cases hf : f m with
  | st => rw [hf] at q; exact q
  | ex c => rw [hf] at q; exact q
  | ok x =>
    intro v H1 Fz1 x1 h1 l1 s1
    rw [hf, Rz.bind_ok] at q
    refine tO_then h1 ?_
    cases hfl : fl m with
    | st => rw [hfl] at q; exact q
    | ex c => rw [hfl] at q; exact fun H2 Fz2 x2 r2 => q H2 Fz2 (x1.trans x2) r2
    | ok lo =>
      intro H2 Fz2 x2 h2 l2
      rw [hfl, Rz.bind_ok] at q
      refine tO_then h2 ?_
      cases hfu : fu m with
      | st => rw [hfu] at q; exact q
      | ex c => rw [hfu] at q; exact fun H3 Fz3 x3 r3 => q H3 Fz3 ((x1.trans x2).trans x3) r3
      | ok hi =>
        intro H3 Fz3 x3 h3 l3
        rw [hfu, Rz.bind_ok] at q
        have s3 := ((s1.le l2).le l3).vw h3
        have xx := (x1.trans x2).trans x3
        cases x with
        | list xs =>
          obtain ⟨p, vs, rfl, e1, r1⟩ := s3.list
          exact .inl ⟨p, vs, rfl, .inl (.inl e1), fun p hp => q _ _ Fz3 xx (h3.newLst hp (rp_cut r1 lo hi))⟩
        | tuple xs =>
          have s3' := s3.tupR
          obtain ⟨p, vs, rfl, e1, r1⟩ := s3.tup
          refine .inr ⟨p, vs, rfl, e1, fun z => ?_, fun _ p hp => q _ _ Fz3 xx (h3.newTup hp (rp_cut r1 lo hi))⟩
          have e2 : cutL xs lo hi = xs := by
            unfold cutL
            rw [r1.length] at z
            rw [z.1, z.2]
            simp
          have q' := q (.ref p) H3 Fz3 xx (show Rs X.K B Fz3 H3 (some (V.ref p) :: σ) (some (W.d (.tuple (cutL xs lo hi))) :: m) from by rw [e2]; exact h3.push s3')
          exact q'
        | _ => exact q.elim⟩
end
end Dl
set_option Elab.async false
set_option linter.all false
set_option maxRecDepth 100000
/-! D5: calls of built-in functions. -/
namespace Dl
open PySem PySem.Spec PyProof.Rows L2
/-- all arguments, read -/
def tAr (K : PySem.W.Frag) (ct : CT) (Wx : WX) (fs : List (Ms → Rz PyData)) : TA := fun σ H Q => ∃ B Fz m, Rs K B Fz H σ m ∧
  match evalAllD fs m with
  | .st => False
  | .ok xs => ∀ vs H' Fz', Ext B Fz Fz' → Rs K B Fz' H' σ m → Paired (SV K Fz' H' σ m) vs xs → Q vs H'
  | .ex c => ∀ H' Fz', Ext B Fz Fz' → Rs K B Fz' H' σ m → Wx (ct c) Option.none σ H'
structure DB (X : Cx) (ct : CT) (Wx : WX) (es : List Expr) (fs : List (Ms → Rz PyData)) : Prop where
  pa : PA X es (tAr X.K ct Wx fs)
theorem paired_map {α β : Type} {P R : α → β → Prop} (f : ∀ a b, P a b → R a b) : ∀ {xs : List α} {ys : List β}, Paired P xs ys → Paired R xs ys
  | _, _, .nil => .nil
  | _, _, .cons r t => .cons (f _ _ r) (paired_map f t)
section
variable {X : Cx} {ct : CT} {Wx : WX} {e a b c : Expr} {es : List Expr} {pos : Pos}
theorem db_nil : DB X ct Wx [] [] := ⟨PA_imp pa_nil fun σ H Q ⟨B, Fz, m, h, q⟩ => q [] H Fz .refl h .nil⟩
theorem tAr_then {K : PySem.W.Frag} {fs : List (Ms → Rz PyData)} {B : Hp} {Fz : Addr → Prop} {σ : L2.St} {m : Ms} {H : Hp} {Q : List V → Hp → Prop} (h : Rs K B Fz H σ m)
    (hk : match evalAllD fs m with
      | .st => False
      | .ok xs => ∀ vs H' Fz', Ext B Fz Fz' → Rs K B Fz' H' σ m → Le Fz H Fz' H' → Paired (SV K Fz' H' σ m) vs xs → Q vs H'
      | .ex c => ∀ H' Fz', Ext B Fz Fz' → Rs K B Fz' H' σ m → Wx (ct c) Option.none σ H') : tAr K ct Wx fs σ H Q := by
  obtain ⟨B2, h2, he, ht⟩ := h.step
  refine ⟨B2, Fz, m, h2, ?_⟩
  cases hf : evalAllD fs m with
  | st => rw [hf] at hk; exact hk
  | ex c => rw [hf] at hk; exact fun H' Fz' e r => hk H' Fz' (he _ e) (ht (ρ := []) (r := []) e r rfl).1
  | ok x =>
    rw [hf] at hk
    intro vs H' Fz' e r s
    obtain ⟨r', l⟩ := ht (ρ := []) (r := []) e r rfl
    exact hk vs H' Fz' (he _ e) r' l s
theorem db_cons {f : Ms → Rz PyData} {fs : List (Ms → Rz PyData)} (ha : DR X ct Wx e f) (hs : DB X ct Wx es fs) (hst : starEach (e :: es) X.env = (false, eval e X.env) :: starEach es X.env := by rfl) : DB X ct Wx (e :: es) (f :: fs) := ⟨PA_imp (pa_cons ha.pe hs.pa hst) fun σ H Q ⟨B, Fz, m, h, q⟩ => by
  refine tR_then h ?_
  cases hf : f m with
  | st => simp only [evalAllD, hf, Rz.bind_st] at q
  | ex c => simp only [evalAllD, hf, Rz.bind_ex] at q; exact q
  | ok x =>
    intro v H1 Fz1 x1 h1 l1 s1
    simp only [evalAllD, hf, Rz.bind_ok] at q
    refine tAr_then h1 ?_
    cases hg : evalAllD fs m with
    | st => rw [hg] at q; exact q
    | ex c => rw [hg] at q; exact fun H2 Fz2 x2 r2 => q H2 Fz2 (x1.trans x2) r2
    | ok xs =>
      rw [hg] at q
      exact fun vs H2 Fz2 x2 r2 l2 s2 => q (v :: vs) H2 Fz2 (x1.trans x2) r2 (.cons (s1.le l2) s2)⟩
/-- a built-in does what g says -/
structure CallOk (K : PySem.W.Frag) (r : List V → Hp → VK → Prop) (g : List PyData → Option W) : Prop where
  run : ∀ {B : Hp} {Fz : Addr → Prop} {H : Hp} {σ : L2.St} {m : Ms} {vs : List V} {xs : List PyData} {w : W} {Q : VK}, Rs K B Fz H σ m → Paired (Vw K Fz H) vs xs → g xs = some w →
    (∀ v' H', Rs K B Fz H' (some v' :: σ) (some w :: m) → Q v' H') → r vs H Q
def eCall (g : List PyData → Option W) (fs : List (Ms → Rz PyData)) : Ms → Rz W := fun m => (evalAllD fs m).bind fun xs => ofO (g xs)
theorem callB {r : List V → Hp → VK → Prop} {g : List PyData → Option W} {fs : List (Ms → Rz PyData)} (hg : CallOk X.K r g) {σ : L2.St} {H : Hp} {Q : VK} (q : tE X.K ct Wx (eCall g fs) σ H Q) : tCB r (tAr X.K ct Wx fs) σ H Q := by
  obtain ⟨B, Fz, m, h, q⟩ := q
  unfold eCall at q
  refine tAr_then h ?_
  cases hf : evalAllD fs m with
  | st => rw [hf] at q; exact q
  | ex c => rw [hf] at q; exact q
  | ok xs =>
    intro vs H1 Fz1 x1 h1 l1 s1
    rw [hf, Rz.bind_ok] at q
    cases hw : g xs with
    | none => rw [hw] at q; exact q.elim
    | some w =>
      rw [hw] at q
      exact hg.run h1 (paired_map (fun _ _ s => SV.vw h1 s) s1) hw fun v' H' r => q v' H' Fz1 x1 r
variable {x : Str} {bid T : String} {p : Pos}
theorem de_callB {r : List V → Hp → VK → Prop} {g : List PyData → Option W} {fs : List (Ms → Rz PyData)} (hc : CallR X (.builtin bid) r) (ok : CallOk X.K r g) (hv : bootBuiltins x = some (.builtin bid)) (hm : X.mg x = none) (ha : DB X ct Wx (e :: es) fs) (hg : Gl X x := by rfl)
    (hn : x ≠ "__name__" := by decide) (hdb : (x == ("__debug__" : Str)) = false := by decide) (he : starEach (e :: es) X.env = (false, eval e X.env) :: starEach es X.env := by rfl) (hpl : (backTo pos (starEach es X.env)).any (·.1) = false := by rfl) :
    DE X ct Wx (.Call (.Name x p) (e :: es) [] pos) (eCall g fs) := ⟨PE_imp (pe_callB hc hg hm hv ha.pa hn hdb he hpl) fun _ _ _ q => callB ok q⟩
theorem de_callTy {r : List V → Hp → VK → Prop} {g : List PyData → Option W} {fs : List (Ms → Rz PyData)} (hc : CallR X (.type T) r) (ok : CallOk X.K r g) (hv : bootBuiltins x = some (.type T)) (hm : X.mg x = none) (ha : DB X ct Wx (e :: es) fs) (hg : Gl X x := by rfl)
    (hn : x ≠ "__name__" := by decide) (hdb : (x == ("__debug__" : Str)) = false := by decide) (he : starEach (e :: es) X.env = (false, eval e X.env) :: starEach es X.env := by rfl) (hpl : (backTo pos (starEach es X.env)).any (·.1) = false := by rfl) :
    DE X ct Wx (.Call (.Name x p) (e :: es) [] pos) (eCall g fs) := ⟨PE_imp (pe_callTy hc hg hm hv ha.pa hn hdb he hpl) fun _ _ _ q => callB ok q⟩

/-! ### what they give -/
def g1 (f : PyData → Option W) : List PyData → Option W
  | [x] => f x
  | _ => none
def lenD : PyData → Option W
  | .list xs => some (.d (.int xs.length))
  | .tuple xs => some (.d (.int xs.length))
  | .str s => if s.length ≤ 16000000 then some (.d (.int s.length)) else none
  | _ => none
theorem pair1 {α β : Type} {P : α → β → Prop} {vs : List α} {y : β} (h : Paired P vs [y]) : ∃ v, vs = [v] ∧ P v y := by
  cases h with | cons r t => cases t; exact ⟨_, rfl, r⟩
theorem pair2 {α β : Type} {P : α → β → Prop} {vs : List α} {y z : β} (h : Paired P vs [y, z]) : ∃ v u, vs = [v, u] ∧ P v y ∧ P u z := by
  cases h with | cons r t => cases t with | cons r2 t => cases t; exact ⟨_, _, rfl, r, r2⟩
/-- one argument -/
theorem call1 {K : PySem.W.Frag} {r : List V → Hp → VK → Prop} {f : PyData → Option W} (h : ∀ {B : Hp} {Fz : Addr → Prop} {H : Hp} {σ : L2.St} {m : Ms} {v : V} {x : PyData} {w : W} {Q : VK}, Rs K B Fz H σ m → Vw K Fz H v x → f x = some w →
    (∀ v' H', Rs K B Fz H' (some v' :: σ) (some w :: m) → Q v' H') → r [v] H Q) : CallOk K r (g1 f) := by
  refine ⟨?_⟩
  intro B Fz H σ m vs xs w Q hr hp e q
  match xs, hp, e with
  | [x], hp, e =>
    obtain ⟨v, rfl, hv⟩ := pair1 hp
    exact h hr hv e q
  | [], _, e => cases e
  | _ :: _ :: _, _, e => cases e
theorem ok_lenD {K : PySem.W.Frag} : CallOk K (fun xs H Q => ∃ x n, xs = [x] ∧ LenV K x H n ∧ Q (.int n) H) (g1 lenD) := call1 fun {B Fz H σ m v x w Q} hr hv e q => by
  unfold lenD at e
  split at e
  · cases e
    obtain ⟨p, vs, rfl, s1, r1⟩ := hv.list
    exact ⟨_, _, rfl, .inl ⟨vs, .inl (.inl s1), rfl⟩, by rw [r1.length]; exact q _ _ (hr.push (.int _))⟩
  · cases e
    obtain ⟨p, vs, rfl, s1, r1⟩ := hv.tup
    exact ⟨_, _, rfl, .inr ⟨vs, s1, rfl⟩, by rw [r1.length]; exact q _ _ (hr.push (.int _))⟩
  · split at e
    · rename_i s hz
      cases e
      have := hv.str
      subst this
      exact ⟨_, _, rfl, ⟨Nat.le_trans hz sz_le, rfl⟩, q _ _ (hr.push (.int _))⟩
    · cases e
  · cases e
/-- all ints -/
def intsOf : List PyData → Option (List Int)
  | [] => some []
  | .int i :: r => (intsOf r).map (i :: ·)
  | _ :: _ => none
theorem intsOf_eq : ∀ {xs : List PyData} {ns : List Int}, intsOf xs = some ns → xs = ns.map .int
  | [], ns, h => by cases h; rfl
  | .int i :: r, ns, h => by
    cases hr : intsOf r with
    | none => simp [intsOf, hr] at h
    | some k =>
      simp only [intsOf, hr, Option.map_some, Option.some.injEq] at h
      subst h
      rw [intsOf_eq hr]; rfl
  | .none :: _, _, h => by cases h
  | .bool _ :: _, _, h => by cases h
  | .str _ :: _, _, h => by cases h
  | .list _ :: _, _, h => by cases h
  | .tuple _ :: _, _, h => by cases h
  | .dict _ :: _, _, h => by cases h
@[simp] theorem intsOf_map : ∀ ns : List Int, intsOf (ns.map .int) = some ns
  | [] => rfl
  | n :: ns => by simp [intsOf, intsOf_map ns]
def boolsOf : List PyData → Option (List Bool)
  | [] => some []
  | .bool i :: r => (boolsOf r).map (i :: ·)
  | _ :: _ => none
theorem boolsOf_eq : ∀ {xs : List PyData} {ns : List Bool}, boolsOf xs = some ns → xs = ns.map .bool
  | [], ns, h => by cases h; rfl
  | .bool i :: r, ns, h => by
    cases hr : boolsOf r with
    | none => simp [boolsOf, hr] at h
    | some k =>
      simp only [boolsOf, hr, Option.map_some, Option.some.injEq] at h
      subst h
      rw [boolsOf_eq hr]; rfl
  | .none :: _, _, h => by cases h
  | .int _ :: _, _, h => by cases h
  | .str _ :: _, _, h => by cases h
  | .list _ :: _, _, h => by cases h
  | .tuple _ :: _, _, h => by cases h
  | .dict _ :: _, _, h => by cases h
@[simp] theorem boolsOf_map : ∀ ns : List Bool, boolsOf (ns.map .bool) = some ns
  | [] => rfl
  | n :: ns => by simp [boolsOf, boolsOf_map ns]
def itemsD : PyData → Option (List PyData)
  | .list xs => some xs
  | .tuple xs => some xs
  | _ => none
def sumD (x : PyData) : Option W := (itemsD x).bind fun xs => (intsOf xs).map fun ns => .d (.int ns.sum)
theorem sum_rawT {prog : Program} {w : World} {A : Around} {E : Value → Shared → Prop} {s : Shared} {t : Addr} {its : List Value} {ns : List Int} {Q : Value → Shared → Prop} (hh : A.handled = none) (hl : s.heap.IsTuple t its.toArray) (hi : IntsAre its ns)
    (h : ∀ h' tk t', (∀ b o, s.heap.get? b = some o → h'.get? b = some o) → Q (.int ns.sum t') { s with heap := h', toks := tk }) : wpAny (model prog w) A (call (.builtin "sum") [.ref t]) Q E s := by
  obtain ⟨xs, e⟩ := hi.allInts.items
  have hn : numsOf (intItems xs).toList = ns := by rw [← e]; exact hi.numsOf
  rw [nums_intItems] at hn
  rw [e] at hl
  refine PySem.W.ktm_sumG hh hl fun h' tk t' hk => ?_
  have := h h' tk t' hk
  rw [preSum_eq, List.take_of_length_le (by simp), hn]; exact this
def rSumD (K : PySem.W.Frag) : List V → Hp → VK → Prop := fun vs H Q => ∃ (a : Addr) (ns : List Int), vs = [V.ref a] ∧ (SqL K H a (ns.map V.int) ∨ SqT K H a (ns.map V.int)) ∧ Q (.int ns.sum) H
theorem cr_sumD (hc : X.calm = true) : CallR X (.builtin "sum") (rSumD X.K) := by
  intro pins s σ H xs us Q I r h
  obtain ⟨a, ns, rfl, ha | ha, q⟩ := h
  · exact cr_sum hc pins s σ H _ us Q I r ⟨a, ns, rfl, ha, q⟩
  · have e := Vals.ref1 r
    subst e
    obtain ⟨its, rv, p, _⟩ := I.tuple ha
    exact sum_rawT (I.ok.hd hc) (show s.heap.IsTuple a its.toArray from p) (Vals.ints rv) fun h' tk t' hk => ⟨.int ns.sum, H, I.kept hk, ⟨_, rfl⟩, q⟩
theorem ok_sumD {K : PySem.W.Frag} : CallOk K (rSumD K) (g1 sumD) := call1 fun {B Fz H σ m v x w Q} hr hv e q => by
  unfold sumD at e
  cases hi : itemsD x with
  | none => rw [hi] at e; cases e
  | some xs =>
    rw [hi, Option.bind_some] at e
    cases hn : intsOf xs with
    | none => rw [hn] at e; cases e
    | some ns =>
      rw [hn] at e; cases e
      have e2 := intsOf_eq hn
      subst e2
      unfold itemsD at hi
      split at hi
      · cases hi
        obtain ⟨p, vs, rfl, s1, r1⟩ := hv.list
        have := r1.ints
        subst this
        exact ⟨p, ns, rfl, .inl (.inl (.inl s1)), q _ _ (hr.push (.int _))⟩
      · cases hi
        obtain ⟨p, vs, rfl, s1, r1⟩ := hv.tup
        have := r1.ints
        subst this
        exact ⟨p, ns, rfl, .inr s1, q _ _ (hr.push (.int _))⟩
      · cases hi
def allD : PyData → Option W
  | .list xs => (boolsOf xs).map fun bs => .d (.bool (bs.all id))
  | _ => none
def anyD : PyData → Option W
  | .list xs => (boolsOf xs).map fun bs => .d (.bool (bs.any id))
  | _ => none
theorem ok_allD {K : PySem.W.Frag} : CallOk K (rAll K) (g1 allD) := call1 fun {B Fz H σ m v x w Q} hr hv e q => by
  unfold allD at e
  split at e
  · rename_i xs
    cases hn : boolsOf xs with
    | none => rw [hn] at e; cases e
    | some bs =>
      rw [hn] at e; cases e
      have e2 := boolsOf_eq hn
      subst e2
      obtain ⟨p, vs, rfl, s1, r1⟩ := hv.list
      have := r1.bools
      subst this
      exact ⟨p, bs, rfl, .inl (.inl s1), q _ _ (hr.push (.bl _))⟩
  · cases e
theorem ok_anyD {K : PySem.W.Frag} : CallOk K (rAny K) (g1 anyD) := call1 fun {B Fz H σ m v x w Q} hr hv e q => by
  unfold anyD at e
  split at e
  · rename_i xs
    cases hn : boolsOf xs with
    | none => rw [hn] at e; cases e
    | some bs =>
      rw [hn] at e; cases e
      have e2 := boolsOf_eq hn
      subst e2
      obtain ⟨p, vs, rfl, s1, r1⟩ := hv.list
      have := r1.bools
      subst this
      exact ⟨p, bs, rfl, .inl (.inl s1), q _ _ (hr.push (.bl _))⟩
  · cases e
def absD : PyData → Option W
  | .int i => some (.d (.int (if i < 0 then -i else i)))
  | _ => none
theorem ok_absD {K : PySem.W.Frag} : CallOk K (fun xs H Q => ∃ i, xs = [.int i] ∧ Q (.int (if i < 0 then -i else i)) H) (g1 absD) := call1 fun {B Fz H σ m v x w Q} hr hv e q => by
  unfold absD at e
  split at e
  · cases e
    exact ⟨_, by rw [hv.int], q _ _ (hr.push (.int _))⟩
  · cases e
def toIntD : PyData → Option W
  | .int i => some (.d (.int i))
  | .bool b => some (.d (.int (if b then 1 else 0)))
  | _ => none
theorem ok_toIntD {K : PySem.W.Frag} : CallOk K (fun xs H Q => (∃ i, xs = [.int i] ∧ Q (.int i) H) ∨ ∃ k, xs = [.bl k] ∧ Q (.int (if k then 1 else 0)) H) (g1 toIntD) := call1 fun {B Fz H σ m v x w Q} hr hv e q => by
  unfold toIntD at e
  split at e
  · cases e
    exact .inl ⟨_, by rw [hv.int], q _ _ (hr.push (.int _))⟩
  · cases e
    exact .inr ⟨_, by rw [hv.bool], q _ _ (hr.push (.int _))⟩
  · cases e
def tupleD : PyData → Option W
  | .list xs => some (.d (.tuple xs))
  | .tuple xs => some (.d (.tuple xs))
  | _ => none
def listD : PyData → Option W
  | .list xs => some (.l xs)
  | .tuple xs => some (.l xs)
  | _ => none
theorem ok_tupleD {K : PySem.W.Frag} : CallOk K (fun xs H Q => ∃ p ys, xs = [.ref p] ∧ ((SqL K H p ys ∧ ∀ l, H l = none → Q (.ref l) (upd H l (.tup ys))) ∨ (SqT K H p ys ∧ Q (.ref p) H))) (g1 tupleD) := call1 fun {B Fz H σ m v x w Q} hr hv e q => by
  unfold tupleD at e
  split at e
  · cases e
    obtain ⟨p, vs, rfl, s1, r1⟩ := hv.list
    exact ⟨p, vs, rfl, .inl ⟨.inl (.inl s1), fun l hl => q _ _ (hr.newTup hl r1)⟩⟩
  · cases e
    have hv' := hv.tupR
    obtain ⟨p, vs, rfl, s1, r1⟩ := hv.tup
    exact ⟨p, vs, rfl, .inr ⟨s1, q _ _ (hr.push hv')⟩⟩
  · cases e
theorem ok_listD {K : PySem.W.Frag} : CallOk K (fun xs H Q => ∃ p ys, xs = [.ref p] ∧ (SqL K H p ys ∨ SqT K H p ys) ∧ ∀ l, H l = none → Q (.ref l) (upd H l (.lst ys))) (g1 listD) := call1 fun {B Fz H σ m v x w Q} hr hv e q => by
  unfold listD at e
  split at e
  · cases e
    obtain ⟨p, vs, rfl, s1, r1⟩ := hv.list
    exact ⟨p, vs, rfl, .inl (.inl (.inl s1)), fun l hl => q _ _ (hr.newLst hl r1)⟩
  · cases e
    obtain ⟨p, vs, rfl, s1, r1⟩ := hv.tup
    exact ⟨p, vs, rfl, .inr s1, fun l hl => q _ _ (hr.newLst hl r1)⟩
  · cases e

/-! ### least and greatest -/
def max2D : PyData → PyData → Option W
  | .int i, .int j => some (.d (.int (max i j)))
  | _, _ => none
def min2D : PyData → PyData → Option W
  | .int i, .int j => some (.d (.int (min i j)))
  | _, _ => none
/-- may be compared with one another -/
def alikeB (xs : List PyData) : Bool := match intsOf xs with
  | some _ => true
  | none => (xs.all fun x => xs.all fun y => PySem.W.alike x y) && (xs.all fun x => !isNoneD x) && decide (PyData.depthAll xs ≤ 100)
def minD1 (x : PyData) : Option W := (itemsD x).bind fun xs => match xs with
  | y :: ys => if alikeB (y :: ys) = true then some (.d (PySem.W.minD y ys)) else none
  | [] => none
def maxD1 (x : PyData) : Option W := (itemsD x).bind fun xs => match xs with
  | y :: ys => if alikeB (y :: ys) = true then some (.d (PySem.W.maxD y ys)) else none
  | [] => none
def g12 (f : PyData → Option W) (g : PyData → PyData → Option W) : List PyData → Option W
  | [x] => f x
  | [x, y] => g x y
  | _ => none
theorem alike_ints1 (i j : Int) : PySem.W.alike (.int i) (.int j) = true := by simp [PySem.W.alike]
theorem depth_ints1 : ∀ ns : List Int, PyData.depthAll (ns.map .int) = 0
  | [] => by simp [PyData.depthAll]
  | n :: ns => by
    rw [List.map_cons, PyData.depthAll, depth_ints1 ns]
    simp [PyData.depth]
theorem alikeB_ok {xs : List PyData} (h : alikeB xs = true) : PySem.W.AlikeAll xs ∧ PyData.depthAll xs ≤ 100 := by
  unfold alikeB at h
  cases hn : intsOf xs with
  | some ns =>
    have e := intsOf_eq hn
    subst e
    refine ⟨⟨fun x hx y hy => ?_, fun x hx => ?_⟩, ?_⟩
    · obtain ⟨i, _, rfl⟩ := List.mem_map.mp hx
      obtain ⟨j, _, rfl⟩ := List.mem_map.mp hy
      exact alike_ints1 i j
    · obtain ⟨i, _, rfl⟩ := List.mem_map.mp hx
      exact fun z => nomatch z
    · rw [depth_ints1]; exact Nat.zero_le _
  | none =>
    rw [hn] at h
    simp only [Bool.and_eq_true, List.all_eq_true, decide_eq_true_eq, Bool.not_eq_true'] at h
    exact ⟨⟨fun x hx y hy => h.1.1 x hx y hy, fun x hx => isNoneD_iff.mp (h.1.2 x hx)⟩, h.2⟩

/-- the item of a list of one's data that is read -/
theorem rp_of_reads {X : Cx} {pins : List (Addr × Obj)} {σ : L2.St} {H : Hp} {s : Shared} {Fz : Addr → Prop} {vs : List V} {xs : List PyData} {its : List Value} (I : Inv X pins σ H s) (r : RpAll X.K Fz H vs xs) (rv : Vals vs its) {i : Nat} {u : Value} (hu : its[i]? = some u) {d : PyData} {bs : List Addr} {h' : Heap} (hk : ∀ b o, s.heap.get? b = some o → h'.get? b = some o) (hr : Reads h' u d bs) :
    ∃ v, RelV v u ∧ Rp X.K Fz H v d := by
  have hl := rv.length
  obtain ⟨hi, _⟩ := List.getElem?_eq_some_iff.mp hu
  have hv : vs[i]? = some vs[i] := List.getElem?_eq_getElem (by omega)
  obtain ⟨x, hx, rx⟩ := r.get hv
  obtain ⟨u', hu', ru⟩ := rv.get hv
  rw [hu] at hu'; cases hu'
  obtain ⟨as, rd⟩ := Dp.reads I x vs[i] u rx.dp ru
  have e := PySem.SeqAt.plain_unique x d u as bs rx.plain (PyProof.Rows.Reads.keeps hk rd) hr
  subst e
  exact ⟨_, ru, rx⟩
/-- min, max of data: by the library's rule over what is read -/
def rBest (K : PySem.W.Frag) (g : PyData → List PyData → PyData) : List V → Hp → VK → Prop := fun vs H Q => ∃ (a : Addr) (us : List V) (Fz : Addr → Prop) (y : PyData) (ys : List PyData), vs = [V.ref a] ∧ (SqL K H a us ∨ SqT K H a us) ∧ RpAll K Fz H us (y :: ys) ∧ alikeB (y :: ys) = true ∧ ∀ v, Rp K Fz H v (g y ys) → Q v H
theorem cr_minD (hc : X.calm = true) (hu : X.A.units + 105 < cLine) : CallR X (.builtin "min") (rBest X.K PySem.W.minD) := by
  intro pins s σ H xs us Q I r h
  obtain ⟨a, ws, Fz, y, ys, rfl, ha | ha, hr, hk, q⟩ := h
  · have e := Vals.ref1 r
    subst e
    obtain ⟨its, rv, p, _⟩ := I.list ha
    obtain ⟨as, rd⟩ := Dp.readsAll I (y :: ys) ws its hr.dp rv
    obtain ⟨k1, k2⟩ := alikeB_ok hk
    refine PySem.W.min_list_data (I.ok.hd hc) p.isList (by simpa using rd) k1 (by omega) fun i v h' tk bs hi hrd hkp => ?_
    obtain ⟨v', r1, r2⟩ := rp_of_reads I hr rv (i := i) (by simpa using hi) hkp hrd
    exact ⟨v', H, I.kept hkp, r1, q v' r2⟩
  · have e := Vals.ref1 r
    subst e
    obtain ⟨its, rv, p, _⟩ := I.tuple ha
    obtain ⟨as, rd⟩ := Dp.readsAll I (y :: ys) ws its hr.dp rv
    obtain ⟨k1, k2⟩ := alikeB_ok hk
    refine PySem.W.min_tuple_data (I.ok.hd hc) p (by simpa using rd) k1 (by omega) fun i v h' tk bs hi hrd hkp => ?_
    obtain ⟨v', r1, r2⟩ := rp_of_reads I hr rv (i := i) (by simpa using hi) hkp hrd
    exact ⟨v', H, I.kept hkp, r1, q v' r2⟩
theorem cr_maxD (hc : X.calm = true) (hu : X.A.units + 105 < cLine) : CallR X (.builtin "max") (rBest X.K PySem.W.maxD) := by
  intro pins s σ H xs us Q I r h
  obtain ⟨a, ws, Fz, y, ys, rfl, ha | ha, hr, hk, q⟩ := h
  · have e := Vals.ref1 r
    subst e
    obtain ⟨its, rv, p, _⟩ := I.list ha
    obtain ⟨as, rd⟩ := Dp.readsAll I (y :: ys) ws its hr.dp rv
    obtain ⟨k1, k2⟩ := alikeB_ok hk
    refine PySem.W.max_list_data (I.ok.hd hc) p.isList (by simpa using rd) k1 (by omega) fun i v h' tk bs hi hrd hkp => ?_
    obtain ⟨v', r1, r2⟩ := rp_of_reads I hr rv (i := i) (by simpa using hi) hkp hrd
    exact ⟨v', H, I.kept hkp, r1, q v' r2⟩
  · have e := Vals.ref1 r
    subst e
    obtain ⟨its, rv, p, _⟩ := I.tuple ha
    obtain ⟨as, rd⟩ := Dp.readsAll I (y :: ys) ws its hr.dp rv
    obtain ⟨k1, k2⟩ := alikeB_ok hk
    refine PySem.W.max_tuple_data (I.ok.hd hc) p (by simpa using rd) k1 (by omega) fun i v h' tk bs hi hrd hkp => ?_
    obtain ⟨v', r1, r2⟩ := rp_of_reads I hr rv (i := i) (by simpa using hi) hkp hrd
    exact ⟨v', H, I.kept hkp, r1, q v' r2⟩
def rMax2 : List V → Hp → VK → Prop := fun xs H Q => ∃ i j, xs = [.int i, .int j] ∧ Q (.int (if j > i then j else i)) H
def rMin2 : List V → Hp → VK → Prop := fun xs H Q => ∃ i j, xs = [.int i, .int j] ∧ Q (.int (if j < i then j else i)) H
theorem cr_minA (hc : X.calm = true) (hu : X.A.units + 105 < cLine) : CallR X (.builtin "min") (fun xs H Q => rBest X.K PySem.W.minD xs H Q ∨ rMin2 xs H Q) := (cr_minD hc hu).or (call_min2 hc)
theorem cr_maxA (hc : X.calm = true) (hu : X.A.units + 105 < cLine) : CallR X (.builtin "max") (fun xs H Q => rBest X.K PySem.W.maxD xs H Q ∨ rMax2 xs H Q) := (cr_maxD hc hu).or (call_max2 hc)
theorem vw_items {K : PySem.W.Frag} {Fz : Addr → Prop} {H : Hp} {v : V} {x : PyData} {xs : List PyData} (h : Vw K Fz H v x) (e : itemsD x = some xs) : ∃ a us, v = .ref a ∧ (SqL K H a us ∨ SqT K H a us) ∧ RpAll K Fz H us xs := by
  unfold itemsD at e
  split at e
  · cases e
    obtain ⟨p, vs, rfl, s1, r1⟩ := h.list
    exact ⟨p, vs, rfl, .inl (.inl (.inl s1)), r1⟩
  · cases e
    obtain ⟨p, vs, rfl, s1, r1⟩ := h.tup
    exact ⟨p, vs, rfl, .inr s1, r1⟩
  · cases e
theorem ok_minA {K : PySem.W.Frag} : CallOk K (fun xs H Q => rBest K PySem.W.minD xs H Q ∨ rMin2 xs H Q) (g12 minD1 min2D) := by
  refine ⟨?_⟩
  intro B Fz H σ m vs xs w Q hr hp e q
  match xs, hp, e with
  | [x], hp, e =>
    obtain ⟨v, rfl, hv⟩ := pair1 hp
    have e : minD1 x = some w := e
    unfold minD1 at e
    cases hi : itemsD x with
    | none => rw [hi] at e; cases e
    | some ys =>
      rw [hi, Option.bind_some] at e
      cases ys with
      | nil => cases e
      | cons y ys =>
        dsimp only at e
        split at e
        · rename_i hk
          cases e
          obtain ⟨a, us, rfl, s1, r1⟩ := vw_items hv hi
          exact .inl ⟨a, us, Fz, y, ys, rfl, s1, r1, hk, fun v r => q v H (hr.push r)⟩
        · cases e
  | [x, y], hp, e =>
    obtain ⟨v, u, rfl, hv, hu⟩ := pair2 hp
    have e2 : min2D x y = some w := e
    clear e
    unfold min2D at e2
    split at e2
    · rename_i i j
      cases e2
      refine .inr ⟨i, j, by rw [hv.int, hu.int], ?_⟩
      have z : (if j < i then j else i) = min i j := by split <;> omega
      rw [z]
      exact q _ _ (hr.push (.int _))
    · cases e2
  | [], _, e => cases e
  | _ :: _ :: _ :: _, _, e => cases e
theorem ok_maxA {K : PySem.W.Frag} : CallOk K (fun xs H Q => rBest K PySem.W.maxD xs H Q ∨ rMax2 xs H Q) (g12 maxD1 max2D) := by
  refine ⟨?_⟩
  intro B Fz H σ m vs xs w Q hr hp e q
  match xs, hp, e with
  | [x], hp, e =>
    obtain ⟨v, rfl, hv⟩ := pair1 hp
    have e : maxD1 x = some w := e
    unfold maxD1 at e
    cases hi : itemsD x with
    | none => rw [hi] at e; cases e
    | some ys =>
      rw [hi, Option.bind_some] at e
      cases ys with
      | nil => cases e
      | cons y ys =>
        dsimp only at e
        split at e
        · rename_i hk
          cases e
          obtain ⟨a, us, rfl, s1, r1⟩ := vw_items hv hi
          exact .inl ⟨a, us, Fz, y, ys, rfl, s1, r1, hk, fun v r => q v H (hr.push r)⟩
        · cases e
  | [x, y], hp, e =>
    obtain ⟨v, u, rfl, hv, hu⟩ := pair2 hp
    have e2 : max2D x y = some w := e
    clear e
    unfold max2D at e2
    split at e2
    · rename_i i j
      cases e2
      refine .inr ⟨i, j, by rw [hv.int, hu.int], ?_⟩
      have z : (if j > i then j else i) = max i j := by split <;> omega
      rw [z]
      exact q _ _ (hr.push (.int _))
    · cases e2
  | [], _, e => cases e
  | _ :: _ :: _ :: _, _, e => cases e

/-! ### isinstance with a built-in class -/
def tyN : PyData → String
  | .none => "NoneType"
  | .bool _ => "bool"
  | .int _ => "int"
  | .str _ => "str"
  | .list _ => "list"
  | .tuple _ => "tuple"
  | .dict _ => "dict"
theorem Vw.ty {K : PySem.W.Frag} {Fz : Addr → Prop} {H : Hp} {v : V} {x : PyData} (h : Vw K Fz H v x) : TyX K H v (.type (tyN x)) := by
  cases h with
  | own e r => exact .base (.lst e)
  | rp r =>
    cases r with
    | non => exact .base .non
    | bl b => exact .base (.bl b)
    | int i => exact .base (.int i)
    | str s => exact .base (.str s)
    | lst f e r => exact .base (.lst e)
    | tup e r => exact .base (.tup e)
    | tupK e _ r =>
      rcases e H with (e | ⟨o, e⟩) | ⟨o, its, n, e, c, _⟩
      · exact .base (.tup e)
      · exact .fTuple e
      · exact .kTuple e c
def isInt : PyData → Bool
  | .int _ => true
  | .bool _ => true
  | _ => false
def isBool : PyData → Bool
  | .bool _ => true
  | _ => false
def isStr : PyData → Bool
  | .str _ => true
  | _ => false
def isTup : PyData → Bool
  | .tuple _ => true
  | _ => false
def isLst : PyData → Bool
  | .list _ => true
  | _ => false
theorem isi_int (x : PyData) : kitB (tyN x) "int" = some (isInt x) := by cases x <;> (simp only [tyN, isInt]; decide +kernel)
theorem isi_bool (x : PyData) : kitB (tyN x) "bool" = some (isBool x) := by cases x <;> (simp only [tyN, isBool]; decide +kernel)
theorem isi_str (x : PyData) : kitB (tyN x) "str" = some (isStr x) := by cases x <;> (simp only [tyN, isStr]; decide +kernel)
theorem isi_tup (x : PyData) : kitB (tyN x) "tuple" = some (isTup x) := by cases x <;> (simp only [tyN, isTup]; decide +kernel)
theorem isi_lst (x : PyData) : kitB (tyN x) "list" = some (isLst x) := by cases x <;> (simp only [tyN, isLst]; decide +kernel)
def vIsi (g : PyData → Bool) (f : Ms → Rz PyData) : Ms → Rz PyData := fun m => (f m).map fun x => .bool (g x)
theorem dv_isi {T : String} {tn : Str} {p p2 : Pos} {g : PyData → Bool} {f : Ms → Rz PyData} (hk : ∀ x, kitB (tyN x) T = some (g x)) (hv : bootBuiltins tn = some (.type T)) (hm2 : X.mg tn = none) (hm : X.mg "isinstance" = none) (ha : DR X ct Wx a f)
    (hg : Gl X "isinstance" := by rfl) (hg2 : Gl X tn := by rfl) (hn : tn ≠ "__name__" := by decide) (hdb : (tn == ("__debug__" : Str)) = false := by decide)
    (he : starEach (a :: [.Name tn p2]) X.env = (false, eval a X.env) :: starEach [.Name tn p2] X.env := by rfl) (he2 : starEach (.Name tn p2 :: []) X.env = (false, eval (.Name tn p2) X.env) :: starEach [] X.env := by rfl) (hpl : (backTo pos (starEach [.Name tn p2] X.env)).any (·.1) = false := by rfl) :
    DV X ct Wx (.Call (.Name "isinstance" p) [a, .Name tn p2] [] pos) (vIsi g f) :=
  ⟨PE_imp (pe_callB call_isi hg hm (by decide +kernel) (pa_cons ha.pe (pa_cons (pe_bltn (v := .ty T) hg2 hm2 hv rfl hn hdb) pa_nil he2) he) (by decide) (by decide) he hpl) fun σ H Q ⟨B, Fz, m, h, q⟩ => by
    unfold vIsi at q
    refine tR_then h ?_
    cases hf : f m with
    | st => rw [hf] at q; exact q
    | ex c => rw [hf] at q; exact q
    | ok x =>
      intro v H1 Fz1 x1 h1 l1 s1
      rw [hf] at q
      exact ⟨v, .ty T, .type (tyN x), .type T, g x, rfl, .ty T, (s1.vw h1).ty, kit_ty (hk x), q _ H1 Fz1 x1 ⟨h1, .bl _⟩⟩⟩

/-! ### list(range(..)), tuple(range(..)) -/
def rgD (lo hi : Int) : List PyData := (List.range (hi - lo).toNat).map fun i => .int (lo + (i : Nat))
def rgFit (lo hi : Int) : Bool := decide ((-1000000 ≤ lo ∧ lo ≤ 1000000) ∧ (-1000000 ≤ hi ∧ hi ≤ 1000000))
theorem rp_rg {K : PySem.W.Frag} {Fz : Addr → Prop} {H : Hp} (lo hi : Int) : RpAll K Fz H (rgV lo hi) (rgD lo hi) := by
  unfold rgV rgD
  generalize List.range (hi - lo).toNat = l
  induction l with
  | nil => exact .nil
  | cons i l ih => exact .cons (.int _) ih
end
end Dl
set_option Elab.async false
set_option linter.all false
set_option maxRecDepth 100000
/-! D6: statements. -/
namespace Dl
open PySem PySem.Spec PyProof.Rows L2
/-- how a statement ends -/
inductive Fl where
  | st | nx (m : Ms) | rt (x : PyData) | rq (x : PyData) | bk (m : Ms) | ct (m : Ms) | ex (c : Nat) (m : Ms)
def tS (K : PySem.W.Frag) (ct : CT) (Wx : WX) (g : Ms → Fl) : TS := fun D σ H => ∃ B Fz m, Rs K B Fz H σ m ∧
  match g m with
  | .st => False
  | .nx m' => ∀ σ' H' Fz', Ext B Fz Fz' → Rs K B Fz' H' σ' m' → D.nx σ' H'
  | .rt x => ∀ v H' Fz', Ext B Fz Fz' → (∃ σ' m', Rs K B Fz' H' σ' m') → Rp K Fz' H' v x → D.rt v H'
  | .rq x => ∀ v H' Fz', Ext B Fz Fz' → (∃ σ' m', Rs K B Fz' H' σ' m') → Rq K Fz' H' v x → D.rt v H'
  | .bk m' => ∀ σ' H' Fz', Ext B Fz Fz' → Rs K B Fz' H' σ' m' → D.bk σ' H'
  | .ct m' => ∀ σ' H' Fz', Ext B Fz Fz' → Rs K B Fz' H' σ' m' → D.ct σ' H'
  | .ex c m' => ∀ σ' H' Fz', Ext B Fz Fz' → Rs K B Fz' H' σ' m' → Wx (ct c) Option.none σ' H'
structure DS (X : Cx) (ct : CT) (Wx : WX) (st : Stmt) (g : Ms → Fl) : Prop where
  ps : PS X st (tS X.K ct Wx g)
structure DSs (X : Cx) (ct : CT) (Wx : WX) (st : List Stmt) (g : Ms → Fl) : Prop where
  ps : PSs X st (tS X.K ct Wx g)
theorem PS_imp {X : Cx} {st : Stmt} {t t' : TS} (h : PS X st t) (q : ∀ D σ H, t' D σ H → t D σ H) : PS X st t' := ⟨fun pins s σ H D I w => h.run pins s σ H D I (q _ _ _ w)⟩
theorem PSs_imp {X : Cx} {st : List Stmt} {t t' : TS} (h : PSs X st t) (q : ∀ D σ H, t' D σ H → t D σ H) : PSs X st t' := ⟨fun pins s σ H D I w => h.run pins s σ H D I (q _ _ _ w)⟩
/-- behind a state: what the rest asks -/
def EndS (K : PySem.W.Frag) (ct : CT) (Wx : WX) (B : Hp) (Fz : Addr → Prop) (D : Ends) : Fl → Prop
  | .st => False
  | .nx m' => ∀ σ' H' Fz', Ext B Fz Fz' → Rs K B Fz' H' σ' m' → D.nx σ' H'
  | .rt x => ∀ v H' Fz', Ext B Fz Fz' → (∃ σ' m', Rs K B Fz' H' σ' m') → Rp K Fz' H' v x → D.rt v H'
  | .rq x => ∀ v H' Fz', Ext B Fz Fz' → (∃ σ' m', Rs K B Fz' H' σ' m') → Rq K Fz' H' v x → D.rt v H'
  | .bk m' => ∀ σ' H' Fz', Ext B Fz Fz' → Rs K B Fz' H' σ' m' → D.bk σ' H'
  | .ct m' => ∀ σ' H' Fz', Ext B Fz Fz' → Rs K B Fz' H' σ' m' → D.ct σ' H'
  | .ex c m' => ∀ σ' H' Fz', Ext B Fz Fz' → Rs K B Fz' H' σ' m' → Wx (ct c) Option.none σ' H'
theorem tS_iff {K : PySem.W.Frag} {ct : CT} {Wx : WX} {g : Ms → Fl} {D : Ends} {σ : L2.St} {H : Hp} : tS K ct Wx g D σ H ↔ ∃ B Fz m, Rs K B Fz H σ m ∧ EndS K ct Wx B Fz D (g m) := by
  unfold tS
  constructor
  · rintro ⟨B, Fz, m, h, q⟩
    refine ⟨B, Fz, m, h, ?_⟩
    cases hg : g m <;> (rw [hg] at q; exact q)
  · rintro ⟨B, Fz, m, h, q⟩
    refine ⟨B, Fz, m, h, ?_⟩
    cases hg : g m <;> (rw [hg] at q; exact q)
theorem EndS.ext {K : PySem.W.Frag} {ct : CT} {Wx : WX} {B : Hp} {Fz Fz' : Addr → Prop} {D : Ends} {f : Fl} (e : Ext B Fz Fz') (h : EndS K ct Wx B Fz D f) : EndS K ct Wx B Fz' D f := by
  cases f with
  | st => exact h
  | nx m => exact fun σ' H' F' x => h σ' H' F' (e.trans x)
  | rt x => exact fun σ' H' F' x => h σ' H' F' (e.trans x)
  | rq x => exact fun σ' H' F' x => h σ' H' F' (e.trans x)
  | bk m => exact fun σ' H' F' x => h σ' H' F' (e.trans x)
  | ct m => exact fun σ' H' F' x => h σ' H' F' (e.trans x)
  | ex c m => exact fun σ' H' F' x => h σ' H' F' (e.trans x)
section
variable {X : Cx} {ct : CT} {Wx : WX} {e a b c : Expr} {st : Stmt} {rest : List Stmt} {pos : Pos}
theorem mkS {te : TE} {g : Ms → Fl} (h : PS X st (fun D σ H => te σ H fun _ _ => True)) : True := trivial
/-- a statement's rule from the layer's -/
theorem ds_of {t : TS} {g : Ms → Fl} (h : PS X st t) (q : ∀ D σ H B Fz m, Rs X.K B Fz H σ m → EndS X.K ct Wx B Fz D (g m) → t D σ H) : DS X ct Wx st g :=
  ⟨PS_imp h fun D σ H w => by
    obtain ⟨B, Fz, m, h1, h2⟩ := tS_iff.mp w
    exact q D σ H B Fz m h1 h2⟩
theorem dss_of {sts : List Stmt} {t : TS} {g : Ms → Fl} (h : PSs X sts t) (q : ∀ D σ H B Fz m, Rs X.K B Fz H σ m → EndS X.K ct Wx B Fz D (g m) → t D σ H) : DSs X ct Wx sts g :=
  ⟨PSs_imp h fun D σ H w => by
    obtain ⟨B, Fz, m, h1, h2⟩ := tS_iff.mp w
    exact q D σ H B Fz m h1 h2⟩

/-! ### blocks -/
def sNil : Ms → Fl := fun m => .nx m
def sSeq (f g : Ms → Fl) : Ms → Fl := fun m => match f m with
  | .nx m' => g m'
  | r => r
theorem ds_nil : DSs X ct Wx [] sNil := dss_of pss_nil fun D σ H B Fz m h q => q σ H Fz .refl h
theorem ds_cons {f g : Ms → Fl} (h1 : DS X ct Wx st f) (h2 : DSs X ct Wx rest g) : DSs X ct Wx (st :: rest) (sSeq f g) := dss_of (pss_cons h1.ps h2.ps) fun D σ H B Fz m h q => by
  refine tS_iff.mpr ⟨B, Fz, m, h, ?_⟩
  unfold sSeq at q
  cases hf : f m with
  | st => rw [hf] at q; exact q
  | nx m' =>
    rw [hf] at q
    exact fun σ' H' F' x h' => tS_iff.mpr ⟨B, F', m', h', q.ext x⟩
  | rt x => rw [hf] at q; exact q
  | rq x => rw [hf] at q; exact q
  | bk m' => rw [hf] at q; exact q
  | ct m' => rw [hf] at q; exact q
  | ex c m' => rw [hf] at q; exact q
theorem ds_one {f : Ms → Fl} (h1 : DS X ct Wx st f) : DSs X ct Wx [st] f := ⟨pss_one h1.ps⟩
/-- a slot's own list is given up -/
def frzAt (i : Nat) (m : Ms) : Ms := match m[i]? with
  | some (some (.l xs)) => m.set i (some (.d (.list xs)))
  | _ => m
def sFrz (i : Nat) (g : Ms → Fl) : Ms → Fl := fun m => g (frzAt i m)
theorem frz_end {i : Nat} {D : Ends} {σ : L2.St} {H B : Hp} {Fz : Addr → Prop} {m : Ms} {f : Fl} (h : Rs X.K B Fz H σ m) (q : EndS X.K ct Wx B Fz D f) : ∃ F', Rs X.K B F' H σ (frzAt i m) ∧ EndS X.K ct Wx B F' D f := by
  unfold frzAt
  split
  · rename_i xs e
    obtain ⟨F', x, h'⟩ := h.frzAt i e
    exact ⟨F', h', q.ext x⟩
  · exact ⟨Fz, h, q⟩
theorem ds_frz (i : Nat) {sts : List Stmt} {g : Ms → Fl} (h : DSs X ct Wx sts g) : DSs X ct Wx sts (sFrz i g) := dss_of h.ps fun D σ H B Fz m h q => by
  obtain ⟨F', h', q'⟩ := frz_end (i := i) h q
  exact tS_iff.mpr ⟨B, F', _, h', q'⟩
theorem ds_frz1 (i : Nat) {g : Ms → Fl} (h : DS X ct Wx st g) : DS X ct Wx st (sFrz i g) := ds_of h.ps fun D σ H B Fz m h q => by
  obtain ⟨F', h', q'⟩ := frz_end (i := i) h q
  exact tS_iff.mpr ⟨B, F', _, h', q'⟩

/-! ### small statements -/
theorem ds_pass : DS X ct Wx (.Pass pos) sNil := ds_of ps_pass fun D σ H B Fz m h q => q σ H Fz .refl h
def sBrk : Ms → Fl := fun m => .bk m
def sCnt : Ms → Fl := fun m => .ct m
theorem ds_break : DS X ct Wx (.Break pos) sBrk := ds_of ps_break fun D σ H B Fz m h q => q σ H Fz .refl h
theorem ds_cont : DS X ct Wx (.Continue pos) sCnt := ds_of ps_continue fun D σ H B Fz m h q => q σ H Fz .refl h
theorem ds_doc {x j pos pos'} : DS X ct Wx (.Expr (.Constant (.str x) j pos) pos') sNil := ds_of ps_doc fun D σ H B Fz m h q => q σ H Fz .refl h
def flE {α : Type} (f : Ms → Rz α) (k : α → Ms → Fl) : Ms → Fl := fun m => match f m with
  | .st => .st
  | .ok w => k w m
  | .ex c => .ex c m
/-- from an expression's end -/
theorem tE_end {f : Ms → Rz W} {B : Hp} {Fz : Addr → Prop} {σ : L2.St} {m : Ms} {H : Hp} {Q : VK} {D : Ends} {k : W → Ms → Fl} (h : Rs X.K B Fz H σ m)
    (q : EndS X.K ct Wx B Fz D (flE f k m))
    (hk : ∀ w v H' Fz', f m = .ok w → Ext B Fz Fz' → Rs X.K B Fz' H' (some v :: σ) (some w :: m) → EndS X.K ct Wx B Fz' D (k w m) → Q v H') : tE X.K ct Wx f σ H Q := by
  refine ⟨B, Fz, m, h, ?_⟩
  unfold flE at q
  cases hf : f m with
  | st => rw [hf] at q; exact q
  | ex c => rw [hf] at q; exact fun H' F' x r => q σ H' F' x r
  | ok w => rw [hf] at q; exact fun v H' F' x r => hk w v H' F' hf x r (q.ext x)
theorem tV_end {f : Ms → Rz PyData} {B : Hp} {Fz : Addr → Prop} {σ : L2.St} {m : Ms} {H : Hp} {Q : VK} {D : Ends} {k : PyData → Ms → Fl} (h : Rs X.K B Fz H σ m)
    (q : EndS X.K ct Wx B Fz D (flE f k m))
    (hk : ∀ x v H' Fz', f m = .ok x → Ext B Fz Fz' → Rs X.K B Fz' H' σ m → Rp X.K Fz' H' v x → EndS X.K ct Wx B Fz' D (k x m) → Q v H') : tV X.K ct Wx f σ H Q := by
  refine ⟨B, Fz, m, h, ?_⟩
  unfold flE at q
  cases hf : f m with
  | st => rw [hf] at q; exact q
  | ex c => rw [hf] at q; exact fun H' F' x r => q σ H' F' x r
  | ok w => rw [hf] at q; exact fun v H' F' x r => hk w v H' F' hf x r.1 r.2 (q.ext x)
/-- name = e -/
def sSet (i : Nat) (f : Ms → Rz W) : Ms → Fl := flE f fun w m => if i < m.length then .nx (m.set i (some w)) else .st
theorem ds_set {x : Str} {f : Ms → Rz W} {pos' : Pos} (i : Nat) (he : DE X ct Wx e f) (hN : X.N.Nodup) (hi : X.N[i]? = some x := by rfl) (hx : Loc X.env.scope x := by first | exact Or.inl rfl | exact Or.inr rfl)
    (hs : swapsWith e (some (.Name x pos')) pos.line X.env = pure false := by rfl) (hf : X.fn x = true ∨ X.env.scope.names.lookup x = some .local := by first | exact .inl rfl | exact .inr rfl) : DS X ct Wx (.Assign [.Name x pos'] e pos) (sSet i f) :=
  ds_of (ps_set hN hi hx he.pe hs hf) fun D σ H B Fz m h q => by
    refine tE_end (k := fun w m => if i < m.length then .nx (m.set i (some w)) else .st) h q fun w v H' F' _ x r q => ?_
    split at q
    · rename_i hl
      exact q _ _ F' .refl (r.put i hl)
    · exact q.elim
/-- name = [.. for ..] where the name is stored within the frame of the comprehension -/
theorem ds_setc {te : TE} {f : Ms → Rz W} (i : Nat) (hp : PS X st (tAsg te (gName i))) (ht : ∀ σ H Q, tE X.K ct Wx f σ H Q → te σ H Q) : DS X ct Wx st (sSet i f) :=
  ds_of hp fun D σ H B Fz m h q => by
    refine ht _ _ _ (tE_end (k := fun w m => if i < m.length then .nx (m.set i (some w)) else .st) h q fun w v H' F' _ x r q => ?_)
    split at q
    · rename_i hl
      exact q _ _ F' .refl (r.put i hl)
    · exact q.elim
/-- an expression as a statement -/
def sExpr (f : Ms → Rz PyData) : Ms → Fl := flE f fun _ m => .nx m
theorem ds_expr {f : Ms → Rz PyData} (he : DV X ct Wx e f) (hs : swapsWith e none pos.line X.env = pure false := by rfl) : DS X ct Wx (.Expr e pos) (sExpr f) :=
  ds_of (ps_expr he.pe hs) fun D σ H B Fz m h q => tV_end (k := fun _ m => .nx m) h q fun _ v H' F' _ x r _ q => q σ H' F' .refl r
def sRet (f : Ms → Rz PyData) : Ms → Fl := flE f fun x _ => .rt x
theorem ds_ret {f : Ms → Rz PyData} (he : DV X ct Wx e f) : DS X ct Wx (.Return (some e) pos) (sRet f) :=
  ds_of (ps_ret he.pe) fun D σ H B Fz m h q => tV_end (k := fun x _ => .rt x) h q fun _ v H' F' _ x r p q => q v H' F' .refl ⟨_, _, r⟩ p
def sRetN : Ms → Fl := fun _ => .rt .none
theorem ds_retN : DS X ct Wx (.Return none pos) sRetN := ds_of ps_retN fun D σ H B Fz m h q => q .non H Fz .refl ⟨_, _, h⟩ .non
def sIf (t : Ms → Rz Bool) (f g : Ms → Fl) : Ms → Fl := flE t fun b m => if b = true then f m else g m
theorem ds_if {t : Ms → Rz Bool} {f g : Ms → Fl} {A B : List Stmt} (ht : DT X ct Wx c t) (hf : DSs X ct Wx A f) (hg : DSs X ct Wx B g) : DS X ct Wx (.If c A B pos) (sIf t f g) :=
  ds_of (ps_if ht.pt hf.ps hg.ps) fun D σ H B Fz m h q => by
    refine ⟨B, Fz, m, h, ?_⟩
    unfold sIf flE at q
    cases hf : t m with
    | st => rw [hf] at q; exact q
    | ex c => rw [hf] at q; exact fun H' F' x r => q σ H' F' x r
    | ok b =>
      rw [hf] at q
      intro H' F' x r
      cases b with
      | true => rw [if_pos rfl]; exact tS_iff.mpr ⟨B, F', m, r, q.ext x⟩
      | false => rw [if_neg Bool.false_ne_true]; exact tS_iff.mpr ⟨B, F', m, r, q.ext x⟩
/-- code that is never reached -/
def sStuck : Ms → Fl := fun _ => .st
theorem ds_never : DS X ct Wx st sStuck := ds_of ps_never fun D σ H B Fz m h q => q.elim
theorem dss_never {sts : List Stmt} : DSs X ct Wx sts sStuck := dss_of pss_never fun D σ H B Fz m h q => q.elim

/-! ### targets -/
/-- what is stored where; vs: the slots that are touched -/
def gD (K : PySem.W.Frag) (vs : List Nat) (s : PyData → Ms → Option Ms) : TG := fun v σ H Q => ∃ B Fz m x, Rs K B Fz H σ m ∧ Rp K Fz H v x ∧
  match s x m with
  | some m' => ∀ σ', Rs K B Fz H σ' m' → σ'.length = σ.length → (∀ j, j ∉ vs → σ'[j]? = σ[j]?) → Q σ' H
  | none => False
def OffM {α : Type} (vs : List Nat) (s : α → Ms → Option Ms) : Prop := ∀ x m m', s x m = some m' → m'.length = m.length ∧ ∀ j, j ∉ vs → m'[j]? = m[j]?
structure DG (X : Cx) (tg : Expr) (vs : List Nat) (s : PyData → Ms → Option Ms) : Prop where
  pg : PG X tg (gD X.K vs s)
  off : OffM vs s
theorem PG_imp {tg : Expr} {t t' : TG} (h : PG X tg t) (q : ∀ v σ H Q, t' v σ H Q → t v σ H Q) : PG X tg t' := ⟨fun pins s σ H v u Q I r w => h.run pins s σ H v u Q I r (q _ _ _ _ w)⟩
def gSet (i : Nat) : PyData → Ms → Option Ms := fun x m => if i < m.length then some (m.set i (some (.d x))) else none
theorem dg_name {x : Str} (i : Nat) (hN : X.N.Nodup) (hi : X.N[i]? = some x := by rfl) (hx : Loc X.env.scope x := by first | exact Or.inl rfl | exact Or.inr rfl) (hf : X.fn x = true ∨ X.env.scope.names.lookup x = some .local := by first | exact .inl rfl | exact .inr rfl) :
    DG X (.Name x pos) [i] (gSet i) := ⟨PG_imp (pg_name hN hi hx hf) fun v σ H Q ⟨B, Fz, m, x, h, r, q⟩ => by
  unfold gSet at q
  split at q
  · rename_i hs
    split at hs
    · rename_i hl
      cases hs
      refine q _ ((h.push r).put i hl) (by simp) fun j hj => ?_
      rw [List.getElem?_set_ne]
      intro z; exact hj (by simp [z])
    · cases hs
  · exact q.elim, fun x m m' e => by
    unfold gSet at e
    split at e
    · cases e
      refine ⟨List.length_set, fun j hj => ?_⟩
      rw [List.getElem?_set_ne]
      intro z; exact hj (by simp [z])
    · cases e⟩
/-- several targets -/
def gDs (K : PySem.W.Frag) (vs : List Nat) (s : List PyData → Ms → Option Ms) : TGs := fun v σ H Q => ∃ B Fz m x, Rs K B Fz H σ m ∧ RpAll K Fz H v x ∧
  match s x m with
  | some m' => ∀ σ', Rs K B Fz H σ' m' → σ'.length = σ.length → (∀ j, j ∉ vs → σ'[j]? = σ[j]?) → Q σ' H
  | none => False
structure DGs (X : Cx) (ts : List Expr) (vs : List Nat) (s : List PyData → Ms → Option Ms) : Prop where
  pg : PGs X ts (gDs X.K vs s)
  off : OffM vs s
theorem PGs_imp {ts : List Expr} {t t' : TGs} (h : PGs X ts t) (q : ∀ v σ H Q, t' v σ H Q → t v σ H Q) : PGs X ts t' := ⟨fun pins s σ H v u Q I r w => h.run pins s σ H v u Q I r (q _ _ _ _ w)⟩
def gNil : List PyData → Ms → Option Ms := fun xs m => match xs with
  | [] => some m
  | _ => none
def gCons (s : PyData → Ms → Option Ms) (t : List PyData → Ms → Option Ms) : List PyData → Ms → Option Ms := fun xs m => match xs with
  | x :: r => (s x m).bind fun m' => t r m'
  | [] => none
theorem dgs_nil : DGs X [] [] gNil := ⟨PGs_imp pgs_nil fun v σ H Q ⟨B, Fz, m, x, h, r, q⟩ => by
  unfold gNil at q
  cases x with
  | nil =>
    cases r
    exact ⟨rfl, q σ h rfl fun _ _ => rfl⟩
  | cons _ _ => exact q.elim, fun x m m' e => by
    unfold gNil at e
    split at e
    · cases e; exact ⟨rfl, fun _ _ => rfl⟩
    · cases e⟩
theorem dgs_cons {tg : Expr} {ts : List Expr} {v1 v2 : List Nat} {s : PyData → Ms → Option Ms} {t : List PyData → Ms → Option Ms} (h1 : DG X tg v1 s) (h2 : DGs X ts v2 t)
    (hs : (assignEach (tg :: ts) X.env).map (·.2) = assign tg X.env :: (assignEach ts X.env).map (·.2) := by rfl) : DGs X (tg :: ts) (v1 ++ v2) (gCons s t) := ⟨PGs_imp (pgs_cons h1.pg h2.pg hs) fun v σ H Q ⟨B, Fz, m, x, h, r, q⟩ => by
  unfold gCons at q
  cases x with
  | nil => exact q.elim
  | cons y ys =>
    cases r with
    | @cons u us _ _ r rs =>
      refine ⟨u, us, rfl, B, Fz, m, y, h, r, ?_⟩
      dsimp only at q
      cases hs : s y m with
      | none => rw [hs] at q; exact q
      | some m' =>
        rw [hs] at q
        intro σ' h' l' o'
        refine ⟨B, Fz, m', ys, h', rs, ?_⟩
        cases ht : t ys m' with
        | none => rw [Option.bind_some, ht] at q; exact q
        | some m2 =>
          rw [Option.bind_some, ht] at q
          exact fun σ2 h2 l2 o2 => q σ2 h2 (l2.trans l') fun j hj => (o2 j fun z => hj (List.mem_append_right _ z)).trans (o' j fun z => hj (List.mem_append_left _ z)), fun x m m' e => by
    unfold gCons at e
    cases x with
    | nil => cases e
    | cons y r =>
      dsimp only at e
      cases hs : s y m with
      | none => rw [hs] at e; cases e
      | some m1 =>
        rw [hs, Option.bind_some] at e
        obtain ⟨l1, o1⟩ := h1.off _ _ _ hs
        obtain ⟨l2, o2⟩ := h2.off _ _ _ e
        exact ⟨l2.trans l1, fun j hj => (o2 j fun z => hj (List.mem_append_right _ z)).trans (o1 j fun z => hj (List.mem_append_left _ z))⟩⟩
def gTup' (n : Nat) (t : List PyData → Ms → Option Ms) : PyData → Ms → Option Ms := fun x m => match x with
  | .tuple xs => if xs.length = n then t xs m else none
  | _ => none
theorem dg_tup {ts : List Expr} {k : Nat} {vs : List Nat} {t : List PyData → Ms → Option Ms} {n : Nat} (h : DGs X ts vs t) (hc : X.calm = true := by rfl) (hn : (assignEach ts X.env).length = n := by rfl)
    (hst : (assignEach ts X.env).findIdx? (·.1) = none := by rfl) : DG X (.Tuple ts k pos) vs (gTup' n t) := ⟨PG_imp (pg_tup hc h.pg hn hst) fun v σ H Q ⟨B, Fz, m, x, h, r, q⟩ => by
  unfold gTup' at q
  cases x with
  | tuple xs =>
    dsimp only at q
    obtain ⟨a, us, rfl, s, r⟩ := r.tupE
    by_cases hl : xs.length = n
    · rw [if_pos hl] at q
      exact ⟨a, us, rfl, s, r.length.trans hl, B, Fz, m, xs, h, r, q⟩
    · rw [if_neg hl] at q
      exact q.elim
  | _ => exact q.elim, fun x m m' e => by
    unfold gTup' at e
    cases x with
    | tuple xs =>
      dsimp only at e
      split at e
      · exact h.off _ _ _ e
      · cases e
    | _ => cases e⟩
/-- target = value -/
def sAsg (f : Ms → Rz PyData) (s : PyData → Ms → Option Ms) : Ms → Fl := flE f fun x m => match s x m with
  | some m' => .nx m'
  | none => .st
theorem ds_asg {tg : Expr} {vs : List Nat} {s : PyData → Ms → Option Ms} {f : Ms → Rz PyData} (he : DV X ct Wx e f) (hg : DG X tg vs s) (hs : swapsWithSole [tg] e pos.line X.env = pure false := by rfl) (hw : swappedStores [tg] e X.env = pure none := by rfl)
    (h1 : (assignEach [tg] X.env).map (·.2) = [assign tg X.env] := by rfl) : DS X ct Wx (.Assign [tg] e pos) (sAsg f s) :=
  ds_of (ps_asg he.pe hg.pg hs hw h1) fun D σ H B Fz m h q => by
    refine tV_end (k := fun x m => match s x m with | some m' => .nx m' | none => .st) h q fun y v H' F' _ x r p q => ?_
    refine ⟨B, F', m, y, r, p, ?_⟩
    cases hs : s y m with
    | none => rw [hs] at q; exact q
    | some m' => rw [hs] at q; exact fun σ' h' _ _ => q σ' H' F' .refl h'
/-- a, b = x, y -/
def sPar (i j : Nat) (f g : Ms → Rz PyData) : Ms → Fl := flE (evalAllD [f, g]) fun xs m => match xs with
  | [x, y] => if i < m.length ∧ j < m.length then .nx ((m.set i (some (.d x))).set j (some (.d y))) else .st
  | _ => .st
theorem ds_par {i j : Nat} {x y : Str} {fa fb : Ms → Rz PyData} {px py pt : Pos} {kt k2 pt2} (hN : X.N.Nodup) (ha : DA X ct Wx [a, b] [fa, fb]) (hc : X.calm = true := by rfl) (hi : X.N[i]? = some x := by rfl) (hj : X.N[j]? = some y := by rfl) (hij : i ≠ j := by decide)
    (hx : X.env.scope.names.lookup x = some .local := by rfl) (hy : X.env.scope.names.lookup y = some .local := by rfl)
    (hw : swappedStores [.Tuple [.Name x px, .Name y py] kt pt] (.Tuple [a, b] k2 pt2) X.env = pure (some [x, y]) := by rfl)
    (hs : swapsWithSole [.Tuple [.Name x px, .Name y py] kt pt] (.Tuple [a, b] k2 pt2) pos.line X.env = pure false := by rfl) :
    DS X ct Wx (.Assign [.Tuple [.Name x px, .Name y py] kt pt] (.Tuple [a, b] k2 pt2) pos) (sPar i j fa fb) :=
  ds_of (ps_par hc hN hi hj hij hx hy ha.pa hw hs) fun D σ H B Fz m h q => by
    refine ⟨B, Fz, m, h, ?_⟩
    unfold sPar flE at q
    cases hf : evalAllD [fa, fb] m with
    | st => rw [hf] at q; exact q
    | ex c => rw [hf] at q; exact fun H' F' x r => q σ H' F' x r
    | ok xs =>
      rw [hf] at q
      intro vs H' F' x r p
      match xs, p, q with
      | [y, z], .cons p1 (.cons p2 .nil), q =>
        refine ⟨_, _, rfl, ?_⟩
        have q : EndS X.K ct Wx B Fz D (if i < m.length ∧ j < m.length then .nx ((m.set i (some (.d y))).set j (some (.d z))) else .st) := q
        split at q
        · rename_i hl
          exact q _ _ F' x ((((r.push p1).put i hl.1).push p2).put j (by simpa using hl.2))
        · exact q.elim
      | [], _, q => exact q.elim
      | [_], _, q => exact q.elim
      | _ :: _ :: _ :: _, _, q => exact q.elim
/-- name op= e -/
def ipD (g : Int → Int → Int) : PyData → PyData → Option PyData
  | .int i, .int j => some (.int (g i j))
  | _, _ => none
def sAug (i : Nat) (g : Int → Int → Int) (f : Ms → Rz PyData) : Ms → Fl := fun m => match vVar i m with
  | .ok x => flE f (fun y m => match ipD g x y with
    | some z => if i < m.length then .nx (m.set i (some (.d z))) else .st
    | none => .st) m
  | _ => .st
theorem ds_aug {i : Nat} {x : Str} {f : Ms → Rz PyData} {op : Operator} {g : Int → Int → Int} {pos' : Pos} (ho : PIp X op (ipI g)) (hN : X.N.Nodup) (he : DV X ct Wx e f) (hi : X.N[i]? = some x := by rfl) (hx : Loc X.env.scope x := by first | exact Or.inl rfl | exact Or.inr rfl)
    (hf : X.fn x = true ∨ X.env.scope.names.lookup x = some .local := by first | exact .inl rfl | exact .inr rfl) : DS X ct Wx (.AugAssign (.Name x pos') op e pos) (sAug i g f) :=
  ds_of (ps_aug hN hi hx he.pe ho hf) fun D σ H B Fz m h q => by
    unfold sAug at q
    cases hv : vVar i m with
    | st => rw [hv] at q; exact q.elim
    | ex c => exact absurd hv vVar_ex
    | ok y =>
      rw [hv] at q
      obtain ⟨v, h1, h2⟩ := h.get (vVar_ok hv)
      refine ⟨v, h1, ?_⟩
      obtain ⟨B2, hB, he', ht⟩ := h.step
      refine ⟨B2, Fz, m, hB, ?_⟩
      have q : EndS X.K ct Wx B Fz D (flE f (fun y' m => match ipD g y y' with | some z => if i < m.length then .nx (m.set i (some (.d z))) else .st | none => .st) m) := q
      unfold flE at q
      cases hf : f m with
      | st => rw [hf] at q; exact q
      | ex c => rw [hf] at q; exact fun H' F' x r => q σ H' F' (he' _ x) (ht (ρ := []) (r := []) x r rfl).1
      | ok z =>
        rw [hf] at q
        intro u H' F' x r
        obtain ⟨r', l⟩ := ht (ρ := []) (r := []) x r.1 rfl
        have q : EndS X.K ct Wx B Fz D (match ipD g y z with | some z => if i < m.length then .nx (m.set i (some (.d z))) else .st | none => .st) := q
        unfold ipD at q
        cases y with
        | int iy =>
          cases z with
          | int iz =>
            have q : EndS X.K ct Wx B Fz D (if i < m.length then .nx (m.set i (some (.d (.int (g iy iz))))) else .st) := q
            cases h2
            cases r.2
            refine ⟨iy, iz, rfl, rfl, ?_⟩
            split at q
            · rename_i hl
              exact q _ _ F' (he' _ x) ((Rs.push r' (Rp.int (g iy iz))).put i hl)
            · exact q.elim
          | _ => exact q.elim
        | _ => exact q.elim
end
end Dl
set_option Elab.async false
set_option linter.all false
set_option maxRecDepth 100000
/-! D7: loops. -/
namespace Dl
open PySem PySem.Spec PyProof.Rows L2
section
variable {K : PySem.W.Frag} {B : Hp} {Fz : Addr → Prop} {H : Hp} {σ τ : L2.St} {m n : Ms} {ct : CT} {Wx : WX}
theorem RL.split : ∀ {τ σ : L2.St} {n m : Ms} {fp : List Addr}, RL K Fz H (τ ++ σ) (n ++ m) fp → τ.length = n.length → ∃ f1 f2, fp = f1 ++ f2 ∧ RL K Fz H τ n f1 ∧ RL K Fz H σ m f2
  | [], σ, [], m, fp, h, _ => ⟨[], fp, rfl, .nil, h⟩
  | [], _, _ :: _, _, _, _, hl => by simp at hl
  | _ :: _, _, [], _, _, _, hl => by simp at hl
  | x :: τ, σ, y :: n, m, fp, h, hl => by
    rw [List.cons_append, List.cons_append] at h
    cases h with
    | no r =>
      obtain ⟨f1, f2, e, a, b⟩ := RL.split r (by simpa using hl)
      exact ⟨f1, f2, e, .no a, b⟩
    | @so _ _ f _ _ _ q r =>
      obtain ⟨f1, f2, e, a, b⟩ := RL.split r (by simpa using hl)
      exact ⟨f ++ f1, f2, by rw [e, List.append_assoc], .so q a, b⟩
theorem RL.glue {f2 : List Addr} : ∀ {τ : L2.St} {n : Ms} {f1 : List Addr}, RL K Fz H τ n f1 → RL K Fz H σ m f2 → RL K Fz H (τ ++ σ) (n ++ m) (f1 ++ f2)
  | _, _, _, .nil, b => b
  | _, _, _, .no r, b => .no (RL.glue r b)
  | _, _, _, .so q r, b => by rw [List.append_assoc]; exact .so q (RL.glue r b)
open Classical in
/-- values τ are held; what comes behind leaves them alone, whatever it does to the slots -/
theorem Rs.holdG (h : Rs K B Fz H (τ ++ σ) (n ++ m)) (hl : τ.length = n.length) : ∃ B2 : Hp, Rs K B2 Fz H σ m ∧ (∀ F1 F', Ext B2 F1 F' → Ext B F1 F') ∧
    ∀ {Fz' : Addr → Prop} {H' : Hp} {ρ : L2.St} {r : Ms}, Ext B2 Fz Fz' → Rs K B2 Fz' H' ρ r → Rs K B Fz' H' (τ ++ ρ) (n ++ r) ∧ Le Fz H Fz' H' := by
  obtain ⟨fp, rl, nd, own, base, fz⟩ := h
  obtain ⟨f1, f2, e, r1, r2⟩ := RL.split rl hl
  subst e
  rw [List.nodup_append] at nd
  obtain ⟨nd1, nd2, nd3⟩ := nd
  have b2s : ∀ a o, (if a ∈ f2 then none else H a) = some o → a ∉ f2 ∧ H a = some o := fun a o q => by
    by_cases z : a ∈ f2
    · rw [if_pos z] at q; cases q
    · rw [if_neg z] at q; exact ⟨z, q⟩
  have bb : ∀ a, (if a ∈ f2 then (none : Option HO) else H a) = none → B a = none := fun a q => by
    by_cases z : a ∈ f2
    · exact (own a (List.mem_append_right _ z)).1
    · rw [if_neg z] at q
      cases w : B a with
      | none => rfl
      | some o => rw [base a o w] at q; cases q
  refine ⟨fun a => if a ∈ f2 then none else H a, ⟨f2, r2, nd2, fun a ha => ⟨if_pos ha, (own a (List.mem_append_right _ ha)).2⟩, fun a o q => (b2s a o q).2, fz⟩, fun F1 F' x => ⟨x.le, fun a ha => (x.new a ha).imp id (bb a)⟩, ?_⟩
  intro Fz' H' ρ r x h'
  obtain ⟨fp', rl', nd', own', base', fz'⟩ := h'
  have st : ∀ a o, H a = some o → a ∉ f2 → H' a = some o := fun a o q z => base' a o (by rw [if_neg z]; exact q)
  have l : Le Fz H Fz' H' := ⟨x.le, fun a o q k => st a o q fun z => by
    rcases k with k | k
    · exact (own a (List.mem_append_right _ z)).2 k
    · obtain ⟨vs, q', n⟩ := r2.own a z
      rw [q] at q'; cases q'
      exact n k⟩
  have d1 : ∀ a ∈ f1, (if a ∈ f2 then none else H a) ≠ none := fun a ha => by
    have z : a ∉ f2 := fun z => nd3 a ha a z rfl
    rw [if_neg z]
    obtain ⟨vs, q, _⟩ := r1.own a ha
    rw [q]; simp
  have rt : RL K Fz' H' τ n f1 := r1.mono l fun a ha o q => st a o q fun z => nd3 a ha a z rfl
  refine ⟨⟨f1 ++ fp', RL.glue rt rl', ?_, fun a ha => ?_, fun a o q => ?_, fz'⟩, l⟩
  · rw [List.nodup_append]
    refine ⟨nd1, nd', fun a ha b hb e => ?_⟩
    subst e
    exact d1 a ha (own' a hb).1
  · rcases List.mem_append.mp ha with ha | ha
    · refine ⟨(own a (List.mem_append_left _ ha)).1, fun z => ?_⟩
      rcases x.new a z with z | z
      · exact (own a (List.mem_append_left _ ha)).2 z
      · exact d1 a ha z
    · exact ⟨bb a (own' a ha).1, (own' a ha).2⟩
  · have z : a ∉ f2 := fun z => by
      have := (own a (List.mem_append_right _ z)).1
      rw [q] at this; cases this
    exact st a o (base a o q) z
theorem Rs.stepG (h : Rs K B Fz H σ m) : ∃ B2 : Hp, Rs K B2 Fz H σ m ∧ (∀ F1 F', Ext B2 F1 F' → Ext B F1 F') ∧
    ∀ {Fz' : Addr → Prop} {H' : Hp} {ρ : L2.St} {r : Ms}, Ext B2 Fz Fz' → Rs K B2 Fz' H' ρ r → Rs K B Fz' H' ρ r ∧ Le Fz H Fz' H' := by
  obtain ⟨B2, h1, h2, h3⟩ := Rs.holdG (τ := []) (n := []) (by simpa using h) rfl
  exact ⟨B2, h1, h2, fun x h' => by simpa using h3 x h'⟩
/-- slots that hold nothing may be anything -/
theorem RL.anyway : ∀ {σ : L2.St} {m : Ms} {fp : List Addr}, RL K Fz H σ m fp → ∀ {ρ : L2.St}, ρ.length = σ.length → (∀ j : Nat, m[j]? ≠ some none → ρ[j]? = σ[j]?) → RL K Fz H ρ m fp
  | _, _, _, .nil, ρ, hl, _ => by
    cases ρ with
    | nil => exact .nil
    | cons _ _ => simp at hl
  | _, _, _, .no r, ρ, hl, hj => by
    cases ρ with
    | nil => simp at hl
    | cons y ρ => exact .no (RL.anyway r (by simpa using hl) fun j h => by simpa using hj (j + 1) (by simpa using h))
  | _, _, _, .so q r, ρ, hl, hj => by
    cases ρ with
    | nil => simp at hl
    | cons y ρ =>
      have e := hj 0 (by simp)
      simp at e
      subst e
      exact .so q (RL.anyway r (by simpa using hl) fun j h => by simpa using hj (j + 1) (by simpa using h))
theorem Rs.anyway {ρ : L2.St} (h : Rs K B Fz H σ m) (hl : ρ.length = σ.length) (hj : ∀ j : Nat, m[j]? ≠ some none → ρ[j]? = σ[j]?) : Rs K B Fz H ρ m := by
  obtain ⟨fp, r⟩ := h
  exact ⟨fp, r.rl.anyway hl hj, r.nd, r.own, r.base, r.fz⟩
/-- the end is the same from a base that stands on more -/
theorem EndS.up {B2 : Hp} {D : Ends} {f : Fl} (h2 : ∀ F1 F', Ext B2 F1 F' → Ext B F1 F') (h3 : ∀ {Fz' : Addr → Prop} {H' : Hp} {ρ : L2.St} {r : Ms}, Ext B2 Fz Fz' → Rs K B2 Fz' H' ρ r → Rs K B Fz' H' ρ r ∧ Le Fz H Fz' H') (h : EndS K ct Wx B Fz D f) : EndS K ct Wx B2 Fz D f := by
  cases f with
  | st => exact h
  | nx m => exact fun σ' H' F' x r => h σ' H' F' (h2 _ _ x) (h3 x r).1
  | rt y => exact fun v H' F' x ⟨σ', m', r⟩ => h v H' F' (h2 _ _ x) ⟨σ', m', (h3 x r).1⟩
  | rq y => exact fun v H' F' x ⟨σ', m', r⟩ => h v H' F' (h2 _ _ x) ⟨σ', m', (h3 x r).1⟩
  | bk m => exact fun σ' H' F' x r => h σ' H' F' (h2 _ _ x) (h3 x r).1
  | ct m => exact fun σ' H' F' x r => h σ' H' F' (h2 _ _ x) (h3 x r).1
  | ex c m => exact fun σ' H' F' x r => h σ' H' F' (h2 _ _ x) (h3 x r).1

/-! ### what is walked -/
/-- J yields the items xs, whatever comes to pass that leaves frozen data alone -/
def ItOk (K : PySem.W.Frag) (Fz : Addr → Prop) (H : Hp) (J : It) (xs : List PyData) : Prop := ∀ Fz' H', Le Fz H Fz' H' → (∀ i, i < xs.length → J.go i H') ∧ J.stop xs.length H' ∧
  ∀ (i : Nat) (x : PyData) (v : V) (H'' : Hp), xs[i]? = some x → J.yld i H' v H'' → (H'' = H' ∨ ∃ (p : Addr) (ts : List V), H' p = none ∧ H'' = upd H' p (.tup ts)) ∧ Rp K Fz' H'' v x
def tI (K : PySem.W.Frag) (ct : CT) (Wx : WX) (f : Ms → Rz (List PyData)) : TI := fun σ H R => ∃ B Fz m, Rs K B Fz H σ m ∧ match f m with
  | .st => False
  | .ok xs => ∀ J H' Fz', Ext B Fz Fz' → Rs K B Fz' H' σ m → ItOk K Fz' H' J xs → xs.length ≤ sizeLine → R J H'
  | .ex c => ∀ H' Fz', Ext B Fz Fz' → Rs K B Fz' H' σ m → Wx (ct c) Option.none σ H'
end
structure DI (X : Cx) (ct : CT) (Wx : WX) (tg e : Expr) (f : Ms → Rz (List PyData)) : Prop where
  pi : PI X tg e (tI X.K ct Wx f)
theorem PI_imp {X : Cx} {tg e : Expr} {t t' : TI} (h : PI X tg e t) (q : ∀ σ H R, t' σ H R → t σ H R) : PI X tg e t' := ⟨fun pins s σ H R I w => h.run pins s σ H R I (q _ _ _ w)⟩
/-- what is tracked has a bound -/
theorem pi_fin {X : Cx} {tg e : Expr} {t : TI} (h : PI X tg e t) : PI X tg e (fun σ H R => t σ H fun J H' => (∀ a xs, SqL X.K H' a xs → xs.length ≤ sizeLine) → (∀ a xs, SqT X.K H' a xs → xs.length ≤ sizeLine) → R J H') := ⟨fun pins s σ H R I w => by
  refine thn (h.run pins s σ H _ I w) fun v s1 q => thn q fun itv s2 ⟨it, fp, tn, J, H', e, I', T, t0, f, r⟩ => ⟨it, fp, tn, J, H', e, I', T, t0, f, r (fun a xs hq => ?_) fun a xs hq => ?_⟩
  · obtain ⟨_, _, _, hz⟩ := I'.list hq; exact hz
  · obtain ⟨_, _, _, hz⟩ := I'.tuple hq; exact hz⟩
section
variable {X : Cx} {ct : CT} {Wx : WX} {tg e a b c : Expr} {p pos : Pos} {K : PySem.W.Frag} {Fz : Addr → Prop} {H : Hp}
theorem itl_ok {a : Addr} {vs : List V} {ds : List PyData} (f : Fz a) (hq : H a = some (.lst vs)) (r : RpAll K Fz H vs ds) : ItOk K Fz H (Itl K a) ds := fun Fz' H' l => by
  have hq' : SqL K H' a vs := .inl (.inl (l.hp a _ hq (.inl f)))
  have r' := r.mono l
  refine ⟨fun i hi => ⟨vs, vs[i]'(by rw [r.length]; exact hi), hq', List.getElem?_eq_getElem _⟩, ⟨vs, hq', Nat.le_of_eq r.length⟩, fun i x v H'' hx hy => ?_⟩
  obtain ⟨e, hy⟩ := hy
  subst e
  obtain ⟨w, hw, rw'⟩ := r'.get' hx
  have := hy vs hq'
  rw [hw] at this; cases this
  exact ⟨.inl rfl, rw'⟩
theorem itt_ok {a : Addr} {vs : List V} {ds : List PyData} (hq : SqT K H a vs) (r : RpAll K Fz H vs ds) : ItOk K Fz H (Itt K a) ds := fun Fz' H' l => by
  have hq' : SqT K H' a vs := sqT_le l hq
  have r' := r.mono l
  refine ⟨fun i hi => ⟨vs, vs[i]'(by rw [r.length]; exact hi), hq', List.getElem?_eq_getElem _⟩, ⟨vs, hq', Nat.le_of_eq r.length⟩, fun i x v H'' hx hy => ?_⟩
  obtain ⟨e, hy⟩ := hy
  subst e
  obtain ⟨w, hw, rw'⟩ := r'.get' hx
  have := hy vs hq'
  rw [hw] at this; cases this
  exact ⟨.inl rfl, rw'⟩
/-- the items of a list or tuple -/
def itemsOf : PyData → Rz (List PyData)
  | .list xs => .ok xs
  | .tuple xs => .ok xs
  | _ => .st
def iSeq (f : Ms → Rz PyData) : Ms → Rz (List PyData) := fun m => (f m).bind itemsOf
theorem pi_seq {te : TE} (he : PE X e te) : PI X tg e (fun σ H R => te σ H fun x H1 => (∃ a xs, x = .ref a ∧ SqL X.K H1 a xs ∧ R (Itl X.K a) H1) ∨ ∃ a xs, x = .ref a ∧ SqT X.K H1 a xs ∧ R (Itt X.K a) H1) := by
  have vpe : ∀ (x : V) (v : Value), RelV x v → PE X e te → True := fun _ _ _ _ => trivial
  refine ⟨fun pins s σ H R I h => ?_⟩
  refine thn (he.run pins s σ H _ I h) fun v s1 ⟨x, H1, I1, r1, q1⟩ => ?_
  rcases q1 with ⟨a, xs, e, hq, q⟩ | ⟨a, xs, e, hq, q⟩ <;> subst e <;> cases r1
  · obtain ⟨its, rv, p, hz⟩ := I1.list hq
    refine wpAny_pyIter_list p.isList ⟨_, [s1.heap.objs.size], _, _, H1, rfl, I1.kept (t' := s1.toks) fun _ _ => Heap.get?_push_of_some _, turn_list a _, ⟨_, Heap.get?_push_size _ rfl, rfl, rfl⟩, fun b hb => ?_, q⟩
    rw [List.mem_singleton.mp hb]
    exact I1.fpOk (Nat.le_refl _) (I1.hok.fresh (Nat.le_refl _))
  · obtain ⟨its, rv, p, hz⟩ := I1.tuple hq
    refine wpAny_pyIter_tuple (show s1.heap.IsTuple a its.toArray from p) ⟨_, [s1.heap.objs.size], _, _, H1, rfl, I1.kept (t' := s1.toks) fun _ _ => Heap.get?_push_of_some _, turn_tuple a _, ⟨_, Heap.get?_push_size _ rfl, rfl, rfl⟩, fun b hb => ?_, q⟩
    rw [List.mem_singleton.mp hb]
    exact I1.fpOk (Nat.le_refl _) (I1.hok.fresh (Nat.le_refl _))
/-- tV's end, for anything that goes on from a value -/
theorem tV_to {f : Ms → Rz PyData} {g : PyData → Rz (List PyData)} {σ : L2.St} {H : Hp} {R : It → Hp → Prop} {Q : VK} (w : tI X.K ct Wx (fun m => (f m).bind g) σ H R)
    (hk : ∀ B Fz m x xs v H', Rs X.K B Fz H' σ m → g x = .ok xs → Rp X.K Fz H' v x → (∀ J, ItOk X.K Fz H' J xs → xs.length ≤ sizeLine → R J H') → Q v H') (hg : ∀ x c, g x ≠ .ex c) : tV X.K ct Wx f σ H Q := by
  obtain ⟨B, Fz, m, r, q⟩ := w
  refine ⟨B, Fz, m, r, ?_⟩
  dsimp only at q
  cases hf : f m with
  | st => rw [hf] at q; exact q
  | ex c => rw [hf] at q; exact q
  | ok x =>
    rw [hf] at q
    have q : match g x with
      | .st => False
      | .ok xs => ∀ J H' Fz', Ext B Fz Fz' → Rs X.K B Fz' H' σ m → ItOk X.K Fz' H' J xs → xs.length ≤ sizeLine → R J H'
      | .ex c => ∀ H' Fz', Ext B Fz Fz' → Rs X.K B Fz' H' σ m → Wx (ct c) Option.none σ H' := q
    intro v H' F' x' ⟨r', rv⟩
    cases hx : g x with
    | st => rw [hx] at q; exact q.elim
    | ex c => exact absurd hx (hg x c)
    | ok xs =>
      rw [hx] at q
      exact hk B F' m x xs v H' r' hx rv fun J o l => q J H' F' x' r' o l
theorem di_seq {f : Ms → Rz PyData} (he : DV X ct Wx e f) : DI X ct Wx tg e (iSeq f) := ⟨PI_imp (pi_fin (pi_seq he.pe)) fun σ H R w => tV_to (g := itemsOf) w (fun B Fz m x xs v H' r hx rv hk => by
    cases rv with
    | lst f hq ra =>
      cases hx
      exact .inl ⟨_, _, rfl, .inl (.inl hq), fun h1 _ => hk _ (itl_ok f hq ra) (by rw [← ra.length]; exact h1 _ _ (.inl (.inl hq)))⟩
    | tup hq ra =>
      cases hx
      exact .inr ⟨_, _, rfl, .inl (.inl hq), fun _ h2 => hk _ (itt_ok (.inl (.inl hq)) ra) (by rw [← ra.length]; exact h2 _ _ (.inl (.inl hq)))⟩
    | tupK hq _ ra =>
      cases hx
      exact .inr ⟨_, _, rfl, hq _, fun _ h2 => hk _ (itt_ok (hq _) ra) (by rw [← ra.length]; exact h2 _ _ (hq _))⟩
    | _ => cases hx) fun x c => by cases x <;> simp [itemsOf]⟩
/-- a range -/
def rngL (lo : Int) (n : Nat) : List PyData := (List.range n).map fun (i : Nat) => .int (lo + i)
theorem itr_ok {lo : Int} {n : Nat} : ItOk K Fz H (Itr lo n) (rngL lo n) := fun Fz' H' l => by
  have hn : (rngL lo n).length = n := by simp [rngL]
  refine ⟨fun i hi => by rw [hn] at hi; exact hi, by rw [hn]; exact Nat.le_refl _, fun i x v H'' hx hy => ?_⟩
  obtain ⟨e, hv⟩ := hy
  subst e hv
  unfold rngL at hx
  rw [List.getElem?_map] at hx
  cases z : (List.range n)[i]? with
  | none => rw [z] at hx; cases hx
  | some j =>
    rw [z] at hx
    have : j = i := by
      obtain ⟨h1, h2⟩ := List.getElem?_eq_some_iff.mp z
      rw [← h2]; simp
    subst this
    cases hx
    exact ⟨.inl rfl, .int _⟩
/-- small bounds; not for the kernel to reckon -/
theorem ex_rngOk : ∃ f : Int → Int → Bool, ∀ i j, f i j = true ↔ (-(2 ^ 62) ≤ i ∧ i < 2 ^ 62 ∧ -(2 ^ 62) ≤ j ∧ j < 2 ^ 62 ∧ j - i ≤ 16777216) := ⟨fun i j => decide (-(2 ^ 62) ≤ i ∧ i < 2 ^ 62 ∧ -(2 ^ 62) ≤ j ∧ j < 2 ^ 62 ∧ j - i ≤ 16777216), fun i j => by rw [decide_eq_true_eq]⟩
noncomputable def rngOk : Int → Int → Bool := Classical.choose ex_rngOk
theorem rngOk_iff {i j : Int} : rngOk i j = true ↔ (-(2 ^ 62) ≤ i ∧ i < 2 ^ 62 ∧ -(2 ^ 62) ≤ j ∧ j < 2 ^ 62 ∧ j - i ≤ 16777216) := Classical.choose_spec ex_rngOk i j
noncomputable def rng1 : List PyData → Rz (List PyData)
  | [.int j] => if rngOk 0 j then .ok (rngL 0 j.toNat) else .st
  | _ => .st
noncomputable def rng2 : List PyData → Rz (List PyData)
  | [.int i, .int j] => if rngOk i j then .ok (rngL i (j - i).toNat) else .st
  | _ => .st
/-- tAv's end -/
theorem tAv_to {es : List (Ms → Rz PyData)} {g : List PyData → Rz (List PyData)} {σ : L2.St} {H : Hp} {R : It → Hp → Prop} {Q : List V → Hp → Prop} (w : tI X.K ct Wx (fun m => (evalAllD es m).bind g) σ H R)
    (hk : ∀ B Fz m x xs v H', Rs X.K B Fz H' σ m → g x = .ok xs → RpAll X.K Fz H' v x → (∀ J, ItOk X.K Fz H' J xs → xs.length ≤ sizeLine → R J H') → Q v H') (hg : ∀ x c, g x ≠ .ex c) : tAv X.K ct Wx es σ H Q := by
  obtain ⟨B, Fz, m, r, q⟩ := w
  refine ⟨B, Fz, m, r, ?_⟩
  dsimp only at q
  cases hf : evalAllD es m with
  | st => rw [hf] at q; exact q
  | ex c => rw [hf] at q; exact q
  | ok x =>
    rw [hf] at q
    have q : match g x with
      | .st => False
      | .ok xs => ∀ J H' Fz', Ext B Fz Fz' → Rs X.K B Fz' H' σ m → ItOk X.K Fz' H' J xs → xs.length ≤ sizeLine → R J H'
      | .ex c => ∀ H' Fz', Ext B Fz Fz' → Rs X.K B Fz' H' σ m → Wx (ct c) Option.none σ H' := q
    intro v H' F' x' r' rv
    cases hx : g x with
    | st => rw [hx] at q; exact q.elim
    | ex c => exact absurd hx (hg x c)
    | ok xs =>
      rw [hx] at q
      exact hk B F' m x xs v H' r' hx rv fun J o l => q J H' F' x' r' o l
def iArg (g : List PyData → Rz (List PyData)) (es : List (Ms → Rz PyData)) : Ms → Rz (List PyData) := fun m => (evalAllD es m).bind g
theorem RpAll.one {v : List V} {x : PyData} (r : RpAll K Fz H v [x]) : ∃ u, v = [u] ∧ Rp K Fz H u x := by
  cases r with | cons r z => cases z; exact ⟨_, rfl, r⟩
theorem RpAll.two {v : List V} {x y : PyData} (r : RpAll K Fz H v [x, y]) : ∃ u w, v = [u, w] ∧ Rp K Fz H u x ∧ Rp K Fz H w y := by
  cases r with | cons r z => cases z with | cons r' z => cases z; exact ⟨_, _, rfl, r, r'⟩
theorem rng1_ok {x : List PyData} {xs : List PyData} (h : rng1 x = .ok xs) : ∃ j, x = [.int j] ∧ rngOk 0 j = true ∧ xs = rngL 0 j.toNat := by
  unfold rng1 at h
  split at h
  · split at h
    · cases h; exact ⟨_, rfl, by assumption, rfl⟩
    · cases h
  · cases h
theorem rng2_ok {x : List PyData} {xs : List PyData} (h : rng2 x = .ok xs) : ∃ i j, x = [.int i, .int j] ∧ rngOk i j = true ∧ xs = rngL i (j - i).toNat := by
  unfold rng2 at h
  split at h
  · split at h
    · cases h; exact ⟨_, _, rfl, by assumption, rfl⟩
    · cases h
  · cases h
theorem rng1_ex {x : List PyData} {c : Nat} : rng1 x ≠ .ex c := by
  unfold rng1
  split
  · split <;> simp
  · simp
theorem rng2_ex {x : List PyData} {c : Nat} : rng2 x ≠ .ex c := by
  unfold rng2
  split
  · split <;> simp
  · simp
theorem rngL_len {lo : Int} {n : Nat} : (rngL lo n).length = n := by simp [rngL]
theorem di_range1 {f : Ms → Rz PyData} (ha : DA X ct Wx [a] [f]) (hm : X.mg "range" = none) (hg : Gl X "range" := by rfl) (hs : starEach [a] X.env = [(false, eval a X.env)] := by rfl) : DI X ct Wx tg (.Call (.Name "range" p) [a] [] pos) (iArg rng1 [f]) :=
  ⟨PI_imp (pi_range1 hg hm ha.pa hs) fun σ H R w => tAv_to (g := rng1) w (fun B Fz m x xs v H' r hx rv hk => by
    obtain ⟨j, rfl, ok, rfl⟩ := rng1_ok hx
    obtain ⟨u, rfl, ru⟩ := rv.one
    cases ru
    rw [rngOk_iff] at ok
    exact ⟨j, rfl, ok.2.2.1, ok.2.2.2.1, hk _ itr_ok (by rw [rngL_len, sizeLine_eq]; have := ok.2.2.2.2; omega)⟩) fun _ _ => rng1_ex⟩
theorem di_range2 {f g : Ms → Rz PyData} (ha : DA X ct Wx [a, b] [f, g]) (hm : X.mg "range" = none) (hg : Gl X "range" := by rfl) (hs : starEach [a, b] X.env = [(false, eval a X.env), (false, eval b X.env)] := by rfl) (hs2 : starEach [b] X.env = [(false, eval b X.env)] := by rfl) :
    DI X ct Wx tg (.Call (.Name "range" p) [a, b] [] pos) (iArg rng2 [f, g]) :=
  ⟨PI_imp (pi_range2 hg hm ha.pa hs hs2) fun σ H R w => tAv_to (g := rng2) w (fun B Fz m x xs v H' r hx rv hk => by
    obtain ⟨i, j, rfl, ok, rfl⟩ := rng2_ok hx
    obtain ⟨u, u2, rfl, ru, ru2⟩ := rv.two
    cases ru
    cases ru2
    rw [rngOk_iff] at ok
    exact ⟨i, j, rfl, ⟨ok.1, ok.2.1, ok.2.2.1, ok.2.2.2.1⟩, hk _ itr_ok (by rw [rngL_len, sizeLine_eq]; have := ok.2.2.2.2; omega)⟩) fun _ _ => rng2_ex⟩
end
end Dl
set_option Elab.async false
set_option linter.all false
set_option maxRecDepth 100000
/-! D8: writing in place; for, while, comprehensions. -/
namespace Dl
open PySem PySem.Spec PyProof.Rows L2
section
variable {K : PySem.W.Frag} {B : Hp} {Fz : Addr → Prop} {H : Hp} {σ τ : L2.St} {m n : Ms} {ct : CT} {Wx : WX}
theorem le_own {a : Addr} {vs us : List V} (ha : H a = some (.lst vs)) (nf : ¬ Fz a) : Le Fz H Fz (upd H a (.lst us)) := ⟨fun _ h => h, fun b o q k => by
  have : b ≠ a := fun e => by
    subst e
    rw [ha] at q; cases q
    exact k.elim nf id
  rw [upd_ne this]; exact q⟩
theorem RL.write : ∀ {σ : L2.St} {m : Ms} {fp : List Addr} (i : Nat) {xs : List PyData}, RL K Fz H σ m fp → fp.Nodup → (∀ a ∈ fp, ¬ Fz a) → m[i]? = some (some (.l xs)) → ∃ a vs, σ[i]? = some (some (.ref a)) ∧ H a = some (.lst vs) ∧ RpAll K Fz H vs xs ∧ a ∈ fp ∧
    ∀ (us : List V) (ys : List PyData), RpAll K Fz H us ys → RL K Fz (upd H a (.lst us)) σ (m.set i (some (.l ys))) fp
  | _, _, _, _, _, .nil, _, _, e => by simp at e
  | _, _, _, 0, _, .no _, _, _, e => by simp at e
  | _, _, _, i + 1, _, .no r, nd, nf, e => by
    obtain ⟨a, vs, h1, h2, h3, h4, h5⟩ := RL.write i r nd nf (by simpa using e)
    exact ⟨a, vs, by simpa using h1, h2, h3, h4, fun us ys r => .no (h5 us ys r)⟩
  | _, _, _, 0, _, .so (fp := fp) q r, nd, nf, e => by
    have e' := Option.some.inj (Option.some.inj e)
    subst e'
    cases q with
    | @l p vs _ e r' =>
      rw [List.singleton_append, List.nodup_cons] at nd
      refine ⟨p, vs, rfl, e, r', by simp, fun us ys ry => ?_⟩
      have l := le_own (us := us) e (nf p (by simp))
      exact .so (.l upd_same (ry.mono l)) (r.mono l fun b hb o q => by rw [upd_ne (fun z => nd.1 (by rw [← z]; exact hb))]; exact q)
  | _, _, _, i + 1, _, .so (f := f) q r, nd, nf, e => by
    rw [List.nodup_append] at nd
    obtain ⟨a, vs, h1, h2, h3, h4, h5⟩ := RL.write i r nd.2.1 (fun a ha => nf a (List.mem_append_right _ ha)) (by simpa using e)
    have l := fun us => le_own (us := us) h2 (nf a (List.mem_append_right _ h4))
    exact ⟨a, vs, by simpa using h1, h2, h3, List.mem_append_right _ h4, fun us ys ry => .so (q.mono (l us) fun b hb o q => by rw [upd_ne (fun z => nd.2.2 b hb a h4 z)]; exact q) (h5 us ys ry)⟩
/-- an own list is written -/
theorem Rs.write (i : Nat) {xs : List PyData} (h : Rs K B Fz H σ m) (e : m[i]? = some (some (.l xs))) : ∃ a vs, σ[i]? = some (some (.ref a)) ∧ H a = some (.lst vs) ∧ RpAll K Fz H vs xs ∧
    ∀ (us : List V) (ys : List PyData), RpAll K Fz H us ys → Rs K B Fz (upd H a (.lst us)) σ (m.set i (some (.l ys))) := by
  obtain ⟨fp, r⟩ := h
  obtain ⟨a, vs, h1, h2, h3, h4, h5⟩ := r.rl.write i r.nd (fun a ha => (r.own a ha).2) e
  refine ⟨a, vs, h1, h2, h3, fun us ys ry => ⟨fp, h5 us ys ry, r.nd, r.own, fun b o q => ?_, fun b hb => ?_⟩⟩
  · have : b ≠ a := fun z => by
      subst z
      rw [(r.own b h4).1] at q; cases q
    rw [upd_ne this]; exact r.base b o q
  · by_cases z : b = a
    · subst z; rw [upd_same]; simp
    · rw [upd_ne z]; exact r.fz b hb
/-! ### for -/
def goFor (s : PyData → Ms → Option Ms) (b : Ms → Fl) : List PyData → Ms → Fl
  | [], m => .nx m
  | x :: r, m => match s x m with
    | none => .st
    | some m1 => match b m1 with
      | .nx m2 => goFor s b r m2
      | .ct m2 => goFor s b r m2
      | .bk m2 => .nx m2
      | o => o
def flI {α : Type} (f : Ms → Rz α) (k : α → Ms → Fl) : Ms → Fl := flE f k
def sFor (f : Ms → Rz (List PyData)) (s : PyData → Ms → Option Ms) (b : Ms → Fl) : Ms → Fl := flE f fun xs m => goFor s b xs m
theorem yld_st {H' : Hp} (h : Rs K B Fz H σ m) (hh : H' = H ∨ ∃ (p : Addr) (ts : List V), H p = none ∧ H' = upd H p (.tup ts)) : Rs K B Fz H' σ m := by
  rcases hh with e | ⟨p, ts, hp, e⟩
  · rw [e]; exact h
  · rw [e]; exact h.new hp
end
section
variable {X : Cx} {ct : CT} {Wx : WX} {tg iter : Expr} {pos : Pos} {body : List Stmt}
theorem ds_for {f : Ms → Rz (List PyData)} {vs : List Nat} {s : PyData → Ms → Option Ms} {b : Ms → Fl} (hp : PassesOwn (model X.prog X.w) X.A X.env X.xe) (hi : DI X ct Wx tg iter f) (hg : DG X tg vs s) (hb : DSs X ct Wx body b) (hc : X.calm = true := by rfl)
    (hs : ∀ x, foldedSetIterable iter X.env x = pure x := by intro _; rfl) : DS X ct Wx (.For tg iter body [] pos) (sFor f s b) :=
  ds_of (ps_for hp hc hi.pi hg.pg hb.ps hs) fun D σ H B Fz m h q => by
    refine ⟨B, Fz, m, h, ?_⟩
    unfold sFor flE at q
    cases hf : f m with
    | st => rw [hf] at q; exact q
    | ex c => rw [hf] at q; exact fun H' F' x r => q σ H' F' x r
    | ok xs =>
      rw [hf] at q
      have q : EndS X.K ct Wx B Fz D (goFor s b xs m) := q
      intro J H1 F1 x1 r1 io ln
      obtain ⟨B3, h3, e3, up3⟩ := r1.stepG
      have q1 := (q.ext x1).up e3 up3
      refine ⟨fun i k σ H => k = xs.length - i ∧ i ≤ xs.length ∧ ∃ Fz m, Rs X.K B3 Fz H σ m ∧ Ext B3 F1 Fz ∧ EndS X.K ct Wx B3 Fz D (goFor s b (xs.drop i) m), ⟨_, rfl, Nat.zero_le _, F1, m, h3, .refl, q1⟩, ?_⟩
      rintro i k σ H ⟨rfl, hi, Fz, m, r, x, q⟩
      have l := (up3 x r).2
      obtain ⟨go, stop, yl⟩ := io Fz H l
      by_cases hlt : i < xs.length
      · refine .inr ⟨go i hlt, fun σ' H' => ∃ Fz m, Rs X.K B3 Fz H' σ' m ∧ Ext B3 F1 Fz ∧ EndS X.K ct Wx B3 Fz D (goFor s b (xs.drop (i + 1)) m), fun σ' H' z => ⟨xs.length - (i + 1), by omega, rfl, hlt, z⟩, fun v H' y => ?_⟩
        obtain ⟨hh, rv⟩ := yl i _ v H' (List.getElem?_eq_getElem hlt) y
        have r' := yld_st r hh
        rw [List.drop_eq_getElem_cons hlt] at q
        unfold goFor at q
        refine ⟨B3, Fz, m, _, r', rv, ?_⟩
        cases hs : s xs[i] m with
        | none => rw [hs] at q; exact q
        | some m1 =>
          rw [hs] at q
          intro σ2 r2 _ _
          refine tS_iff.mpr ⟨B3, Fz, m1, r2, ?_⟩
          dsimp only at q
          cases hb : b m1 with
          | st => rw [hb] at q; exact q
          | nx m2 => rw [hb] at q; exact fun σ3 H3 F3 x3 r3 => ⟨F3, m2, r3, x.trans x3, q.ext x3⟩
          | ct m2 => rw [hb] at q; exact fun σ3 H3 F3 x3 r3 => ⟨F3, m2, r3, x.trans x3, q.ext x3⟩
          | bk m2 => rw [hb] at q; exact q
          | rt x => rw [hb] at q; exact q
          | rq x => rw [hb] at q; exact q
          | ex c m2 => rw [hb] at q; exact q
      · have e : i = xs.length := by omega
        subst e
        rw [List.drop_length] at q
        exact .inl ⟨stop, q σ H Fz .refl r⟩
/-! ### while -/
def goWhile (t : Ms → Rz Bool) (b : Ms → Fl) : Nat → Ms → Fl
  | 0, _ => .st
  | n + 1, m => match t m with
    | .st => .st
    | .ex c => .ex c m
    | .ok false => .nx m
    | .ok true => match b m with
      | .nx m2 => goWhile t b n m2
      | .ct m2 => goWhile t b n m2
      | .bk m2 => .nx m2
      | o => o
theorem ds_while {t : Ms → Rz Bool} {c : Expr} {b : Ms → Fl} (k : Nat) (hp : PassesOwn (model X.prog X.w) X.A X.env X.xe) (ht : DT X ct Wx c t) (hb : DSs X ct Wx body b) : DS X ct Wx (.While c body [] pos) (goWhile t b k) :=
  ds_of (ps_while hp ht.pt hb.ps) fun D σ H B Fz m h q => by
    refine ⟨fun k σ H => ∃ Fz m, Rs X.K B Fz H σ m ∧ EndS X.K ct Wx B Fz D (goWhile t b k m), ⟨k, Fz, m, h, q⟩, ?_⟩
    rintro k σ H ⟨Fz, m, r, q⟩
    refine ⟨B, Fz, m, r, ?_⟩
    cases k with
    | zero => exact q.elim
    | succ n =>
      unfold goWhile at q
      cases ht : t m with
      | st => rw [ht] at q; exact q
      | ex c => rw [ht] at q; exact fun H' F' x r => q σ H' F' x r
      | ok w =>
        rw [ht] at q
        intro H1 F1 x1 r1
        cases w with
        | false => rw [if_neg Bool.false_ne_true]; exact q σ H1 F1 x1 r1
        | true =>
          rw [if_pos rfl]
          refine ⟨fun σ H => ∃ Fz m, Rs X.K B Fz H σ m ∧ EndS X.K ct Wx B Fz D (goWhile t b n m), fun σ' H' z => ⟨n, Nat.lt_succ_self _, z⟩, tS_iff.mpr ⟨B, F1, m, r1, ?_⟩⟩
          dsimp only at q
          cases hb : b m with
          | st => rw [hb] at q; exact q
          | nx m2 => rw [hb] at q; exact fun σ3 H3 F3 x3 r3 => ⟨F3, m2, r3, (q.ext x1).ext x3⟩
          | ct m2 => rw [hb] at q; exact fun σ3 H3 F3 x3 r3 => ⟨F3, m2, r3, (q.ext x1).ext x3⟩
          | bk m2 => rw [hb] at q; exact q.ext x1
          | rt x => rw [hb] at q; exact q.ext x1
          | rq x => rw [hb] at q; exact q.ext x1
          | ex c m2 => rw [hb] at q; exact q.ext x1
/-! ### comprehensions -/
theorem wipe_get {σ : L2.St} {j : Nat} : ∀ {vs : List Nat}, (wipe σ vs)[j]? = if j ∈ vs then (if j < σ.length then some none else none) else σ[j]?
  | [] => by simp [wipe]
  | v :: vs => by
    unfold wipe
    rw [List.getElem?_set, wipe_get (vs := vs), wipe_length]
    by_cases e : v = j
    · subst e; simp
    · rw [if_neg e]
      have : (j ∈ v :: vs) ↔ j ∈ vs := by simp [Ne.symm e]
      simp only [this]
theorem wipe_eq {σ ρ : L2.St} {vs : List Nat} (hl : ρ.length = (wipe σ vs).length) (h : ∀ j, j ∉ vs → ρ[j]? = (wipe σ vs)[j]?) : wipe ρ vs = wipe σ vs := by
  rw [wipe_length] at hl
  apply List.ext_getElem?
  intro j
  rw [wipe_get, wipe_get]
  by_cases e : j ∈ vs
  · rw [if_pos e, if_pos e, hl]
  · rw [if_neg e, if_neg e, h j e, wipe_get, if_neg e]
def wipeM (m : Ms) : List Nat → Ms
  | [] => m
  | v :: vs => (wipeM m vs).set v none
theorem wipeM_length {m : Ms} : ∀ {vs : List Nat}, (wipeM m vs).length = m.length
  | [] => rfl
  | v :: vs => by unfold wipeM; rw [List.length_set, wipeM_length]
theorem wipeM_get {m : Ms} {j : Nat} : ∀ {vs : List Nat}, (wipeM m vs)[j]? = if j ∈ vs then (if j < m.length then some none else none) else m[j]?
  | [] => by simp [wipeM]
  | v :: vs => by
    unfold wipeM
    rw [List.getElem?_set, wipeM_get (vs := vs), wipeM_length]
    by_cases e : v = j
    · subst e; simp
    · rw [if_neg e]
      have : (j ∈ v :: vs) ↔ j ∈ vs := by simp [Ne.symm e]
      simp only [this]
theorem Rs.clears {K : PySem.W.Frag} {B : Hp} {Fz : Addr → Prop} {H : Hp} {σ : L2.St} {m : Ms} {x : Option V} {y : Option W} (h : Rs K B Fz H (x :: σ) (y :: m)) : ∀ vs : List Nat, Rs K B Fz H (x :: wipe σ vs) (y :: wipeM m vs)
  | [] => h
  | v :: vs => (Rs.clears h vs).clear (v + 1)
/-- nothing, or data -/
def isNo : Option (Option W) → Bool
  | some none => true
  | some (some (.d _)) => true
  | _ => false
def wipeOk (vs : List Nat) (m : Ms) : Bool := vs.all fun i => isNo m[i]?
theorem wipeOk_get {vs : List Nat} {m : Ms} (h : wipeOk vs m = true) {j : Nat} (hj : j ∈ vs) : m[j]? = some none ∨ ∃ x, m[j]? = some (some (.d x)) := by
  have q := List.all_eq_true.mp h j hj
  unfold isNo at q
  split at q
  · rename_i e; exact .inl e
  · rename_i x e; exact .inr ⟨x, e⟩
  · cases q
/-- data that were put aside are there again -/
theorem RL.merge {K : PySem.W.Frag} {F1 Fz : Addr → Prop} {H1 H : Hp} (l : Le F1 H1 Fz H) : ∀ {σ : L2.St} {m : Ms} {fp : List Addr} {ρ : L2.St} {r : Ms} {fr : List Addr}, RL K F1 H1 σ m fp → RL K Fz H ρ r fr → r.length = m.length →
    (∀ j : Nat, (r[j]? = m[j]? ∧ ρ[j]? = σ[j]?) ∨ (r[j]? = some none ∧ (m[j]? = some none ∨ ∃ x, m[j]? = some (some (.d x))))) → RL K Fz H σ m fr
  | _, _, _, _, _, _, .nil, b, hl, _ => by
    cases b with
    | nil => exact .nil
    | no _ => simp at hl
    | so _ _ => simp at hl
  | _, _, _, _, _, _, .no a, b, hl, hj => by
    cases b with
    | nil => simp at hl
    | no b => exact .no (RL.merge l a b (by simpa using hl) fun j => by simpa using hj (j + 1))
    | so q b =>
      rcases hj 0 with ⟨e, _⟩ | ⟨e, _⟩ <;> simp at e
  | _, _, _, _, _, _, .so q a, b, hl, hj => by
    cases b with
    | nil => simp at hl
    | no b =>
      rcases hj 0 with ⟨e, _⟩ | ⟨_, e | ⟨x, e⟩⟩
      · simp at e
      · simp at e
      · simp at e
        subst e
        cases q with
        | d q => exact .so (f := []) (.d (q.mono l)) (RL.merge l a b (by simpa using hl) fun j => by simpa using hj (j + 1))
    | so q' b =>
      rcases hj 0 with ⟨e, e2⟩ | ⟨e, _⟩
      · simp at e e2
        subst e e2
        exact .so q' (RL.merge l a b (by simpa using hl) fun j => by simpa using hj (j + 1))
      · simp at e
def goLc (s : PyData → Ms → Option Ms) (t : Ms → Rz Bool) (e : Ms → Rz PyData) (m : Ms) : List PyData → Rz (List PyData)
  | [] => .ok []
  | x :: r => match s x m with
    | none => .st
    | some m1 => match t m1 with
      | .ok true => match e m1 with
        | .ok y => (goLc s t e m r).map (y :: ·)
        | _ => .st
      | .ok false => goLc s t e m r
      | _ => .st
def eLc (vs : List Nat) (f : Ms → Rz (List PyData)) (s : PyData → Ms → Option Ms) (t : Ms → Rz Bool) (e : Ms → Rz PyData) : Ms → Rz W := fun m => if wipeOk vs m = true then (f m).bind fun xs => (goLc s t e (wipeM m vs) xs).map .l else .st
theorem lc_sound {K : PySem.W.Frag} {Wy : WX} {vs : List Nat} {f : Ms → Rz (List PyData)} {s : PyData → Ms → Option Ms} {t : Ms → Rz Bool} {e : Ms → Rz PyData} (off : OffM vs s) {σ : L2.St} {H : Hp} {Q : VK} (w : tE K ct Wx (eLc vs f s t e) σ H Q) :
    tLc (tI K ct Wx f) (gD K vs s) (tT K ct Wy t) (tV K ct Wy e) vs σ H Q := by
  obtain ⟨B, Fz, m, r, q⟩ := w
  refine ⟨B, Fz, m, r, ?_⟩
  unfold eLc at q
  by_cases hw : wipeOk vs m = true
  · rw [if_pos hw] at q
    have no : ∀ {j}, j ∈ vs → (wipeM m vs)[j]? = some none := fun {j} hj => by
      have : j < m.length := by
        rcases wipeOk_get hw hj with e | ⟨x, e⟩ <;> exact (List.getElem?_eq_some_iff.mp e).1
      rw [wipeM_get, if_pos hj, if_pos this]
    cases hf : f m with
    | st => rw [hf] at q; exact q
    | ex c => rw [hf] at q; exact q
    | ok xs =>
      rw [hf, Rz.bind_ok] at q
      intro J H1 F1 x1 r1 io ln D hD
      cases hz : goLc s t e (wipeM m vs) xs with
      | st => rw [hz] at q; exact q.elim
      | ex c =>
        have noex : ∀ xs, goLc s t e (wipeM m vs) xs ≠ .ex c := fun xs => by
          induction xs with
          | nil => simp [goLc]
          | cons x r ih =>
            unfold goLc
            split
            · simp
            · split
              · split
                · intro z
                  cases hr : goLc s t e (wipeM m vs) r with
                  | st => rw [hr] at z; cases z
                  | ex c' => rw [hr] at z; cases z; exact ih hr
                  | ok _ => rw [hr] at z; cases z
                · simp
              · exact ih
              · simp
        exact absurd hz (noex xs)
      | ok zs =>
        rw [hz] at q
        obtain ⟨B2, h2, e2, up2⟩ := r1.stepG
        have hσ : Rs K B2 F1 H1 (wipe σ vs) (wipeM m vs) := by
          have := Rs.clears (x := some .non) (y := some (.d .none)) (h2.push .non) vs
          exact this.pop
        have rD := hσ.newLst hD .nil
        refine ⟨fun i k H => k = xs.length - i ∧ i ≤ xs.length ∧ ∃ Fz acc ys, Rs K B2 Fz H (some (.ref D) :: wipe σ vs) (some (.l acc) :: wipeM m vs) ∧ Ext B2 F1 Fz ∧ acc.length ≤ i ∧ goLc s t e (wipeM m vs) (xs.drop i) = .ok ys ∧ acc ++ ys = zs, ⟨_, rfl, Nat.zero_le _, F1, [], zs, rD, .refl, Nat.le_refl _, hz, rfl⟩, ?_⟩
        rintro i k H ⟨rfl, hi, Fz, acc, ys, rr, x, ha, hy, hyz⟩
        have l := (up2 x rr).2
        obtain ⟨go, stop, yl⟩ := io Fz H l
        by_cases hlt : i < xs.length
        · refine .inr ⟨go i hlt, fun H' => ∃ Fz acc ys, Rs K B2 Fz H' (some (.ref D) :: wipe σ vs) (some (.l acc) :: wipeM m vs) ∧ Ext B2 F1 Fz ∧ acc.length ≤ i + 1 ∧ goLc s t e (wipeM m vs) (xs.drop (i + 1)) = .ok ys ∧ acc ++ ys = zs, fun H' z => ⟨xs.length - (i + 1), by omega, rfl, hlt, z⟩, fun v H' y => ?_⟩
          obtain ⟨hh, rv⟩ := yl i _ v H' (List.getElem?_eq_getElem hlt) y
          have r' := yld_st rr hh
          obtain ⟨B3, h3, e3, up3⟩ := Rs.holdG (τ := [some (.ref D)]) (n := [some (.l acc)]) r' rfl
          rw [List.drop_eq_getElem_cons hlt] at hy
          unfold goLc at hy
          refine ⟨B3, Fz, wipeM m vs, _, h3, rv, ?_⟩
          cases hs : s xs[i] (wipeM m vs) with
          | none => rw [hs] at hy; cases hy
          | some m1 =>
            rw [hs] at hy
            intro σ2 r2 l2 o2
            dsimp only at hy
            have we := wipe_eq l2 o2
            refine ⟨we, B3, Fz, m1, r2, ?_⟩
            have wm : wipeM m1 vs = wipeM m vs := by
              obtain ⟨o1, o2⟩ := off _ _ _ hs
              apply List.ext_getElem?
              intro j
              rw [wipeM_get (m := m1)]
              by_cases z : j ∈ vs
              · rw [if_pos z, no z]
                have : j < m1.length := by rw [o1]; exact (List.getElem?_eq_some_iff.mp (no z)).1
                rw [if_pos this]
              · rw [if_neg z, o2 j z]
            cases ht : t m1 with
            | st => rw [ht] at hy; cases hy
            | ex c => rw [ht] at hy; cases hy
            | ok b =>
              rw [ht] at hy
              intro H3 F3 x3 r3
              cases b with
              | false =>
                rw [if_neg Bool.false_ne_true]
                dsimp only at hy
                have g := Rs.clears (x := some (.ref D)) (y := some (.l acc)) (σ := σ2) (m := m1) (up3 x3 r3).1 vs
                rw [we, wm] at g
                exact ⟨F3, acc, ys, g, x.trans (e3 _ _ x3), Nat.le_succ_of_le ha, hy, hyz⟩
              | true =>
                rw [if_pos rfl]
                dsimp only at hy
                refine ⟨B3, F3, m1, r3, ?_⟩
                cases he : e m1 with
                | st => rw [he] at hy; cases hy
                | ex c => rw [he] at hy; cases hy
                | ok z =>
                  rw [he] at hy
                  dsimp only at hy
                  intro u H4 F4 x4 ⟨r4, p4⟩
                  have g := Rs.clears (x := some (.ref D)) (y := some (.l acc)) (σ := σ2) (m := m1) (up3 (x3.trans x4) r4).1 vs
                  rw [we, wm] at g
                  obtain ⟨a, avs, g1, g2, g3, g4⟩ := g.write 0 rfl
                  have ea : a = D := by simpa using g1.symm
                  subst ea
                  cases hr : goLc s t e (wipeM m vs) (xs.drop (i + 1)) with
                  | st => rw [hr] at hy; cases hy
                  | ex c => rw [hr] at hy; cases hy
                  | ok y2 =>
                    rw [hr] at hy
                    cases hy
                    refine ⟨avs, g2, by rw [g3.length]; omega, F4, acc ++ [z], y2, g4 _ _ (g3.append (.cons p4 .nil)), x.trans (e3 _ _ (x3.trans x4)), by simp; omega, rfl, by rw [List.append_assoc]; exact hyz⟩
        · have e' : i = xs.length := by omega
          subst e'
          rw [List.drop_length] at hy
          cases hy
          rw [List.append_nil] at hyz
          subst hyz
          refine .inl ⟨stop, q _ H Fz (x1.trans (e2 _ _ x)) ?_⟩
          obtain ⟨fpr, rlr, nd, own, base, fz⟩ := (up2 x rr).1
          obtain ⟨fp1, s1⟩ := r1
          cases rlr with
          | @so _ _ f _ _ fp q rl =>
            refine ⟨_, .so q (RL.merge l s1.rl rl wipeM_length fun j => ?_), nd, own, base, fz⟩
            by_cases z : j ∈ vs
            · exact .inr ⟨no z, wipeOk_get hw z⟩
            · exact .inl ⟨by rw [wipeM_get, if_neg z], by rw [wipe_get, if_neg z]⟩
  · rw [if_neg hw] at q
    exact q.elim
/-- a comprehension's tests -/
structure DTs (X : Cx) (ct : CT) (Wx : WX) (ifs : List Expr) (t : Ms → Rz Bool) : Prop where
  pt : PTs X ifs (tT X.K ct Wx t)
theorem dts_nil : DTs X ct Wx [] (fun _ => .ok true) := ⟨⟨fun pins s σ H Q I ⟨B, Fz, m, r, q⟩ => pts_nil.run pins s σ H Q I (q H Fz .refl r)⟩⟩
theorem dts_one {c : Expr} {t : Ms → Rz Bool} (h : DT X ct Wx c t) : DTs X ct Wx [c] t := ⟨pts_one h.pt⟩
abbrev W0 : WX := fun _ _ _ _ => False
theorem de_lc {elt : Expr} {ifs : List Expr} {scope : Scope} {own : List (Str × Nat)} {f : Ms → Rz (List PyData)} {s : PyData → Ms → Option Ms} {t : Ms → Rz Bool} {e : Ms → Rz PyData} (hN : X.N.Nodup) (hi : DI X ct Wx tg iter f) (ok : BlkOk X.N X.env.scope scope own)
    (hg : ∀ (s' : Shared) (H : Hp) (C : Addr) (cl : List (Str × Addr)) (fp : List Addr), DG (X.blk s' H scope (compEnvC scope cl C X.env) fp) tg (own.map (·.2)) s)
    (ht : ∀ (s' : Shared) (H : Hp) (C : Addr) (cl : List (Str × Addr)) (fp : List Addr), DTs (X.blk s' H scope (compEnvC scope cl C X.env) fp) ct W0 ifs t)
    (he : ∀ (s' : Shared) (H : Hp) (C : Addr) (cl : List (Str × Addr)) (fp : List Addr), DV (X.blk s' H scope (compEnvC scope cl C X.env) fp) ct W0 elt e) (hc : X.calm = true := by rfl) (hs : ∀ x, foldedSetIterable iter X.env x = pure x := by intro _; rfl) :
    DE X ct Wx (.ListComp elt [⟨tg, iter, ifs, 0⟩] scope pos) (eLc (own.map (·.2)) f s t e) :=
  ⟨⟨fun pins s0 σ H Q I w => (pe_lc hc hN hi.pi ok (fun s' H C cl fp => (hg s' H C cl fp).pg) (fun s' H C cl fp => (ht s' H C cl fp).pt) (fun s' H C cl fp => (he s' H C cl fp).pe) hs).run pins s0 σ H Q I (lc_sound ((hg s0 H 0 [] []).off) w)⟩⟩
/-- name = [..] on one line -/
theorem ds_lc {elt : Expr} {ifs : List Expr} {scope : Scope} {own : List (Str × Nat)} {f : Ms → Rz (List PyData)} {s : PyData → Ms → Option Ms} {t : Ms → Rz Bool} {e : Ms → Rz PyData} {y : Str} {py spos : Pos} (i : Nat) (hN : X.N.Nodup) (hi : DI X ct Wx tg iter f) (ok : BlkOk X.N X.env.scope scope own)
    (hg : ∀ (s' : Shared) (H : Hp) (C : Addr) (cl : List (Str × Addr)) (fp : List Addr), DG (X.blk s' H scope (compEnvC scope cl C X.env) fp) tg (own.map (·.2)) s)
    (ht : ∀ (s' : Shared) (H : Hp) (C : Addr) (cl : List (Str × Addr)) (fp : List Addr), DTs (X.blk s' H scope (compEnvC scope cl C X.env) fp) ct W0 ifs t)
    (he : ∀ (s' : Shared) (H : Hp) (C : Addr) (cl : List (Str × Addr)) (fp : List Addr), DV (X.blk s' H scope (compEnvC scope cl C X.env) fp) ct W0 elt e)
    (hk : X.env.scope.kind = .function := by rfl) (hl : (py.line == pos.line) = true := by rfl) (ha : (scope.names.any fun (n, k) => n == y && (k == .local || k == .cell)) = false := by rfl)
    (hy : X.N[i]? = some y := by rfl) (hyl : X.env.scope.names.lookup y = some .local := by rfl) (hc : X.calm = true := by rfl) (hs : ∀ x, foldedSetIterable iter X.env x = pure x := by intro _; rfl)
    (hsp : spos.line = pos.line := by rfl) :
    DS X ct Wx (.Assign [.Name y py] (.ListComp elt [⟨tg, iter, ifs, 0⟩] scope pos) spos) (sSet i (eLc (own.map (·.2)) f s t e)) :=
  ⟨⟨fun pins s0 σ0 H0 D0 I0 w0 => (ds_setc i (ps_setLc hc hN hy hyl (by rw [hsp]; exact sw_true hk hyl hl ha) hi.pi ok (fun s' H C cl fp => (hg s' H C cl fp).pg) (fun s' H C cl fp => (ht s' H C cl fp).pt) (fun s' H C cl fp => (he s' H C cl fp).pe) hs) fun σ H Q w => lc_sound ((hg s0 H 0 [] []).off) w).ps.run pins s0 σ0 H0 D0 I0 w0⟩⟩
end
end Dl
set_option Elab.async false
set_option linter.all false
set_option maxRecDepth 100000
/-! D9: enumerate, zip, ranges with a step. -/
namespace Dl
open PySem PySem.Spec PyProof.Rows L2
set_option maxHeartbeats 1000000 in
theorem meets_enum1 {v : Value} {o : Obj} {H : Heap → Prop} (B : Begins v o H) :
    Meets (Builtin.«enumerate.__new__» ⟨[.type "enumerate", v], []⟩) (fun _ R s => H s.heap ∧
      R (.ok (.ret (.ref (s.heap.push o).objs.size))) { s with heap := (s.heap.push o).push { cls := .type "enumerate", data := .fields #[.none, .bool false, .ref s.heap.objs.size, rawInt 0, .none, .none] } }) :=
  .of_wp fun prog w A R s h => by
    obtain ⟨hp, g, d, tk, os⟩ := s; obtain ⟨h1, h⟩ := h
    have hsub := sub_enumerate
    have q1 : ∀ {A' : Around} {E : Value → Shared → Prop} {Q : Value → Shared → Prop}, Q (.ref hp.objs.size) ⟨hp.push o, g, d, tk, os⟩ → wpAny (model prog w) A' (pyIter v) Q E ⟨hp, g, d, tk, os⟩ :=
      fun q => B.iter prog w _ _ ⟨hp, g, d, tk, os⟩ _ h1 q
    wp_walk using q1
    refine wpAny_stack_any fun st => wpAny_pure ?_
    split
    · rename_i c _ _ _ _ _
      cases (c == Value.type "enumerate")
      · wp_walk using q1
        exact ⟨_, rfl, h⟩
      · wp_walk using q1
        exact ⟨_, rfl, h⟩
    · wp_walk using q1
      exact ⟨_, rfl, h⟩
section
variable {prog : Program} {w : World} {A : Around} {E : Value → Shared → Prop} {s : Shared}
theorem enum_begins1 {v : Value} {o : Obj} {H : Heap → Prop} {Q : Value → Shared → Prop} (B : Begins v o H) (h1 : H s.heap)
    (h : ∀ h', IsEnum h' (s.heap.objs.size + 1) s.heap.objs.size 0 .none → h'.get? s.heap.objs.size = some o → h'.objs.size = s.heap.objs.size + 2 →
      (∀ b o, s.heap.get? b = some o → h'.get? b = some o) → Q (.ref (s.heap.objs.size + 1)) { s with heap := h' }) :
    wpAny (model prog w) A (call (.type "enumerate") [v]) Q E s := by
  refine callType_new F.called_enumerate (by decide) (F.typeCall_enumerate_1 _) (F.newCall_enumerate_1 _) (fun obj => F.args_object_init_2 obj _) F.entry_enumerate_new (meets_enum1 B) ⟨h1, ?_⟩
  have hz : (s.heap.push o).objs.size = s.heap.objs.size + 1 := Heap.size_push ..
  show _ ∧ _
  rw [hz]
  have he : IsEnum ((s.heap.push o).push { cls := .type "enumerate", data := .fields #[.none, .bool false, .ref s.heap.objs.size, rawInt 0, .none, .none] }) (s.heap.objs.size + 1) s.heap.objs.size 0 .none := by
    have := Heap.get?_push_size (s.heap.push o) (o := { cls := .type "enumerate", data := .fields #[.none, .bool false, .ref s.heap.objs.size, rawInt 0, .none, .none] }) rfl
    rw [hz] at this; exact this
  exact ⟨⟨_, he, rfl⟩, h _ he (Heap.get?_push_of_some _ (Heap.get?_push_size _ B.free)) (by rw [Heap.size_push, hz]) fun b o x => Heap.get?_push_of_some _ (Heap.get?_push_of_some _ x)⟩
end
/-- the tuple at a as it stands, each item in a new pair -/
def ItT (K : PySem.W.Frag) (a : Addr) : It :=
  ⟨fun i H => ∃ (xs : List V) (x : V), SqT K H a xs ∧ xs[i]? = some x, fun i H v H' => ∃ T x, v = .ref T ∧ H T = none ∧ H' = upd H T (.tup [.int (i : Nat), x]) ∧ ∀ xs, SqT K H a xs → xs[i]? = some x, fun i H => ∃ xs : List V, SqT K H a xs ∧ xs.length = i⟩
theorem turn_enumT {P : Program} {w : World} {K : PySem.W.Frag} {elts : List Expr} {kk : Nat} {tpos : Pos} (a e it : Addr) :
    Turn P w K (.Tuple elts kk tpos) (ItT K a) [e, it] e (fun i h => (∃ old, IsEnum h e it ((i : Nat) : Int) old) ∧ h.IsTupleIter it a i ∧ e ≠ it) where
  mem := by simp
  obj := fun i h st b hb => by
    obtain ⟨⟨old, he⟩, ⟨o, ho, hc, hd⟩, _⟩ := st
    have e' : b = e ∨ b = it := by simpa using hb
    rcases e' with z | z
    · rw [z]; exact ⟨_, he, fun v q => nomatch q⟩
    · rw [z]; exact ⟨o, ho, fun v q => by rw [hd] at q; cases q⟩
  keep := fun i h h' st k => let ⟨⟨old, he⟩, hi, hne⟩ := st; ⟨⟨old, k e (by simp) _ he⟩, hi.at fun o q => k it (by simp) o q, hne⟩
  item := by
    intro X hP hw hK hc i pins s σ H E I hf st hg
    subst hP hw hK
    obtain ⟨⟨old, he⟩, hit, hne⟩ := st
    obtain ⟨xs, x, hq, hx⟩ := hg
    obtain ⟨its, rv, p, hz⟩ := I.tuple hq
    obtain ⟨u, hu, ru⟩ := rv.get hx
    have p' : s.heap.IsTuple a its.toArray := p
    have hai : a ≠ it := fun z => by
      obtain ⟨o, h1, h2, _⟩ := p'
      obtain ⟨o', h3, h4, _⟩ := hit
      rw [z, h3] at h1; cases h1
      rw [h4] at h2; exact absurd h2 (by decide)
    have hae : e ≠ a := fun z => by
      obtain ⟨o, h1, h2, _⟩ := p'
      have he' : s.heap.get? e = some _ := he
      rw [← z, he'] at h1; cases h1
      exact absurd (show Value.type "enumerate" = Value.type "tuple" from h2) (by decide)
    have D := Draws.tuple (prog := X.prog) (w := X.w) (A := X.A.in1) (I.ok.hd hc) it a hai its.toArray
    have hel : e < s.heap.objs.size := Heap.lt_size he
    have hil : it < s.heap.objs.size := by obtain ⟨_, q, _⟩ := hit; exact Heap.lt_size q
    have hlt : i < its.toArray.size := by
      have := (List.getElem?_eq_some_iff.mp hu).1
      simpa using this
    refine wpAny_pyNext_enum_itemD D he ⟨hit, p'⟩ hlt hne (by simp [hne, hae]) fun x' h' tk hP ho hst' hT hsz hk => ?_
    have ex : x' = u := by
      have hP : its.toArray[i]? = some x' := hP
      have : its[i]? = some x' := by simpa using hP
      rw [hu] at this; cases this; rfl
    subst ex
    obtain ⟨hit', _⟩ := hst'
    refine ⟨_, rfl, wpAny_letOwnedTupleGo_enum (s := { s with heap := h', toks := tk + 1 }) ho fun h'' he' sb => ?_⟩
    have hT2 : h''.get? s.heap.objs.size = some { cls := .type "tuple", data := .seq #[.int i tk, x'] } := (sb.2 _ (Nat.ne_of_gt hel)).trans hT
    have new : ObjOk X.prog X.w (upd H s.heap.objs.size (.tup [.int (i : Nat), x])) h'' s.heap.objs.size (.tup [.int (i : Nat), x]) :=
      ⟨by show 2 ≤ sizeLine; decide, [.int i tk, x'], .cons ⟨_, rfl⟩ (.cons ru .nil), ⟨_, hT2, rfl, _, rfl⟩⟩
    have I1 : Inv X pins σ (upd H s.heap.objs.size (.tup [.int (i : Nat), x])) { s with heap := h'', toks := tk + 1 } :=
      I.turnedNew (ch := [e, it]) (fun b ob hb q => (sb.2 b (fun z => hb (by simp [z]))).trans (hk b ob (fun z => hb (by simp [z])) (fun z => hb (by simp [z])) q)) hf (Nat.le_refl _) new
    refine ⟨.ref s.heap.objs.size, _, I1, rfl, ⟨_, x, rfl, I.hok.fresh (Nat.le_refl _), rfl, fun ys hy => by rw [I.tuple_inj hy hq]; exact hx⟩, ⟨⟨x', ?_⟩, hit'.at fun o q => (sb.2 it (Ne.symm hne)).trans q, hne⟩, fun b hb => ?_⟩
    · have e1 : ((i + 1 : Nat) : Int) = (i : Int) + 1 := by omega
      rw [e1]; exact he'
    · have hb' : b < s.heap.objs.size := by
        have e' : b = e ∨ b = it := by simpa using hb
        rcases e' with z | z
        · rw [z]; exact hel
        · rw [z]; exact hil
      rw [upd_ne (Nat.ne_of_lt hb')]
      exact (hf b hb).1
  done := by
    intro X hP hw hK hc i pins s σ H E I hf st hg
    subst hP hw hK
    obtain ⟨⟨old, he⟩, hit, hne⟩ := st
    obtain ⟨xs, hq, hx⟩ := hg
    obtain ⟨its, rv, p, hz⟩ := I.tuple hq
    have p' : s.heap.IsTuple a its.toArray := p
    have hai : a ≠ it := fun z => by
      obtain ⟨o, h1, h2, _⟩ := p'
      obtain ⟨o', h3, h4, _⟩ := hit
      rw [z, h3] at h1; cases h1
      rw [h4] at h2; exact absurd h2 (by decide)
    obtain ⟨f0, f1, f2, f3, f4, f5⟩ := hf it (by simp)
    have hl := rv.length
    have D := Draws.tuple (prog := X.prog) (w := X.w) (A := X.A.in1) (I.ok.hd hc) it a hai its.toArray
    have hn : its.toArray.size = i := by rw [List.size_toArray]; omega
    exact wpAny_pyNext_enum_endD D he (show _ ∧ _ from by rw [hn]; exact ⟨hit, p'⟩) fun h' eb => ⟨rfl, I.turned (t' := s.toks) (fun b o hb q => eb b o hb q) f0 f1 f3 f4 f5⟩
  self := fun A i s Q E st h => let ⟨⟨_, he⟩, _⟩ := st; wpAny_pyIter_enum he h
def iEnumT (K : PySem.W.Frag) (ta : TA) : TI := fun σ H R => ta σ H fun vs H1 => ∃ a xs, vs = [.ref a] ∧ ((SqL K H1 a xs ∧ R (Ite K a) H1) ∨ (SqT K H1 a xs ∧ R (ItT K a) H1))
section
variable {X : Cx} {ct : CT} {Wx : WX} {e e2 a b c : Expr} {p pos tpos : Pos} {elts : List Expr} {kk : Nat} {K : PySem.W.Frag} {Fz : Addr → Prop} {H : Hp} {tg : Expr}
theorem pi_enumA {ta : TA} (hg : Gl X "enumerate") (hm : X.mg "enumerate" = none) (ha : PA X [e] ta) (hs : starEach [e] X.env = [(false, eval e X.env)] := by rfl) :
    PI X (.Tuple elts kk tpos) (.Call (.Name "enumerate" p) [e] [] pos) (iEnumT X.K ta) := by
  refine ⟨fun pins s σ H R I h => ?_⟩
  refine Call_ (ld_blt I hg hm boot_enumerate (PyProof.Rows.callWith_type1 (thn (ha.run pos pins s σ H _ I h) fun us s1 ⟨vs, H1, I1, r1, q1⟩ => ?_) hs rfl))
  obtain ⟨a, xs, ex, q⟩ := q1
  subst ex
  cases r1 with
  | cons r rr =>
    cases rr
    cases r
    have fresh : ∀ b, b ∈ [s1.heap.objs.size + 1, s1.heap.objs.size] → FpOk X pins H1 b := fun b hb => by
      have e' : b = s1.heap.objs.size + 1 ∨ b = s1.heap.objs.size := by simpa using hb
      have hle : s1.heap.objs.size ≤ b := by
        rcases e' with z | z
        · rw [z]; exact Nat.le_add_right _ _
        · rw [z]; exact Nat.le_refl _
      exact I1.fpOk hle (I1.hok.fresh hle)
    rcases q with ⟨hq, q⟩ | ⟨hq, q⟩
    · obtain ⟨its, rv, p', hz⟩ := I1.list hq
      refine call_enumerate_list p'.isList fun h' he hit hsz hk => wpAny_pyIter_enum he ?_
      have I2 : Inv X pins σ H1 { s1 with heap := h' } := I1.kept (t' := s1.toks) hk
      exact ⟨s1.heap.objs.size + 1, [s1.heap.objs.size + 1, s1.heap.objs.size], _, _, H1, rfl, I2, turn_enum a (s1.heap.objs.size + 1) s1.heap.objs.size, ⟨⟨.none, he⟩, hit, Nat.succ_ne_self _⟩, fresh, q⟩
    · obtain ⟨its, rv, p', hz⟩ := I1.tuple hq
      refine enum_begins1 (begins_tuple a its.toArray) p' fun h' he hit hsz hk => wpAny_pyIter_enum he ?_
      have I2 : Inv X pins σ H1 { s1 with heap := h' } := I1.kept (t' := s1.toks) hk
      exact ⟨s1.heap.objs.size + 1, [s1.heap.objs.size + 1, s1.heap.objs.size], _, _, H1, rfl, I2, turn_enumT a (s1.heap.objs.size + 1) s1.heap.objs.size, ⟨⟨.none, he⟩, ⟨_, hit, rfl, rfl⟩, Nat.succ_ne_self _⟩, fresh, q⟩
/-! the rules -/
def enumFrom (i : Nat) : List PyData → List PyData
  | [] => []
  | x :: r => .tuple [.int (i : Nat), x] :: enumFrom (i + 1) r
theorem enumFrom_len : ∀ (xs : List PyData) (i : Nat), (enumFrom i xs).length = xs.length
  | [], _ => rfl
  | x :: r, i => by rw [enumFrom, List.length_cons, List.length_cons, enumFrom_len]
theorem enumFrom_get : ∀ (xs : List PyData) (i j : Nat), (enumFrom i xs)[j]? = (xs[j]?).map fun x => .tuple [.int ((i + j : Nat) : Int), x]
  | [], _, _ => by simp [enumFrom]
  | x :: r, i, 0 => by simp [enumFrom]
  | x :: r, i, j + 1 => by
    rw [enumFrom, List.getElem?_cons_succ, List.getElem?_cons_succ, enumFrom_get]
    have : i + 1 + j = i + (j + 1) := by omega
    rw [this]
def enumD : List PyData → Rz (List PyData)
  | [.list xs] => .ok (enumFrom 0 xs)
  | [.tuple xs] => .ok (enumFrom 0 xs)
  | _ => .st
theorem enum_ok {g : Addr → List V → Prop} {J : It} {vs : List V} {ds : List PyData} {sq : Hp → Prop} (hs : ∀ Fz' H', Le Fz H Fz' H' → (sq H' ∧ RpAll K Fz' H' vs ds))
    (h1 : ∀ H' i, sq H' → i < vs.length → J.go i H') (h2 : ∀ H', sq H' → J.stop vs.length H')
    (h3 : ∀ H' i v H'', sq H' → J.yld i H' v H'' → ∃ T x, v = .ref T ∧ H' T = none ∧ H'' = upd H' T (.tup [.int (i : Nat), x]) ∧ vs[i]? = some x) : ItOk K Fz H J (enumFrom 0 ds) := fun Fz' H' l => by
  obtain ⟨sq, r⟩ := hs Fz' H' l
  rw [enumFrom_len, ← r.length]
  refine ⟨fun i hi => h1 H' i sq hi, h2 H' sq, fun i x v H'' hx hy => ?_⟩
  obtain ⟨T, y, rfl, hT, rfl, hg⟩ := h3 H' i v H'' sq hy
  rw [enumFrom_get] at hx
  obtain ⟨d, hd, rd⟩ := r.get hg
  rw [hd] at hx
  cases hx
  refine ⟨.inr ⟨T, _, hT, rfl⟩, .tup upd_same (.cons (by rw [Nat.zero_add]; exact .int _) (.cons (rd.mono ⟨fun _ z => z, fun a o q _ => same_new hT a o q⟩) .nil))⟩
theorem di_enum {f : Ms → Rz PyData} (ha : DA X ct Wx [e] [f]) (hm : X.mg "enumerate" = none) (hg : Gl X "enumerate" := by rfl) (hs : starEach [e] X.env = [(false, eval e X.env)] := by rfl) : DI X ct Wx (.Tuple elts kk tpos) (.Call (.Name "enumerate" p) [e] [] pos) (iArg enumD [f]) :=
  ⟨PI_imp (pi_fin (pi_enumA hg hm ha.pa hs)) fun σ H R w => tAv_to (g := enumD) w (fun B Fz m x xs v H' r hx rv hk => by
    unfold enumD at hx
    split at hx
    · cases hx
      obtain ⟨u, rfl, ru⟩ := rv.one
      cases ru with
      | @lst a vs ds f hq ra =>
        refine ⟨a, vs, rfl, .inl ⟨.inl (.inl hq), fun hl _ => hk _ (enum_ok (g := fun _ _ => True) (vs := vs) (sq := fun H' => SqL X.K H' a vs) (fun F2 H2 l => ⟨.inl (.inl (l.hp a _ hq (.inl f))), ra.mono l⟩) (fun H' i sq hi => ⟨vs, vs[i], sq, List.getElem?_eq_getElem hi⟩) (fun H' sq => ⟨vs, sq, Nat.le_refl _⟩) fun H' i v H'' sq ⟨T, x, h1, h2, h3, h4⟩ => ⟨T, x, h1, h2, h3, h4 vs sq⟩) (by rw [enumFrom_len, ← ra.length]; exact hl _ _ (.inl (.inl hq)))⟩⟩
    · cases hx
      obtain ⟨u, rfl, ru⟩ := rv.one
      obtain ⟨a, vs, rfl, hq, ra⟩ := ru.tupE
      · refine ⟨a, vs, rfl, .inr ⟨hq, fun _ ht => hk _ (enum_ok (g := fun _ _ => True) (vs := vs) (sq := fun H' => SqT X.K H' a vs) (fun F2 H2 l => ⟨sqT_le l hq, ra.mono l⟩) (fun H' i sq hi => ⟨vs, vs[i], sq, List.getElem?_eq_getElem hi⟩) (fun H' sq => ⟨vs, sq, rfl⟩) fun H' i v H'' sq ⟨T, x, h1, h2, h3, h4⟩ => ⟨T, x, h1, h2, h3, h4 vs sq⟩) (by rw [enumFrom_len, ← ra.length]; exact ht _ _ hq)⟩⟩
    · cases hx) fun x c => by unfold enumD; split <;> simp⟩
def zipL : List PyData → List PyData → List PyData
  | x :: xs, y :: ys => .tuple [x, y] :: zipL xs ys
  | _, _ => []
theorem zipL_len : ∀ (xs ys : List PyData), (zipL xs ys).length = min xs.length ys.length
  | [], ys => by simp [zipL]
  | _ :: _, [] => by simp [zipL]
  | x :: xs, y :: ys => by rw [zipL, List.length_cons, zipL_len, List.length_cons, List.length_cons]; omega
theorem zipL_get : ∀ (xs ys : List PyData) (i : Nat), (zipL xs ys)[i]? = (xs[i]?).bind fun x => (ys[i]?).map fun y => .tuple [x, y]
  | [], ys, i => by simp [zipL]
  | x :: xs, [], i => by
    cases h : (x :: xs)[i]? <;> simp [zipL, h]
  | x :: xs, y :: ys, 0 => by simp [zipL]
  | x :: xs, y :: ys, i + 1 => by
    rw [zipL, List.getElem?_cons_succ, List.getElem?_cons_succ, List.getElem?_cons_succ, zipL_get]
def zipD : List PyData → Rz (List PyData)
  | [.list xs, .list ys] => .ok (zipL xs ys)
  | [.tuple xs, .tuple ys] => .ok (zipL xs ys)
  | _ => .st
theorem zip_ok {J : It} {vs us : List V} {ds es : List PyData} {sq : Hp → Prop} (hs : ∀ Fz' H', Le Fz H Fz' H' → (sq H' ∧ RpAll K Fz' H' vs ds ∧ RpAll K Fz' H' us es))
    (h1 : ∀ H' i, sq H' → i < vs.length → i < us.length → J.go i H') (h2 : ∀ H' i, sq H' → (vs.length ≤ i ∨ us.length ≤ i) → J.stop i H')
    (h3 : ∀ H' i v H'', sq H' → J.yld i H' v H'' → ∃ T x y, v = .ref T ∧ H' T = none ∧ H'' = upd H' T (.tup [x, y]) ∧ vs[i]? = some x ∧ us[i]? = some y) : ItOk K Fz H J (zipL ds es) := fun Fz' H' l => by
  obtain ⟨sq, r, r'⟩ := hs Fz' H' l
  rw [zipL_len, ← r.length, ← r'.length]
  refine ⟨fun i hi => h1 H' i sq (by omega) (by omega), h2 H' _ sq (by omega), fun i x v H'' hx hy => ?_⟩
  obtain ⟨T, y, z, rfl, hT, rfl, hg, hz⟩ := h3 H' i v H'' sq hy
  rw [zipL_get] at hx
  obtain ⟨d, hd, rd⟩ := r.get hg
  obtain ⟨d2, hd2, rd2⟩ := r'.get hz
  rw [hd, hd2] at hx
  cases hx
  have lt : Le Fz' H' Fz' (upd H' T (.tup [y, z])) := ⟨fun _ z => z, fun a o q _ => same_new hT a o q⟩
  exact ⟨.inr ⟨T, _, hT, rfl⟩, .tup upd_same (.cons (rd.mono lt) (.cons (rd2.mono lt) .nil))⟩
theorem di_zip {f g : Ms → Rz PyData} (ha : DA X ct Wx [e, e2] [f, g]) (hm : X.mg "zip" = none) (hg : Gl X "zip" := by rfl)
    (hs : starEach [e, e2] X.env = (false, eval e X.env) :: starEach [e2] X.env := by rfl) (hpl : (backTo pos (starEach [e2] X.env)).any (·.1) = false := by rfl) : DI X ct Wx (.Tuple elts kk tpos) (.Call (.Name "zip" p) [e, e2] [] pos) (iArg zipD [f, g]) :=
  ⟨PI_imp (pi_fin (RZ.pi_zipA hg hm ha.pa hs hpl)) fun σ H R w => tAv_to (g := zipD) w (fun B Fz m x xs v H' r hx rv hk => by
    unfold zipD at hx
    split at hx
    · cases hx
      obtain ⟨u, u2, rfl, ru, ru2⟩ := rv.two
      cases ru with
      | @lst a vs ds f hq ra =>
        cases ru2 with
        | @lst b ws es f2 hq2 ra2 =>
          refine ⟨a, b, vs, ws, rfl, .inl ⟨.inl (.inl hq), .inl (.inl hq2), fun hl _ => hk _ (zip_ok (vs := vs) (us := ws) (sq := fun H' => SqL X.K H' a vs ∧ SqL X.K H' b ws) (fun F2 H2 l => ⟨⟨.inl (.inl (l.hp a _ hq (.inl f))), .inl (.inl (l.hp b _ hq2 (.inl f2)))⟩, ra.mono l, ra2.mono l⟩) (fun H' i sq hi hj => ⟨vs, ws, vs[i], ws[i], sq.1, sq.2, List.getElem?_eq_getElem hi, List.getElem?_eq_getElem hj⟩) (fun H' i sq h => ⟨vs, ws, sq.1, sq.2, h⟩)
            fun H' i v H'' sq ⟨T, x, y, h1, h2, h3, h4, h5⟩ => ⟨T, x, y, h1, h2, h3, h4 vs sq.1, h5 ws sq.2⟩) (by rw [zipL_len]; have := hl _ _ (.inl (.inl hq)); have := ra.length; omega)⟩⟩
    · cases hx
      obtain ⟨u, u2, rfl, ru, ru2⟩ := rv.two
      obtain ⟨a, vs, rfl, hq, ra⟩ := ru.tupE
      obtain ⟨b, ws, rfl, hq2, ra2⟩ := ru2.tupE
      · · refine ⟨a, b, vs, ws, rfl, .inr ⟨hq, hq2, fun _ hl => hk _ (zip_ok (vs := vs) (us := ws) (sq := fun H' => SqT X.K H' a vs ∧ SqT X.K H' b ws) (fun F2 H2 l => ⟨⟨sqT_le l hq, sqT_le l hq2⟩, ra.mono l, ra2.mono l⟩) (fun H' i sq hi hj => ⟨vs, ws, vs[i], ws[i], sq.1, sq.2, List.getElem?_eq_getElem hi, List.getElem?_eq_getElem hj⟩) (fun H' i sq h => ⟨vs, ws, sq.1, sq.2, h⟩)
            fun H' i v H'' sq ⟨T, x, y, h1, h2, h3, h4, h5⟩ => ⟨T, x, y, h1, h2, h3, h4 vs sq.1, h5 ws sq.2⟩) (by rw [zipL_len]; have := hl _ _ hq; have := ra.length; omega)⟩⟩
    · cases hx) fun x c => by unfold zipD; split <;> simp⟩
/-- range(i, j, -1) -/
def rngDn (lo : Int) (n : Nat) : List PyData := (List.range n).map fun (i : Nat) => .int (lo - i)
noncomputable def rng3 : List PyData → Rz (List PyData)
  | [.int i, .int j, .int c] => if c = -1 ∧ rngOk j i = true then .ok (rngDn i (i - j).toNat) else .st
  | _ => .st
theorem itc_ok {lo : Int} {n : Nat} : ItOk K Fz H (Itc lo (-1) n) (rngDn lo n) := fun Fz' H' l => by
  have hn : (rngDn lo n).length = n := by simp [rngDn]
  refine ⟨fun i hi => by rw [hn] at hi; exact hi, by rw [hn]; exact Nat.le_refl _, fun i x v H'' hx hy => ?_⟩
  obtain ⟨e, hv⟩ := hy
  subst e hv
  unfold rngDn at hx
  rw [List.getElem?_map] at hx
  cases z : (List.range n)[i]? with
  | none => rw [z] at hx; cases hx
  | some j =>
    rw [z] at hx
    have : j = i := by
      obtain ⟨h1, h2⟩ := List.getElem?_eq_some_iff.mp z
      rw [← h2]; simp
    subst this
    cases hx
    have : lo + (j : Nat) * -1 = lo - (j : Nat) := by omega
    rw [this]
    exact ⟨.inl rfl, .int _⟩
theorem RpAll.three {v : List V} {x y z : PyData} (r : RpAll K Fz H v [x, y, z]) : ∃ u w t, v = [u, w, t] ∧ Rp K Fz H u x ∧ Rp K Fz H w y ∧ Rp K Fz H t z := by
  cases r with | cons r z => cases z with | cons r' z => cases z with | cons r'' z => cases z; exact ⟨_, _, _, rfl, r, r', r''⟩
theorem di_range3 {f g h : Ms → Rz PyData} (ha : DA X ct Wx [a, b, c] [f, g, h]) (hm : X.mg "range" = none) (hg : Gl X "range" := by rfl) (hs : starEach [a, b, c] X.env = (false, eval a X.env) :: starEach [b, c] X.env := by rfl) (hpl : (backTo pos (starEach [b, c] X.env)).any (·.1) = false := by rfl) :
    DI X ct Wx tg (.Call (.Name "range" p) [a, b, c] [] pos) (iArg rng3 [f, g, h]) :=
  ⟨PI_imp (pi_range3 hg hm ha.pa hs hpl) fun σ H R w => tAv_to (g := rng3) w (fun B Fz m x xs v H' r hx rv hk => by
    unfold rng3 at hx
    split at hx
    · split at hx
      · rename_i i j c hh
        obtain ⟨hc, ok⟩ := hh
        subst hc
        cases hx
        obtain ⟨u1, u2, u3, rfl, r1, r2, r3⟩ := rv.three
        cases r1
        cases r2
        cases r3
        rw [rngOk_iff] at ok
        exact ⟨i, j, -1, (i - j).toNat, rfl, RgC.neg ok.2.2.1 ok.2.2.2.1 ok.1 ok.2.1, hk _ itc_ok (by simp only [rngDn, List.length_map, List.length_range]; rw [sizeLine_eq]; have := ok.2.2.2.2; omega)⟩
      · cases hx
    · cases hx) fun x c => by
      unfold rng3
      split
      · split <;> simp
      · simp⟩
end
end Dl
set_option Elab.async false
set_option linter.all false
set_option maxRecDepth 100000
/-! D10: defs, calls, exceptions, the script, appending. -/
namespace Dl
open PySem PySem.Spec PyProof.Rows L2

/-! ### what a def computes -/
/-- the promise of a def: F by what its parameters are -/
def spW (ct : CT) (K : PySem.W.Frag) (n : Nat) (F : Ms → Rz PyData) : Sp := fun vs H Q E => ∃ Fz m, vs.length = n ∧ (∀ a, Fz a → H a ≠ none) ∧ RL K Fz H (vs.map some) m [] ∧ match F m with
  | .st => False
  | .ok x => ∀ v H' Fz', Same H H' → Ext H Fz Fz' → (∀ a, Fz' a → H' a ≠ none) → Rp K Fz' H' v x → Q v H'
  | .ex c => ∀ H' Fz', Same H H' → Ext H Fz Fz' → (∀ a, Fz' a → H' a ≠ none) → E (ct c) Option.none H'
/-- the body's answer: N slots in all -/
def fnW (N : Nat) (g : Ms → Fl) : Ms → Rz PyData := fun m => match g (m ++ List.replicate (N - m.length) none) with
  | .nx _ => .ok .none
  | .rt x => .ok x
  | .ex c _ => .ex c
  | _ => .st
def fnD (N : Nat) (g : Ms → Fl) : List PyData → Rz PyData := fun ds => fnW N g (ds.map fun x => some (.d x))
section
variable {P : Program} {w : World} {K : PySem.W.Frag} {mg : Str → Option Value} {base : Heap} {ct : CT}
theorem RL.pad {Fz : Addr → Prop} {H : Hp} {σ : L2.St} {m : Ms} {fp : List Addr} (k : Nat) (h : RL K Fz H σ m fp) : RL K Fz H (σ ++ List.replicate k none) (m ++ List.replicate k none) fp := by
  have z : RL K Fz H (List.replicate k none) (List.replicate k none) [] := by
    induction k with
    | zero => exact .nil
    | succ k ih => rw [List.replicate_succ, List.replicate_succ]; exact .no ih
  have := RL.glue h z
  rwa [List.append_nil] at this
/-- a def by its body -/
theorem fn_body {x qual : Str} {st : Stmt} {f : Addr} {fd : FuncData} {N ps : List Str} {k : Nat} {g : Ms → Fl} (F : Fun K x qual st f fd) (S : FnScope N ps (defScope st))
    (hb : ∀ (cdv : Value) (A : Around) (outer : List Env) (s : Shared) (H : Hp) (E : XK), Room k (A.deeper (envOfC qual (defScope st) s.heap.objs.size f cdv)) →
      DSs (cxOf (L2.CX P w) P w K mg base N qual (defScope st) f cdv A outer s H E) ct (fun cls d _ H => E cls d H) (defBody st) g) : FnOk P w K mg base (L2.CX P w) (k + 1) f fd ps (spW ct K ps.length (fnW N.length g)) := by
  refine F.okX S (fun vs H Q E ⟨Fz, m, h, _⟩ => h) fun cdv A outer s H vs Q E hr ⟨Fz, m, hl, hz, h, q⟩ => ⟨_, (hb cdv A outer s H E hr).ps, ?_⟩
  have hm : vs.length = m.length := by rw [← h.length, List.length_map]
  refine tS_iff.mpr ⟨H, Fz, m ++ List.replicate (N.length - m.length) none, ⟨[], ?_, List.nodup_nil, fun a ha => absurd ha (List.not_mem_nil), fun _ _ z => z, hz⟩, ?_⟩
  · unfold L2.start
    rw [hm]
    exact h.pad _
  · unfold fnW at q
    cases hg : g (m ++ List.replicate (N.length - m.length) none) with
    | st => rw [hg] at q; exact q
    | bk _ => rw [hg] at q; exact q.elim
    | ct _ => rw [hg] at q; exact q.elim
    | nx m' => rw [hg] at q; exact fun σ' H' Fz' x r => q .non H' Fz' (fun a o e => r.base a o e) x r.fzn .non
    | rt y => rw [hg] at q; exact fun v H' Fz' x ⟨σ', m', r⟩ p => q v H' Fz' (fun a o e => r.base a o e) x r.fzn p
    | rq _ => rw [hg] at q; exact q.elim
    | ex c m' => rw [hg] at q; exact fun σ' H' Fz' x r => q H' Fz' (fun a o e => r.base a o e) x r.fzn
/-- a def that may be called by its name -/
structure CallW (P : Program) (w : World) (K : PySem.W.Frag) (mg : Str → Option Value) (base : Heap) (ct : CT) (k : Nat) (x : Str) (n : Nat) (F : Ms → Rz PyData) : Prop where
  ex : ∃ f fd ps, FnOk P w K mg base (L2.CX P w) k f fd ps (spW ct K n F) ∧ mg x = some (.ref f) ∧ PySem.W.keepIn K (.ref f) = true ∧ Binds K fd ps []
/-- what the program's text gives of a def -/
structure DefD (K : PySem.W.Frag) (mg : Str → Option Value) (x : Str) (st : Stmt) (ps : List Str) : Prop where
  ex : ∃ f fd, Fun K x x st f fd ∧ mg x = some (.ref f) ∧ Binds K fd ps []
theorem callW_of {x : Str} {st : Stmt} {N ps : List Str} {k n np : Nat} {g : Ms → Fl} (D : DefD K mg x st ps) (S : FnScope N ps (defScope st)) (hn : N.length = n) (hp : ps.length = np)
    (hb : ∀ (f : Addr) (cdv : Value) (A : Around) (outer : List Env) (s : Shared) (H : Hp) (E : XK), Room k (A.deeper (envOfC x (defScope st) s.heap.objs.size f cdv)) →
      DSs (cxOf (L2.CX P w) P w K mg base N x (defScope st) f cdv A outer s H E) ct (fun cls d _ H => E cls d H) (defBody st) g) : CallW P w K mg base ct (k + 1) x np (fnW n g) := by
  obtain ⟨f, fd, F, hm, hb'⟩ := D.ex
  subst hn hp
  exact ⟨f, fd, ps, fn_body F S (hb f), hm, F.kp, hb'⟩
end
section
variable {X : Cx} {ct : CT} {Wx : WX} {e e2 a b c : Expr} {es : List Expr} {p pos : Pos} {x : Str}
/-- a call of a def, data given -/
def vFn (F : Ms → Rz PyData) (fs : List (Ms → Rz PyData)) : Ms → Rz PyData := fun m => (evalAllD fs m).bind fun xs => F (xs.map fun x => some (.d x))
theorem RL.ofAll {K : PySem.W.Frag} {Fz : Addr → Prop} {H : Hp} : ∀ {vs : List V} {xs : List PyData}, RpAll K Fz H vs xs → RL K Fz H (vs.map some) (xs.map fun x => some (.d x)) []
  | _, _, .nil => .nil
  | _, _, .cons r rs => .so (f := []) (.d r) (RL.ofAll rs)
theorem ext_base {B H : Hp} {Fz Fz' : Addr → Prop} (h : ∀ a o, B a = some o → H a = some o) (x : Ext H Fz Fz') : Ext B Fz Fz' := ⟨x.le, fun a ha => (x.new a ha).imp id fun z => by
  cases q : B a with
  | none => rfl
  | some o => rw [h a o q] at z; cases z⟩
theorem fn_end {K : PySem.W.Frag} {F : Ms → Rz PyData} {n : Nat} {B H : Hp} {Fz : Addr → Prop} {σ : L2.St} {m ma : Ms} {vs : List V} {Q : VK} (hl : vs.length = n) (r : Rs K B Fz H σ m) (ra : RL K Fz H (vs.map some) ma [])
    (q : match F ma with
      | .st => False
      | .ok a => ∀ v H' Fz', Ext B Fz Fz' → Rs K B Fz' H' σ m → Rp K Fz' H' v a → Q v H'
      | .ex c => ∀ H' Fz', Ext B Fz Fz' → Rs K B Fz' H' σ m → Wx (ct c) Option.none σ H') : spW ct K n F vs H Q (WE Wx σ) := by
  refine ⟨Fz, ma, hl, r.fzn, ra, ?_⟩
  cases hf : F ma with
  | st => rw [hf] at q; exact q
  | ok y => rw [hf] at q; exact fun v H' Fz' sm x nz rp => q v H' Fz' (ext_base r.base x) (r.grow sm x nz) rp
  | ex c => rw [hf] at q; exact fun H' Fz' sm x nz => q H' Fz' (ext_base r.base x) (r.grow sm x nz)
theorem dv_call {k j n : Nat} {F : Ms → Rz PyData} {fs : List (Ms → Rz PyData)} (c : CallW X.prog X.w X.K X.mg X.base ct k x n F) (hr : Room j X.A) (hk : k ≤ j) (tk : Takes X Wx) (ha : DA X ct Wx (e :: es) fs) (hn : (e :: es).length = n := by rfl) (hg : Gl X x := by rfl)
    (hdb : (x == ("__debug__" : Str)) = false := by decide) (he : starEach (e :: es) X.env = (false, eval e X.env) :: starEach es X.env := by rfl) (hpl : (backTo pos (starEach es X.env)).any (·.1) = false := by rfl) (hfl : fs.length = (e :: es).length := by rfl) :
    DV X ct Wx (.Call (.Name x p) (e :: es) [] pos) (vFn F fs) := by
  obtain ⟨f, fd, ps, hf, hm, hkp, hb⟩ := c.ex
  refine ⟨PE_imp (pe_callS hf (hr.mono hk) hg hm hkp hb (fun σ => passAt tk σ) ha.pa hdb he hpl) fun σ H Q ⟨B, Fz, m, r, q⟩ => ⟨B, Fz, m, r, ?_⟩⟩
  unfold vFn at q
  cases hf : evalAllD fs m with
  | st => rw [hf] at q; exact q
  | ex c => rw [hf] at q; exact q
  | ok xs =>
    rw [hf, Rz.bind_ok] at q
    intro vs H1 F1 x1 r1 p1
    have lens : ∀ (fs : List (Ms → Rz PyData)) (xs : List PyData), evalAllD fs m = .ok xs → xs.length = fs.length := by
      intro fs
      induction fs with
      | nil => intro xs h; cases h; rfl
      | cons f fs ih =>
        intro xs h
        unfold evalAllD at h
        cases hf : f m with
        | st => rw [hf] at h; cases h
        | ex c => rw [hf] at h; cases h
        | ok x =>
          rw [hf, Rz.bind_ok] at h
          cases hs : evalAllD fs m with
          | st => rw [hs] at h; cases h
          | ex c => rw [hs] at h; cases h
          | ok ys => rw [hs] at h; cases h; simp [ih _ hs]
    refine fn_end (by rw [p1.length, lens _ _ hf, hfl]; exact hn) r1 (RL.ofAll p1) ?_
    cases hF : F (xs.map fun x => some (.d x)) with
    | st => rw [hF] at q; exact q
    | ok y => rw [hF] at q; exact fun v H' F' x r p => q v H' F' (x1.trans x) ⟨r, p⟩
    | ex c => rw [hF] at q; exact fun H' F' x r => q H' F' (x1.trans x) r

/-! ### the script -/
/-- f(script, e) -/
def rAt (i : Nat) (m : Ms) : Option (List Int) := match m[i]? with
  | some (some (.r ns)) => some ns
  | _ => none
theorem rAt_some {i : Nat} {m : Ms} {ns : List Int} (h : rAt i m = some ns) : m[i]? = some (some (.r ns)) := by
  unfold rAt at h
  split at h
  · rename_i e; cases h; exact e
  · cases h
def vFnR (F : Ms → Rz PyData) (i : Nat) (f : Ms → Rz PyData) : Ms → Rz PyData := fun m => match rAt i m with
  | some ns => (f m).bind fun x => F [some (.r ns), some (.d x)]
  | none => .st
theorem dv_callR {k j : Nat} {F : Ms → Rz PyData} {f : Ms → Rz PyData} {y : Str} {p2 : Pos} (i : Nat) (c : CallW X.prog X.w X.K X.mg X.base ct k x 2 F) (hr : Room j X.A) (hk : k ≤ j) (tk : Takes X Wx) (hb : DV X ct Wx e f) (hN : X.N[i]? = some y := by rfl)
    (hv : Vis X.env.scope y := by first | exact Or.inl rfl | exact Or.inr (Or.inl rfl) | exact Or.inr (Or.inr rfl)) (hd : (y == ("__debug__" : Str)) = false := by decide) (hcd : (y == ("__classdict__" : Str)) = false := by decide) (hg : Gl X x := by rfl)
    (hdb : (x == ("__debug__" : Str)) = false := by decide) (he : starEach [.Name y p2, e] X.env = (false, eval (.Name y p2) X.env) :: starEach [e] X.env := by rfl) (hpl : (backTo pos (starEach [e] X.env)).any (·.1) = false := by rfl) (hes : starEach [e] X.env = (false, eval e X.env) :: starEach [] X.env := by rfl) :
    DV X ct Wx (.Call (.Name x p) [.Name y p2, e] [] pos) (vFnR F i f) := by
  obtain ⟨f0, fd, ps, hf, hm, hkp, hbd⟩ := c.ex
  refine ⟨PE_imp (pe_callS hf (hr.mono hk) hg hm hkp hbd (fun σ => passAt tk σ) (pa_cons (pe_var hN hv hd hcd) (pa_cons hb.pe pa_nil hes) he) hdb he hpl) fun σ H Q ⟨B, Fz, m, r, q⟩ => ?_⟩
  unfold vFnR at q
  cases hi : rAt i m with
  | none => rw [hi] at q; exact q.elim
  | some ns =>
    rw [hi] at q
    dsimp only at q
    obtain ⟨a, h1, h2, h3⟩ := r.getR (rAt_some hi)
    refine ⟨.ref a, h1, ?_⟩
    show tV X.K ct Wx f σ H _
    refine tV_then r ?_
    cases hf : f m with
    | st => rw [hf] at q; exact q
    | ex c => rw [hf] at q; exact q
    | ok z =>
      rw [hf, Rz.bind_ok] at q
      intro v H1 F1 x1 r1 l1 p1
      have ra : RL X.K F1 H1 ([V.ref a, v].map some) [some (.r ns), some (.d z)] [] := .so (f := []) (h3.mono l1 fun a ha => absurd ha List.not_mem_nil) (.so (f := []) (.d p1) .nil)
      refine fn_end rfl r1 ra ?_
      cases hF : F [some (.r ns), some (.d z)] with
      | st => rw [hF] at q; exact q
      | ok y => rw [hF] at q; exact fun v H' F' x r p => q v H' F' (x1.trans x) ⟨r, p⟩
      | ex c => rw [hF] at q; exact fun H' F' x r => q H' F' (x1.trans x) r

/-- script[:k] -/
def eScr (i : Nat) (k : Int) : Ms → Rz W := fun m => match rAt i m with
  | some ns => .ok (.l ((cutL ns none (some k)).map .int))
  | none => .st
theorem cut_ints {ns : List Int} {k : Int} : cutV (ns.map V.int) none (some k) = (cutL ns none (some k)).map V.int := by
  unfold cutV cutL
  rw [List.length_map, List.map_take, List.map_drop]
theorem de_scr {y : Str} {p2 p3 p4 : Pos} {k : Int} {kk : Nat} (i : Nat) (hN : X.N[i]? = some y := by rfl)
    (hv : Vis X.env.scope y := by first | exact Or.inl rfl | exact Or.inr (Or.inl rfl) | exact Or.inr (Or.inr rfl)) (hd : (y == ("__debug__" : Str)) = false := by decide) (hcd : (y == ("__classdict__" : Str)) = false := by decide) :
    DE X ct Wx (.Subscript (.Name y p2) (.Slice none (some (.Constant (.int k) kk p3)) none p4) pos) (eScr i k) := ⟨PE_imp (pe_slice sl_list (pe_var hN hv hd hcd) po_none (po_some pe_int)) fun σ H Q ⟨B, Fz, m, r, q⟩ => by
  unfold eScr at q
  cases hi : rAt i m with
  | none => rw [hi] at q; exact q.elim
  | some ns =>
    rw [hi] at q
    obtain ⟨a, h1, h2, h3⟩ := r.getR (rAt_some hi)
    refine ⟨.ref a, h1, k, rfl, a, _, rfl, h2, fun p hp => q _ _ Fz .refl ?_⟩
    rw [cut_ints]
    exact r.newLst hp (RpAll.of_ints _)⟩
/-- what a slot's own list holds -/
def lAt (i : Nat) (m : Ms) : Option (List PyData) := match m[i]? with
  | some (some (.l xs)) => some xs
  | _ => none
theorem lAt_some {i : Nat} {m : Ms} {xs : List PyData} (h : lAt i m = some xs) : m[i]? = some (some (.l xs)) := by
  unfold lAt at h
  split at h
  · rename_i e; cases h; exact e
  · cases h
/-- name.append(e) -/
def sApp (i : Nat) (f : Ms → Rz PyData) : Ms → Fl := fun m => match lAt i m with
  | some xs => flE f (fun x m => if xs.length < 16777216 then .nx (m.set i (some (.l (xs ++ [x])))) else .st) m
  | none => .st
theorem ds_app {y : Str} {p2 apos cpos : Pos} {f : Ms → Rz PyData} (i : Nat) (ha : DA X ct Wx [e] [f]) (hN : X.N[i]? = some y := by rfl)
    (hv : Vis X.env.scope y := by first | exact Or.inl rfl | exact Or.inr (Or.inl rfl) | exact Or.inr (Or.inr rfl)) (hd : (y == ("__debug__" : Str)) = false := by decide) (hcd : (y == ("__classdict__" : Str)) = false := by decide)
    (hbase : attributeBase (.Name y p2) "append" X.env (eval (.Name y p2) X.env) = eval (.Name y p2) X.env := by rfl)
    (hfew : ((backTo cpos (starEach [e] X.env)).all (fun x => !x.1) && (backToKw cpos (keywordEach [] X.env)).all (fun x => x.1.isSome)
      && decide (([e] : List Expr).length + ([] : List Keyword).length + (if ([] : List Keyword).isEmpty then 0 else 1) < 30)) = true := by rfl)
    (hline : (apos.endLine == cpos.line) = true := by rfl) (hs : starEach [e] X.env = (false, eval e X.env) :: starEach [] X.env := by rfl) (hplain : (backTo cpos (starEach [] X.env)).any (·.1) = false := by rfl)
    (hsw : swapsWith (.Call (.Attribute (.Name y p2) "append" apos) [e] [] cpos) none pos.line X.env = pure false := by rfl) :
    DS X ct Wx (.Expr (.Call (.Attribute (.Name y p2) "append" apos) [e] [] cpos) pos) (sApp i f) :=
  ds_of (ps_expr (pe_bm PySem.F.plainAttrs_list PySem.F.slot_list_append PySem.F.type_list_append mt_append (pe_var hN hv hd hcd) ha.pa hbase hfew hline hs hplain) hsw) fun D σ H B Fz m h q => by
    unfold sApp at q
    cases hi : lAt i m with
    | none => rw [hi] at q; exact q.elim
    | some xs =>
      rw [hi] at q
      have q : EndS X.K ct Wx B Fz D (flE f (fun x m => if xs.length < 16777216 then .nx (m.set i (some (.l (xs ++ [x])))) else .st) m) := q
      obtain ⟨a, vs, h1, h2, h3, _⟩ := h.getL (lAt_some hi)
      refine ⟨.ref a, h1, .inl ⟨rfl, _, .inl (.inl h2)⟩, B, Fz, m, h, ?_⟩
      unfold flE at q
      unfold evalAllD
      cases hf : f m with
      | st => rw [hf] at q; exact q
      | ex c => rw [hf] at q; exact fun H' F' x r => q σ H' F' x r
      | ok z =>
        rw [hf] at q
        have q : EndS X.K ct Wx B Fz D (if xs.length < 16777216 then .nx (m.set i (some (.l (xs ++ [z])))) else .st) := q
        intro us H1 F1 x1 r1 p1
        obtain ⟨u, rfl, pu⟩ := RpAll.one p1
        obtain ⟨a', vs', g1, g2, g3, g4⟩ := r1.write i (lAt_some hi)
        rw [h1] at g1; cases g1
        split at q
        · rename_i hlt
          refine ⟨a, vs', u, rfl, rfl, g2, by rw [g3.length, sizeLine_eq]; omega, q σ _ F1 x1 (g4 _ _ (g3.append (.cons pu .nil)))⟩
        · exact q.elim

end
end Dl
set_option Elab.async false
set_option linter.all false
set_option maxRecDepth 100000
/-! D11: exceptions. -/
namespace Dl
open PySem PySem.Spec PyProof.Rows L2
def sRaise (c : Nat) : Ms → Fl := fun m => .ex c m
/-- what the text gives of an own exception class -/
structure ExcD (K : PySem.W.Frag) (mg : Str → Option Value) (ct : CT) (c : Nat) (x : Str) : Prop where
  ex : ∃ C, ct c = .ref C ∧ PySem.W.excIn K C [.type "ValueError", .type "Exception", .type "BaseException", .type "object"] "ValueError.__new__" = true ∧ mg x = some (.ref C) ∧ PySem.W.keepIn K (.ref C) = true ∧
    PySem.W.subIn K (.ref C) (.type "BaseException") = some true ∧ PySem.W.typeIn K (.ref C) = some (.type "type")
section
variable {X : Cx} {ct : CT} {Wx : WX} {p p2 pos pos' : Pos} {x : Str}
theorem ds_raise {c j : Nat} {m : Str} (E : ExcD X.K X.mg ct c x) (tk : Takes X Wx) (hc : X.calm = true := by rfl) (hg : Gl X x := by rfl) (hdb : (x == ("__debug__" : Str)) = false := by decide) :
    DS X ct Wx (.Raise (some (.Call (.Name x p) [.Constant (.str m) j p2] [] pos)) none pos') (sRaise c) := by
  obtain ⟨C, e, h1, h2, h3, h4, h5⟩ := E.ex
  refine ds_of (ps_raise hc tk (pmk_own PySem.F.excBase_ValueError h1 h2 h3 (raises_own h4 h5) hg hdb)) fun D σ H B Fz m h q => ?_
  have q : ∀ σ' H' Fz', Ext B Fz Fz' → Rs X.K B Fz' H' σ' m → Wx (ct c) Option.none σ' H' := q
  rw [e] at q
  exact q σ H Fz .refl h

/-! ### try -/
def noEx : Fl → Fl
  | .ex _ _ => .st
  | o => o
def goTry : List ((Nat → Option Bool) × (Ms → Fl)) → Nat → Ms → Fl
  | [], c, m => .ex c m
  | (p, s) :: r, c, m => match p c with
    | some true => noEx (s m)
    | some false => goTry r c m
    | none => .st
def sTry (g : Ms → Fl) (hs : List ((Nat → Option Bool) × (Ms → Fl))) : Ms → Fl := fun m => match g m with
  | .ex c m' => goTry hs c m'
  | o => o
inductive DHs (X : Cx) (ct : CT) : List ExceptHandler → List (Value × (Nat → Option Bool) × (Ms → Fl)) → Prop
  | nil : DHs X ct [] []
  | cons {x : Str} {c : Value} {pt : Nat → Option Bool} {s : Ms → Fl} {b₀ : Stmt} {suite : List Stmt} {np pos' : Pos} {hds : List ExceptHandler} {l : List (Value × (Nat → Option Bool) × (Ms → Fl))} (hc : Names X x c)
      (hp : ∀ n b, pt n = some b → PySem.W.exmOne X.K (ct n) c = some b)
      (hs : ∀ (a : Addr) (oe : Obj) (pn : List (Addr × Obj)), DSs (X.suite a ((a, oe) :: pn)) ct W0 (b₀ :: suite) s) (r : DHs X ct hds l) :
      DHs X ct (.ExceptHandler (some (.Name x np)) none (b₀ :: suite) pos' :: hds) ((c, pt, s) :: l)
def hdT (K : PySem.W.Frag) (ct : CT) (l : List (Value × (Nat → Option Bool) × (Ms → Fl))) : List (Value × (Addr → Value → Option Addr → TS)) := l.map fun z => (z.1, fun _ _ _ => tS K ct W0 z.2.2)
theorem DHs.ok {hds : List ExceptHandler} {l : List (Value × (Nat → Option Bool) × (Ms → Fl))} (h : DHs X ct hds l) : HdsOk X hds (hdT X.K ct l) := by
  induction h with
  | nil => exact .nil
  | cons hc hp hs r ih => exact .cons hc (fun a oe cls d pn _ _ => (hs a oe pn).ps) ih
theorem noEx_end {K : PySem.W.Frag} {B : Hp} {Fz : Addr → Prop} {D : Ends} {f : Fl} {Wy : WX} (h : EndS K ct Wx B Fz D (noEx f)) : EndS K ct Wy B Fz D f := by
  cases f with
  | ex c m => exact h.elim
  | _ => exact h
theorem DHs.many {hds : List ExceptHandler} {l : List (Value × (Nat → Option Bool) × (Ms → Fl))} (h : DHs X ct hds l) {c : Nat} {m : Ms} {D : Ends} {σ : L2.St} {H B : Hp} {Fz : Addr → Prop} (r : Rs X.K B Fz H σ m)
    (q : EndS X.K ct Wx B Fz D (goTry (l.map (·.2)) c m)) : wMany X.K Wx D (hdT X.K ct l) (ct c) none σ H := by
  induction h with
  | nil => exact q σ H Fz .refl r
  | @cons x cv pt s b₀ suite np pos' hds l hc hp hs r' ih =>
    rw [List.map_cons] at q
    unfold goTry at q
    cases hb : pt c with
    | none => rw [hb] at q; exact q.elim
    | some b =>
      rw [hb] at q
      refine ⟨b, hp c b hb, fun e a na => ?_, fun e => ?_⟩
      · subst e
        exact tS_iff.mpr ⟨B, Fz, m, r, noEx_end q⟩
      · subst e
        exact ih q
theorem ds_try {body : List Stmt} {h₀ : ExceptHandler} {hds : List ExceptHandler} {l : List (Value × (Nat → Option Bool) × (Ms → Fl))} {g : Ms → Fl} (tk : Takes X Wx)
    (hb : ∀ (W : WX) (pn : List (Addr × Obj)) (xe : Value → Shared → Prop), Takes (X.tr pn xe) W → PassesOwn (model X.prog X.w) X.A X.env xe → DSs (X.tr pn xe) ct W body g)
    (hh : DHs X ct (h₀ :: hds) l) (hs : X.stack = X.env :: X.outer := by rfl) (hf : X.env.frame = some X.env.locals := by rfl) : DS X ct Wx (.Try body (h₀ :: hds) [] [] pos) (sTry g (l.map (·.2))) :=
  ds_of (ps_try_many (tb := fun W => tS X.K ct W g) hs hf tk (fun W pn xe tk hp => (hb W pn xe tk hp).ps) hh.ok) fun D σ H B Fz m h q => by
    refine tS_iff.mpr ⟨B, Fz, m, h, ?_⟩
    unfold sTry at q
    cases hg : g m with
    | ex c m' =>
      rw [hg] at q
      exact fun σ' H' F' x r => hh.many r (EndS.ext x q)
    | _ => rw [hg] at q; exact q
/-! ### try: .. except X as e: return .. isinstance(e, Y) .. -/
def constV : PyData → Option V
  | .none => some .non
  | .bool b => some (.bl b)
  | .int i => some (.int i)
  | .str s => some (.str s)
  | _ => none
theorem constV_rp {K : PySem.W.Frag} {y : PyData} {u : V} (h : constV y = some u) {Fz : Addr → Prop} {H : Hp} : Rp K Fz H u y := by
  cases y with
  | none => cases h; exact .non
  | bool b => cases h; exact .bl b
  | int i => cases h; exact .int i
  | str s => cases h; exact .str s
  | _ => cases h
structure DIs (X : Cx) (ct : CT) (i : Nat) (ex : Expr) (v : Nat → Option PyData) : Prop where
  pe : ∀ (a : Addr) (oe : Obj) (cls : Value) (d : Option Addr) (pn : List (Addr × Obj)), Zc cls d oe → (∃ vs, oe.data = .fields vs) →
    PE (X.suite a ((a, oe) :: pn)) ex (fun σ H Q => d = none ∧ ∃ c y u, cls = ct c ∧ σ[i]? = some (some (V.ref a)) ∧ v c = some y ∧ constV y = some u ∧ Q u H)
def sTryIs (g : Ms → Fl) (i : Nat) (p : Nat → Option Bool) (v : Nat → Option PyData) : Ms → Fl := fun m => match g m with
  | .ex c m' => match p c with
    | some true => match v c with
      | some y => if i < m'.length ∧ (constV y).isSome = true then .rt y else .st
      | none => .st
    | some false => .ex c m'
    | none => .st
  | o => o
theorem ds_tryIs {body : List Stmt} {g : Ms → Fl} {cv : Value} {pt : Nat → Option Bool} {v : Nat → Option PyData} {n : Str} {ex : Expr} {np rpos hpos : Pos} (i : Nat) (tk : Takes X Wx) (hN : X.N.Nodup) (hc : Names X x cv) (hp : ∀ n b, pt n = some b → PySem.W.exmOne X.K (ct n) cv = some b)
    (hb : ∀ (W : WX) (pn : List (Addr × Obj)) (xe : Value → Shared → Prop), Takes (X.tr pn xe) W → PassesOwn (model X.prog X.w) X.A X.env xe → DSs (X.tr pn xe) ct W body g)
    (hx : DIs X ct i ex v) (hi : X.N[i]? = some n := by rfl) (hln : X.env.kindOf n = some .local := by rfl) (hs : X.stack = X.env :: X.outer := by rfl) (hf : X.env.frame = some X.env.locals := by rfl) :
    DS X ct Wx (.Try body [.ExceptHandler (some (.Name x np)) (some n) [.Return (some ex) rpos] hpos] [] [] pos) (sTryIs g i pt v) :=
  ds_of (ps_try_as (i := i) (tb := fun W => tS X.K ct W g) (ts := fun a cls d D σ H => d = none ∧ ∃ c y u, cls = ct c ∧ σ[i]? = some (some (V.ref a)) ∧ v c = some y ∧ constV y = some u ∧ D.rt u H) hs hf hN hi hln hc tk
      (fun W pn xe tk hp => (hb W pn xe tk hp).ps) (fun a oe cls d pn hz hd => pss_one (ps_ret (hx.pe a oe cls d pn hz hd)))) fun D σ H B Fz m h q => by
    refine tS_iff.mpr ⟨B, Fz, m, h, ?_⟩
    unfold sTryIs at q
    cases hg : g m with
    | ex c m' =>
      rw [hg] at q
      dsimp only at q
      intro σ' H' F' x r
      cases hb : pt c with
      | none => rw [hb] at q; exact q.elim
      | some b =>
        rw [hb] at q
        refine ⟨b, hp c b hb, fun e a na => ?_, fun e => ?_⟩
        · subst e
          dsimp only at q
          cases hv : v c with
          | none => rw [hv] at q; exact q.elim
          | some y =>
            rw [hv] at q
            dsimp only at q
            split at q
            · rename_i hl
              have q : ∀ v H' Fz', Ext B Fz Fz' → (∃ σ' m', Rs X.K B Fz' H' σ' m') → Rp X.K Fz' H' v y → D.rt v H' := q
              obtain ⟨hl, hy⟩ := hl
              cases hcu : constV y with
              | none => rw [hcu] at hy; cases hy
              | some u =>
                refine ⟨rfl, c, y, u, rfl, ?_, hv, hcu, q u H' F' x ⟨σ', m', r⟩ (constV_rp hcu)⟩
                rw [List.getElem?_set_self (by rw [r.lsz]; exact hl)]
            · exact q.elim
        · subst e
          exact q σ' H' F' x r
    | _ => rw [hg] at q; exact q
/-- isinstance(e, Y) -/
theorem dis_is {n y : Str} {i : Nat} {cv : Addr} {isT : Nat → Option Bool} {pn1 py : Pos} (hN : X.N[i]? = some n := by rfl) (hc : ∀ c b, isT c = some b → ∃ D, ct c = .ref D ∧ ExcC X.K D ∧ PySem.W.kitOne X.K (.ref D) (.ref cv) = some b) (hy : X.mg y = some (.ref cv)) (hmi : X.mg "isinstance" = none)
    (hv : Vis X.env.scope n := by first | exact Or.inl rfl | exact Or.inr (Or.inl rfl) | exact Or.inr (Or.inr rfl)) (hgy : Gl X y := by rfl) (hgi : Gl X "isinstance" := by rfl) (hd : (n == ("__debug__" : Str)) = false := by decide) (hcd : (n == ("__classdict__" : Str)) = false := by decide) (hdy : (y == ("__debug__" : Str)) = false := by decide)
    (he : starEach [.Name n pn1, .Name y py] X.env = (false, eval (.Name n pn1) X.env) :: starEach [.Name y py] X.env := by rfl) (he2 : starEach [.Name y py] X.env = (false, eval (.Name y py) X.env) :: starEach [] X.env := by rfl) (hpl : (backTo pos (starEach [.Name y py] X.env)).any (·.1) = false := by rfl) :
    DIs X ct i (.Call (.Name "isinstance" p) [.Name n pn1, .Name y py] [] pos) (fun c => (isT c).map .bool) := ⟨fun a oe cls d pn hz hf => ⟨fun pins s σ H Q I ⟨hd0, c, z, u, hcls, hσ, hv', hu, q⟩ => by
  subst hd0
  cases hb : isT c with
  | none => rw [hb] at hv'; cases hv'
  | some b =>
    rw [hb] at hv'
    cases hv'
    cases hu
    obtain ⟨D, e1, e2, e3⟩ := hc c b hb
    rw [e1] at hcls
    subst hcls
    refine (pe_callB (X := X.suite a ((a, oe) :: pn)) (call_isE (pn := pn) e2 hz hf) hgi hmi (by rfl) (pa_cons (pe_var hN hv hd hcd) (pa_cons (pe_glob (v := V.ref cv) hgy hy rfl hdy) pa_nil he2) he) (by decide) (by decide) he hpl).run pins s σ H Q I ?_
    exact ⟨.ref a, hσ, .ref cv, .ref cv, b, rfl, fun u r => by cases r; rfl, e3, q⟩⟩⟩
end
end Dl
set_option Elab.async false
set_option linter.all false
set_option maxRecDepth 100000
/-! D12: sorted(set(..)) of tuples of ints; is None. -/
namespace Dl
open PySem PySem.Spec PyProof.Rows L2
section
variable {P : Program} {w : World} {A : Around} {E : Value → Shared → Prop} {s : Shared}
/-- the set's first object -/
abbrev freshSet (w : World) : Obj := { cls := .type "set", dict := none, data := .set #[] 0 (.fresh 0 0 (!w.params.followText "set-order")) }
set_option maxHeartbeats 3200000 in
/-- set of a tuple of tuples of ints -/
theorem set_tupT {l : Addr} {items : Array Value} (ks : List (Addr × List Int)) {Q : Value → Shared → Prop} (hh : A.handled = none) (hl : s.heap.IsTuple l items) (hit : items.toList = ks.map fun p => Value.ref p.1) (hk : ∀ p ∈ ks, IsT P w s.heap p.2 p.1) (hfew : ks.length < 64) (hu : A.units + 3 < cLine)
    (h : ∀ (h' : Heap) (tk : Nat) L es ep t, SetTR P w h' s.heap.objs.size L es ep t → Got ks ks.length L → (∀ b o, s.heap.get? b = some o → h'.get? b = some o) → Q (.ref s.heap.objs.size) { s with heap := h', toks := tk }) : wpAny (model P w) A (call (.type "set") [.ref l]) Q E s := by
  have isz : items.size = ks.length := by rw [← Array.length_toList, hit, List.length_map]
  obtain ⟨c, tl, hmro⟩ := F.called_set.mro
  have made := F.called_set.made
  have sub := F.called_set.sub
  refine wpAny_call (codeAny_of_tree ?_)
  show wpAny _ _ (callAny (.type "set") _) _ _ _
  refine wpAny_pure ⟨Code.quiet_builtin _ (by decide +kernel), codeAny_builtin F.entry_type_call ?_⟩
  rw [Around.under_plain (weight_type_call_type "set" [.ref l] []) rfl]
  have nt := F.called_set.notType
  have cc := F.called_set.canCreate
  have tc := F.typeCall_set_1 (.ref l)
  repeat (any_goals (first | assumption | wp_step))
  refine codeAny_mono (code_set_led1 (.ref l) (E := E) (Q₁ := fun ob s1 => ob = .ref s.heap.objs.size ∧ s1 = { s with heap := s.heap.push (freshSet w) }) ⟨rfl, rfl⟩) fun r s1 hr => ?_
  match r, hr with
  | .error e, hr => exact hr
  | .ok (.ret ob), hr =>
    obtain ⟨rfl, rfl⟩ := hr
    have gS : (s.heap.push (freshSet w)).get? s.heap.objs.size = some (freshSet w) := Heap.get?_push_size _ rfl
    have ty : Shared.TypeIs { s with heap := s.heap.push (freshSet w) } (.ref s.heap.objs.size) "set" := ⟨_, gS, rfl⟩
    have il := F.called_set.init.lookup
    have ib := F.called_set.init.bind (.ref s.heap.objs.size)
    repeat (any_goals (first | assumption | wp_step))
    refine codeAny_mono (codeAny_call_builtin (R := wants (fun r s2 => r = .none ∧ ∃ h' tk L es ep t, s2 = { s with heap := h', toks := tk } ∧ SetTR P w h' s.heap.objs.size L es ep t ∧ Got ks ks.length L ∧ (∀ b o, s.heap.get? b = some o → h'.get? b = some o)) E) F.called_set.init.plain F.entry_set_init (check_set_init_1 ty ?_)) fun r2 s2 hr2 => ?_
    · have ltS : l < s.heap.objs.size := by obtain ⟨_, z, _⟩ := id hl; exact Heap.lt_size z
      obtain ⟨⟨oc, od, odt, osl⟩, ho, hc, nl, hd⟩ := id hl
      simp only at hc hd
      subst hc; subst hd
      have ho' : (s.heap.push (freshSet w)).get? l = some { cls := .type "tuple", dict := od, data := .seq items nl, slots := osl } := Heap.get?_push_of_some _ ho
      have s1 := F.sub_tuple_set
      have s2 := F.sub_tuple_frozenset
      have nd : (Value.type "tuple" == Value.type "dict") = false := by decide
      have il1 : (s.heap.push (freshSet w)).IsTuple l items := ⟨_, ho', rfl, nl, rfl⟩
      unfold Builtin.«set.__init__» noKeywords Builtin.Frozenset.updateFrom
      generalize hPI : pyIter = PI
      wp_walk
      subst hPI
      refine wpAny_pyIter_tuple il1 (wpAny_bind (wpAny_runValue ?_))
      have ha : A.in1.in1.in1.handled = none := by simp [hh]
      have szS : (s.heap.push (freshSet w)).objs.size = s.heap.objs.size + 1 := Heap.size_push ..
      have ne1 : l ≠ (s.heap.push (freshSet w)).objs.size := by rw [szS]; exact Nat.ne_of_lt (Nat.lt_succ_of_lt ltS)
      have nin : s.heap.objs.size ∉ [(s.heap.push (freshSet w)).objs.size, l] := by
        rw [szS]
        intro z
        rcases List.mem_cons.mp z with z | z
        · exact absurd z (Nat.ne_of_lt (Nat.lt_succ_self _))
        · exact absurd (List.mem_singleton.mp z).symm (Nat.ne_of_lt ltS)
      have gone : ∀ b, s.heap.objs.size ≤ b → s.heap.get? b = none := fun b hb => by
        cases q : s.heap.get? b with
        | none => rfl
        | some o => exact absurd (Heap.lt_size q) (Nat.not_lt_of_le hb)
      refine set_update_tups ((Walks.tuple ha (s.heap.push (freshSet w)).objs.size l ne1 items).toS) s.heap.objs.size nin ks isz hfew (fun i v hv => ?_) s.heap hk (gone _ (Nat.le_refl _)) (fun b hb => gone b (by rw [List.mem_singleton.mp hb, szS]; exact Nat.le_succ _)) hu items.size 0 _ (by omega) (Nat.zero_le _)
        ⟨⟨_, Heap.get?_push_size _ rfl, rfl, rfl⟩, il1.at fun o q => Heap.get?_push_of_some _ q⟩ (fun b o e => Heap.get?_push_of_some _ (Heap.get?_push_of_some _ e)) ⟨[], #[], 0, _, setTR_fresh (Heap.get?_push_of_some _ gS), Got.zero ks⟩ fun s' L es ep t hm hS' g' hkp => ?_
      · have q : items.toList[i]? = some v := by rw [Array.getElem?_toList]; exact hv
        rw [hit, List.getElem?_map] at q
        cases hq : ks[i]? with
        | none => rw [hq] at q; cases q
        | some p => rw [hq] at q; exact ⟨p, rfl, (Option.some.inj q).symm⟩
      · obtain ⟨h', g2, d', tk', os'⟩ := s'
        obtain rfl : g2 = s.gens := hm.gens
        obtain rfl : d' = s.drawn := hm.drawn
        obtain rfl : os' = s.os := hm.os
        show wpAny _ _ _ _ _ _
        refine wpAny_pure ?_
        show wpAny _ _ (ret Value.none) _ _ _
        rw [isz] at g'
        exact wpAny_pure ⟨rfl, h', tk', L, es, ep, t, rfl, hS', g', hkp⟩
    · match r2, hr2 with
      | .error e, hr2 => exact hr2
      | .ok (.ret r), hr2 =>
        obtain ⟨rfl, h', tk, L, es, ep, t, rfl, hS', g', hk'⟩ := hr2
        repeat (any_goals (first | assumption | wp_step))
        exact h _ _ _ _ _ _ hS' g' hk'
end
section
variable {X : Cx} {ct : CT} {Wx : WX} {e : Expr} {p p2 pos pos2 : Pos}
/-- set(xs), xs a list or a tuple of tuples of ints -/
def rSetA (K : PySem.W.Frag) (P : Program) (w : World) : List V → Hp → VK → Prop := fun xs H Q => ∃ (l : Addr) (ks : List (Addr × List Int)), xs = [V.ref l] ∧ (SqL K H l (ks.map fun p => V.ref p.1) ∨ SqT K H l (ks.map fun p => V.ref p.1)) ∧ (∀ p ∈ ks, SqT K H p.1 (p.2.map V.int)) ∧ ks.length < 64 ∧
  ∀ a L, H a = none → (∀ p ∈ L, p ∈ ks) → (∀ p ∈ ks, p.2 ∈ L.map (·.2)) → Q (.ref a) (upd H a (SetTO P w a L))
theorem cr_setA (hc : X.calm = true) (hu : X.A.units + 64 < cLine) : CallR X (.type "set") (rSetA X.K X.prog X.w) := by
  intro pins s σ H xs us Q I r ⟨l, ks, ex, hl, hk, hf, q⟩
  rcases hl with hl | hl
  · exact cr_setOfT hc hu pins s σ H xs us Q I r ⟨l, ks, ex, hl, hk, hf, q⟩
  · subst ex
    rw [Vals.ref1 r]
    obtain ⟨its, rv, pl, hz⟩ := I.tuple hl
    refine set_tupT (P := X.prog) (w := X.w) ks (I.ok.hd hc) (show s.heap.IsTuple l its.toArray from pl) (by simpa using refs_of_vals rv) (fun p hp => I.isT (hk p hp)) hf (by omega) fun h' tk L es ep t R g k => ?_
    exact ⟨.ref s.heap.objs.size, upd H s.heap.objs.size (SetTO X.prog X.w s.heap.objs.size L), I.laid (t' := tk) k (Nat.le_refl _) (setTO_new R.t0), rfl, q _ L (I.hok.fresh (Nat.le_refl _)) (fun p hp => List.mem_of_mem_take (g.sub p hp)) fun p hp => g.all p (by rw [List.take_length]; exact hp)⟩
end
end Dl
set_option Elab.async false
set_option linter.all false
set_option maxRecDepth 100000
/-! D13: sorted(set(..)), is None. -/
namespace Dl
open PySem PySem.Spec PyProof.Rows L2
/-- rows of ints -/
def rowsD : List PyData → Option (List (List Int))
  | [] => some []
  | .tuple xs :: r => (intsOf xs).bind fun n => (rowsD r).map (n :: ·)
  | _ :: _ => none
def rowT (ns : List Int) : PyData := .tuple (ns.map .int)
theorem rowsD_eq : ∀ {xs : List PyData} {R : List (List Int)}, rowsD xs = some R → xs = R.map rowT
  | [], R, h => by cases h; rfl
  | x :: r, R, h => by
    cases x with
    | tuple ys =>
      unfold rowsD at h
      cases hy : intsOf ys with
      | none => rw [hy] at h; cases h
      | some n =>
        rw [hy, Option.bind_some] at h
        cases hr : rowsD r with
        | none => rw [hr] at h; cases h
        | some k =>
          rw [hr] at h
          cases h
          rw [rowsD_eq hr, intsOf_eq hy]; rfl
    | _ => cases h
@[simp] theorem rowsD_map : ∀ R : List (List Int), rowsD (R.map rowT) = some R
  | [] => rfl
  | n :: R => by simp [rowsD, rowT, ← List.map_map, rowsD_map R]
/-- in order, each once -/
def insC (B : Int) (x : List Int) : List (List Int) → List (List Int)
  | [] => [x]
  | y :: r => if x = y then y :: r else if TS.code B x ≤ TS.code B y then x :: y :: r else y :: insC B x r
def ssort (B : Int) (R : List (List Int)) : List (List Int) := R.foldr (insC B) []
theorem insC_mem {B : Int} {x z : List Int} : ∀ {R : List (List Int)}, z ∈ insC B x R ↔ z = x ∨ z ∈ R
  | [] => by simp [insC]
  | y :: r => by
    unfold insC
    split
    · rename_i h; subst h; simp
    · split
      · simp
      · rw [List.mem_cons, insC_mem, List.mem_cons]
        constructor
        · rintro (h | h | h) <;> simp [h]
        · rintro (h | h | h) <;> simp [h]
theorem ssort_mem {B : Int} {z : List Int} : ∀ {R : List (List Int)}, z ∈ ssort B R ↔ z ∈ R
  | [] => by simp [ssort]
  | y :: r => by
    show z ∈ insC B y (ssort B r) ↔ _
    rw [insC_mem, ssort_mem, List.mem_cons]
theorem code_bd {B : Int} (hB : 0 < B) : ∀ {r : List Int}, TS.Bd B r → 0 ≤ TS.code B r ∧ TS.code B r < B ^ r.length
  | [], _ => by simp [TS.code]
  | d :: r, h => by
    obtain ⟨a, b⟩ := code_bd hB h.tail
    have := TS.num1 a b h.head.1 h.head.2
    show 0 ≤ d * B ^ r.length + TS.code B r ∧ d * B ^ r.length + TS.code B r < B ^ (r.length + 1)
    rw [Int.pow_succ]
    exact this
theorem code_inj {B : Int} (hB : 0 < B) : ∀ {r t : List Int}, TS.Bd B r → TS.Bd B t → r.length = t.length → TS.code B r = TS.code B t → r = t
  | [], [], _, _, _, _ => rfl
  | [], _ :: _, _, _, h, _ => by simp at h
  | _ :: _, [], _, _, h, _ => by simp at h
  | d :: r, e :: t, h1, h2, hl, hc => by
    have hl' : r.length = t.length := by simpa using hl
    have hc' : d * B ^ r.length + TS.code B r = e * B ^ t.length + TS.code B t := hc
    rw [← hl'] at hc'
    obtain ⟨a1, a2⟩ := code_bd hB h1.tail
    obtain ⟨b1, b2⟩ := code_bd hB h2.tail
    rw [← hl'] at b2
    have hP : 0 < B ^ r.length := by omega
    generalize B ^ r.length = P at *
    have hde : d = e := by
      rcases Int.lt_trichotomy d e with z | z | z
      · have : (d + 1) * P ≤ e * P := Int.mul_le_mul_of_nonneg_right (by omega) (by omega)
        rw [Int.add_mul] at this; omega
      · exact z
      · have : (e + 1) * P ≤ d * P := Int.mul_le_mul_of_nonneg_right (by omega) (by omega)
        rw [Int.add_mul] at this; omega
    subst hde
    rw [code_inj hB h1.tail h2.tail hl' (by omega)]
/-- rows that may be sorted: d ints each, within [0, B) -/
def rowsOk (B : Int) (R : List (List Int)) : Bool := decide (R.length < 64) && R.all fun r => decide (r.length = (R.headD [0]).length) && decide (1 ≤ r.length) && r.all fun m => decide (0 ≤ m ∧ m < B)
theorem insC_pw {B : Int} {x : List Int} : ∀ {R : List (List Int)}, R.Pairwise (fun q r => TS.code B q < TS.code B r) → (∀ y ∈ R, TS.code B x = TS.code B y → x = y) → (insC B x R).Pairwise (fun q r => TS.code B q < TS.code B r)
  | [], _, _ => by simp [insC]
  | y :: r, h, hi => by
    unfold insC
    rw [List.pairwise_cons] at h
    split
    · rw [List.pairwise_cons]; exact h
    · rename_i hne
      split
      · rename_i hle
        have hlt : TS.code B x < TS.code B y := by
          have : TS.code B x ≠ TS.code B y := fun e => hne (hi y (by simp) e)
          omega
        rw [List.pairwise_cons, List.pairwise_cons]
        refine ⟨fun z hz => ?_, h⟩
        rcases List.mem_cons.mp hz with e | hz
        · subst e; exact hlt
        · exact Int.lt_trans hlt (h.1 z hz)
      · rename_i hle
        rw [List.pairwise_cons]
        refine ⟨fun z hz => ?_, insC_pw h.2 fun w hw => hi w (List.mem_cons_of_mem _ hw)⟩
        rcases insC_mem.mp hz with e | hz
        · subst e; omega
        · exact h.1 z hz
theorem ssort_pw {B : Int} : ∀ {R : List (List Int)}, (∀ x ∈ R, ∀ y ∈ R, TS.code B x = TS.code B y → x = y) → (ssort B R).Pairwise (fun q r => TS.code B q < TS.code B r)
  | [], _ => by simp [ssort]
  | y :: r, h => by
    show (insC B y (ssort B r)).Pairwise _
    exact insC_pw (ssort_pw fun x hx z hz => h x (List.mem_cons_of_mem _ hx) z (List.mem_cons_of_mem _ hz)) fun z hz => h y (by simp) z (List.mem_cons_of_mem _ (ssort_mem.mp hz))
/-- two rows in strict order with the same members are one -/
theorem strict_uniq {α : Type} {f : α → Int} : ∀ {l k : List α}, l.Pairwise (fun q r => f q < f r) → k.Pairwise (fun q r => f q < f r) → (∀ z, z ∈ l ↔ z ∈ k) → l = k
  | [], [], _, _, _ => rfl
  | [], y :: k, _, _, h => absurd ((h y).mpr (by simp)) (by simp)
  | x :: l, [], _, _, h => absurd ((h x).mp (by simp)) (by simp)
  | x :: l, y :: k, h1, h2, h => by
    rw [List.pairwise_cons] at h1 h2
    have e : x = y := by
      rcases List.mem_cons.mp ((h x).mp (by simp)) with a | a
      · exact a
      · rcases List.mem_cons.mp ((h y).mpr (by simp)) with b | b
        · exact b.symm
        · have := h2.1 x a; have := h1.1 y b; omega
    subst e
    rw [strict_uniq h1.2 h2.2 fun z => ?_]
    constructor
    · intro hz
      rcases List.mem_cons.mp ((h z).mp (List.mem_cons_of_mem _ hz)) with a | a
      · subst a; have := h1.1 z hz; omega
      · exact a
    · intro hz
      rcases List.mem_cons.mp ((h z).mpr (List.mem_cons_of_mem _ hz)) with a | a
      · subst a; have := h2.1 z hz; omega
      · exact a
def ssetB : Int := 1048576
def ssetD (x : PyData) : Option W := (itemsD x).bind fun xs => (rowsD xs).bind fun R => if rowsOk ssetB R = true then some (.l ((ssort ssetB R).map rowT)) else none
section
variable {X : Cx} {ct : CT} {Wx : WX} {e a b : Expr} {p p2 pos pos2 : Pos}
theorem rows_split {K : PySem.W.Frag} {Fz : Addr → Prop} {H : Hp} : ∀ {R : List (List Int)} {vs : List V}, RpAll K Fz H vs (R.map rowT) → ∃ ks : List (Addr × List Int), vs = ks.map (fun p => V.ref p.1) ∧ ks.map (·.2) = R ∧ ∀ p ∈ ks, H p.1 = some (.tup (p.2.map V.int))
  | [], vs, h => by cases h; exact ⟨[], rfl, rfl, fun _ z => absurd z List.not_mem_nil⟩
  | n :: R, vs, h => by
    cases h with
    | cons r rs =>
      obtain ⟨ks, e1, e2, e3⟩ := rows_split rs
      cases r with
      | tup hq ra =>
        have := ra.ints
        subst this
        refine ⟨(_, n) :: ks, by rw [e1]; rfl, by rw [← e2]; rfl, fun p hp => ?_⟩
        rcases List.mem_cons.mp hp with e | hp
        · subst e; exact hq
        · exact e3 p hp
      | tupK _ hs _ => exact absurd hs (by cases n <;> simp [hdStr])
def eSset (f : Ms → Rz PyData) : Ms → Rz W := fun m => (f m).bind fun x => ofO (ssetD x)
theorem de_sset {f : Ms → Rz PyData} (hu : X.A.units + 64 < cLine) (ha : DR X ct Wx e f) (hms : X.mg "sorted" = none) (hmt : X.mg "set" = none) (hc : X.calm = true := by rfl) (hgs : Gl X "sorted" := by rfl) (hgt : Gl X "set" := by rfl)
    (h1 : starEach [e] X.env = (false, eval e X.env) :: starEach [] X.env := by rfl)
    (h2 : starEach [.Call (.Name "set" p2) [e] [] pos2] X.env = (false, eval (.Call (.Name "set" p2) [e] [] pos2) X.env) :: starEach [] X.env := by rfl) :
    DE X ct Wx (.Call (.Name "sorted" p) [.Call (.Name "set" p2) [e] [] pos2] [] pos) (eSset f) :=
  ⟨PE_imp (pe_callB (cr_sortedT hc) hgs hms (by decide +kernel) (pa_cons (pe_callTy (cr_setA hc hu) hgt hmt (by decide +kernel) (pa_cons ha.pe pa_nil h1) (by decide) (by decide) h1 (by rfl)) pa_nil h2) (by decide) (by decide) h2 (by rfl)) fun σ H Q ⟨B, Fz, m, h, q⟩ => by
    unfold eSset at q
    refine tR_then h ?_
    cases hf : f m with
    | st => rw [hf] at q; exact q
    | ex c => rw [hf] at q; exact q
    | ok x =>
      intro v H1 F1 x1 r1 l1 s1
      rw [hf, Rz.bind_ok] at q
      have vw := s1.vw r1
      cases hw : ssetD x with
      | none => rw [hw] at q; exact q.elim
      | some wv =>
        rw [hw] at q
        have q : ∀ v H' Fz', Ext B Fz Fz' → rE X.K B Fz' H' σ m v wv → Q v H' := q
        unfold ssetD at hw
        cases hi : itemsD x with
        | none => rw [hi] at hw; cases hw
        | some xs =>
          rw [hi, Option.bind_some] at hw
          cases hr : rowsD xs with
          | none => rw [hr] at hw; cases hw
          | some R =>
            rw [hr, Option.bind_some] at hw
            split at hw
            · rename_i ok
              cases hw
              have ex := rowsD_eq hr
              subst ex
              -- the rows' addresses
              have src : ∃ (l : Addr) (ks : List (Addr × List Int)), v = .ref l ∧ (SqL X.K H1 l (ks.map fun p => V.ref p.1) ∨ SqT X.K H1 l (ks.map fun p => V.ref p.1)) ∧ ks.map (·.2) = R ∧ ∀ p ∈ ks, H1 p.1 = some (.tup (p.2.map V.int)) := by
                cases x with
                | list ys =>
                  cases hi
                  obtain ⟨a, vs, rfl, h1, h2⟩ := vw.list
                  obtain ⟨ks, e1, e2, e3⟩ := rows_split h2
                  subst e1
                  exact ⟨a, ks, rfl, .inl (.inl (.inl h1)), e2, e3⟩
                | tuple ys =>
                  cases hi
                  obtain ⟨a, vs, rfl, h1, h2⟩ := vw.tup
                  obtain ⟨ks, e1, e2, e3⟩ := rows_split h2
                  subst e1
                  exact ⟨a, ks, rfl, .inr h1, e2, e3⟩
                | _ => cases hi
              obtain ⟨l, ks, rfl, hl, hR, hk⟩ := src
              unfold rowsOk at ok
              rw [Bool.and_eq_true, decide_eq_true_eq] at ok
              obtain ⟨hn, hall⟩ := ok
              have each : ∀ r ∈ R, r.length = (R.headD [0]).length ∧ 1 ≤ r.length ∧ TS.Bd ssetB r := fun r hr => by
                have z := List.all_eq_true.mp hall r hr
                simp only [Bool.and_eq_true, decide_eq_true_eq, List.all_eq_true] at z
                exact ⟨z.1.1, z.1.2, fun m hm => z.2 m hm⟩
              have hB : (0 : Int) < ssetB := by decide
              have inj : ∀ x ∈ R, ∀ y ∈ R, TS.code ssetB x = TS.code ssetB y → x = y := fun x hx y hy e => code_inj hB (each x hx).2.2 (each y hy).2.2 ((each x hx).1.trans (each y hy).1.symm) e
              have kR : ∀ p ∈ ks, p.2 ∈ R := fun p hp => by rw [← hR]; exact List.mem_map.mpr ⟨p, hp, rfl⟩
              refine ⟨l, ks, rfl, hl, fun p hp => .inl (.inl (hk p hp)), by rw [← hR, List.length_map] at hn; exact hn, fun a L ha hs hall => ?_⟩
              have sm : Same H1 (upd H1 a (SetTO X.prog X.w a L)) := same_new ha
              have d1 : 1 ≤ (R.headD [0]).length := by
                cases R with
                | nil => simp
                | cons y r => exact (each y (by simp)).2.1
              have sq : ∀ p ∈ L, (upd H1 a (SetTO X.prog X.w a L)) p.1 = some (.tup (p.2.map V.int)) := fun p hp => sm _ _ (hk p (hs p hp))
              refine ⟨a, L, (R.headD [0]).length, ssetB, rfl, upd_same, fun p hp => .inl (.inl (sq p hp)), d1, fun p hp => ⟨(each _ (kR p (hs p hp))).1, (each _ (kR p (hs p hp))).2.2⟩, fun L' b pm nd few pw hb => ?_⟩
              have r2 := (r1.new (o := SetTO X.prog X.w a L) ha)
              have sub : ∀ q ∈ L', q.2 ∈ R := fun q hq => kR q (hs q (pm.mem_iff.mp hq))
              have pw' : (L'.map (·.2)).Pairwise (fun q r => TS.code ssetB q < TS.code ssetB r) := by
                rw [List.pairwise_map]
                have nd' := List.pairwise_map.mp nd
                refine (List.Pairwise.and pw nd').imp_of_mem fun {q r} hq hr hh => ?_
                have : TS.code ssetB q.2 ≠ TS.code ssetB r.2 := fun e => hh.2 (inj _ (sub q hq) _ (sub r hr) e)
                have := hh.1
                omega
              have eq : L'.map (·.2) = ssort ssetB R := strict_uniq pw' (ssort_pw inj) fun z => by
                rw [ssort_mem]
                constructor
                · intro hz
                  obtain ⟨q, hq, e⟩ := List.mem_map.mp hz
                  rw [← e]; exact sub q hq
                · intro hz
                  rw [← hR] at hz
                  obtain ⟨p, hp, e⟩ := List.mem_map.mp hz
                  have := hall p hp
                  rw [e] at this
                  obtain ⟨q, hq, e2⟩ := List.mem_map.mp this
                  exact List.mem_map.mpr ⟨q, pm.mem_iff.mpr hq, e2⟩
              refine q _ _ F1 x1 (r2.newLst hb ?_)
              rw [← eq]
              have all : ∀ L2 : List (Addr × List Int), (∀ q ∈ L2, q ∈ L) → RpAll X.K F1 (upd H1 a (SetTO X.prog X.w a L)) (L2.map fun q => V.ref q.1) ((L2.map (·.2)).map rowT) := fun L2 => by
                induction L2 with
                | nil => intro _; exact .nil
                | cons q L2 ih => exact fun h => .cons (.tup (sq q (h q (by simp))) (RpAll.of_ints _)) (ih fun z hz => h z (List.mem_cons_of_mem _ hz))
              exact all L' fun q hq => pm.mem_iff.mp hq
            · cases hw⟩
/-- is None -/
def isN (x y : PyData) : Option Bool := match y with
  | .none => some (isNoneD x)
  | _ => none
def notN (x y : PyData) : Option Bool := (isN x y).map not
theorem non_iff {K : PySem.W.Frag} {Fz : Addr → Prop} {H : Hp} {v : V} {x : PyData} (h : Vw K Fz H v x) : decide (v = .non) = isNoneD x := by
  cases x with
  | none => rw [h.non]; rfl
  | bool b => rw [h.bool]; rfl
  | int i => rw [h.int]; rfl
  | str s => rw [h.str]; rfl
  | list xs => obtain ⟨a, vs, rfl, _⟩ := h.list; rfl
  | tuple xs => obtain ⟨a, vs, rfl, _⟩ := h.tup; rfl
  | dict xs => cases h.plain
theorem cmpOk_isN {K : PySem.W.Frag} : CmpOk K (fun x y H Q => y = .non ∧ Q (.bl (decide (x = .non))) H) isN := fun {Fz H v u x y b Q} h1 h2 e q => by
  cases y with
  | none =>
    cases e
    refine ⟨h2.non, ?_⟩
    rw [non_iff h1]; exact q
  | _ => cases e
theorem cmpOk_notN {K : PySem.W.Frag} : CmpOk K (fun x y H Q => y = .non ∧ Q (.bl (!decide (x = .non))) H) notN := fun {Fz H v u x y b Q} h1 h2 e q => by
  cases y with
  | none =>
    cases e
    refine ⟨h2.non, ?_⟩
    rw [non_iff h1]; exact q
  | _ => cases e
end
end Dl
set_option Elab.async false
set_option linter.all false
set_option maxRecDepth 100000
/-! D14: xs[::-1]. -/
namespace Dl
open PySem PySem.Spec PyProof.Rows L2
section
variable {prog : Program} {w : World} {A : Around} {E : Value → Shared → Prop} {s : Shared}
theorem adjust_rev (n : Nat) : Builtin.Slice.sliceAdjust none none (-1) (n : Int) = ((n : Int) - 1, -1) := by
  unfold Builtin.Slice.sliceAdjust
  have h1 : ((-1 : Int) < 0) := by omega
  simp only [h1, if_true]
  try rfl
theorem places_rev (n : Nat) : Builtin.Slice.slicePlaces ((n : Int) - 1) (-1) (-1) = n := by
  unfold Builtin.Slice.slicePlaces
  have h1 : ¬ ((-1 : Int) > 0) := by omega
  simp only [h1, if_false]
  split <;> simp <;> omega
theorem sliceApplied_rev {sl : Addr} {vl vu vs : Value} {n : Nat} {Q : Int × Int × Nat → Shared → Prop} (hs : s.heap.IsSliceOf sl vl vu vs) (pl : IsPart vl none) (pu : IsPart vu none) (ps : IsPart vs (some (-1)))
    (h : Q ((n : Int) - 1, -1, n) s) : wpAny (model prog w) A (Builtin.Slice.sliceApplied (.ref sl) (pure (n : Int))) Q E s := by
  obtain ⟨os, hos, hcs, hds⟩ := id hs
  unfold Builtin.Slice.sliceApplied Builtin.Slice.sliceFields
  refine wpAny_bind (wpAny_bind (wpAny_field hos hds (x := vl) rfl (wpAny_bind (wpAny_field hos hds (x := vu) rfl (wpAny_bind (wpAny_field hos hds (x := vs) rfl (wpAny_pure ?_)))))))
  refine wpAny_bind (HT.slicePart_ ps ?_)
  show wpAny _ _ (if ((-1 : Int) == 0) = true then _ else _) _ _ s
  rw [if_neg (by decide)]
  refine wpAny_bind (HT.slicePart_ pl (wpAny_bind (HT.slicePart_ pu (wpAny_bind (wpAny_pure ?_)))))
  show wpAny _ _ (match Builtin.Slice.sliceAdjust none none (-1) (n : Int) with | (lo, hi) => pure (lo, (-1 : Int), Builtin.Slice.slicePlaces lo hi (-1))) _ _ s
  rw [adjust_rev n]
  show wpAny _ _ (pure ((n : Int) - 1, (-1 : Int), Builtin.Slice.slicePlaces ((n : Int) - 1) (-1) (-1))) _ _ s
  rw [places_rev]
  exact wpAny_pure h
theorem filterMap_eq {α β : Type} {f g : α → Option β} : ∀ {l : List α}, (∀ x ∈ l, f x = g x) → l.filterMap f = l.filterMap g
  | [], _ => rfl
  | a :: l, h => by
    rw [List.filterMap_cons, List.filterMap_cons, h a (by simp), filterMap_eq fun x hx => h x (List.mem_cons_of_mem _ hx)]
theorem range_all {α : Type} : ∀ (l : List α), (List.range l.length).filterMap (fun m => l[m]?) = l
  | [] => rfl
  | a :: l => by
    rw [List.length_cons, List.range_succ_eq_map, List.filterMap_cons, List.filterMap_map]
    show a :: (List.range l.length).filterMap ((fun m => (a :: l)[m]?) ∘ Nat.succ) = a :: l
    rw [filterMap_eq (g := fun m => l[m]?) fun x _ => by simp, range_all l]
theorem pick_rev (xs : Array Value) : ((List.range xs.size).filterMap fun (m : Nat) => xs[((xs.size : Int) - 1 + (m : Int) * -1).toNat]?).toArray = xs.toList.reverse.toArray := by
  have h1 : ((List.range xs.size).filterMap fun (m : Nat) => xs[((xs.size : Int) - 1 + (m : Int) * -1).toNat]?) = (List.range xs.size).filterMap fun m => xs.toList.reverse[m]? := by
    apply filterMap_eq
    intro m hm
    have hlt := List.mem_range.mp hm
    rw [List.getElem?_reverse (by simpa using hlt), Array.length_toList, Array.getElem?_toList]
    congr 1
    omega
  have := range_all xs.toList.reverse
  rw [List.length_reverse, Array.length_toList] at this
  rw [h1, this]
theorem getItem_tuple_rev {t sl : Addr} {items : Array Value} {vl vu vs : Value} {Q : Value → Shared → Prop} (ht : IsTup s.heap t items) (hs : s.heap.IsSliceOf sl vl vu vs) (pl : IsPart vl none) (pu : IsPart vu none) (ps : IsPart vs (some (-1)))
    (h : Q (.ref s.heap.objs.size) { s with heap := s.heap.push { cls := .type "tuple", data := .seq items.toList.reverse.toArray } }) (hsz : items.size ≤ sizeLine) : wpAny (model prog w) A (getItem (.ref t) (.ref sl)) Q E s := by
  have ok : sizeOk (.seq items.toList.reverse.toArray) := by
    show items.toList.reverse.toArray.size ≤ sizeLine
    rw [List.size_toArray, List.length_reverse, Array.length_toList]
    exact hsz
  obtain ⟨os, hos, hcs, hds⟩ := id hs
  have ty : s.TypeIs (.ref sl) "slice" := ⟨os, hos, hcs⟩
  unfold getItem
  try with_reducible refine wpAny_holding ?_
  first | refine wpAny_bind (wpAny_pure ?_) | skip
  refine wpAny_bind (wpAny_sequenceKey ht.typeIs (by decide) (wpAny_bind (wpAny_callSpecial?_slot (name := Str.ofString "__getitem__") ht.typeIs PyProof.Rows.slot_tuple_getitem (wpAny_call_entry PyProof.Rows.slot_tuple_getitem ht.typeIs entry_tuple_getitem ?_ (args_tuple_getitem _ _)))))
  show wpAny _ _ (Builtin.Tuple.tupleItemsOf (.ref t) >>= _) _ _ s
  refine wpAny_bind (tupleItemsOf_ ht (wpAny_bind (wpAny_typeOf ty ?_)))
  rw [if_pos (by decide)]
  refine wpAny_bind (sliceApplied_rev hs pl pu ps ?_)
  show wpAny _ _ (if (((items.size : Int) - 1) == 0 && (-1 : Int) == 1 && items.size == items.size) = true then _ else _) _ _ s
  rw [if_neg (by simp), pick_rev]
  first
    | exact wpAny_bind (m := Builtin.Tuple.tupleExact _) (wpAny_newObj_type (wpAny_pure ⟨_, rfl, wpAny_pure h⟩) ok)
    | exact wpAny_bind (m := Builtin.Tuple.tupleExact _) (wpAny_newObj_type (wpAny_bind (wpAny_pure (wpAny_pure ⟨_, rfl, wpAny_pure h⟩))) ok)
    | exact wpAny_bind (wpAny_bind (m := Builtin.Tuple.tupleExact _) (wpAny_newObj_type (wpAny_pure (wpAny_pure ⟨_, rfl, wpAny_pure h⟩)) ok))
    | exact wpAny_bind (wpAny_bind (m := Builtin.Tuple.tupleExact _) (wpAny_newObj_type (wpAny_pure ⟨_, rfl, wpAny_pure h⟩) ok))
end
section
variable {X : Cx} {ct : CT} {Wx : WX} {e a b : Expr} {p p2 pos pos2 : Pos}
/-- e[::-1] -/
def tRevA (K : PySem.W.Frag) (te : TE) : TE := fun σ H Q => te σ H fun x H1 => ∃ a xs, x = .ref a ∧ ((SqL K H1 a xs ∧ ∀ p, H1 p = none → Q (.ref p) (upd H1 p (.lst xs.reverse))) ∨ (SqT K H1 a xs ∧ ∀ p, H1 p = none → Q (.ref p) (upd H1 p (.tup xs.reverse))))
theorem pe_revA {te : TE} {k : Nat} {p1 p2 p3 : Pos} (he : PE X e te) : PE X (.Subscript e (.Slice none none (some (.UnaryOp .USub (.Constant (.int 1) k p1) p2)) p3) pos) (tRevA X.K te) := by
  refine ⟨fun pins s σ H Q I h => ?_⟩
  refine Subscript_ (thn (he.run pins s σ H _ I h) fun v s1 ⟨x, H1, I1, r1, a, xs, ex, q⟩ => ?_)
  subst ex
  cases r1
  refine wpAny_Slice (thn (po_none.run pins s1 σ H1 (fun o H2 => o = none ∧ H2 = H1) I1 ⟨rfl, rfl⟩) fun vl s2 ⟨l, H2, I2, pl, el, e2⟩ => ?_)
  subst el e2
  refine thn (po_none.run pins s2 σ H2 (fun o H3 => o = none ∧ H3 = H2) I2 ⟨rfl, rfl⟩) fun vu s3 ⟨u, H3, I3, pu, eu, e3⟩ => ?_
  subst eu e3
  refine thn ((po_some (pe_un un_neg pe_int)).run pins s3 σ H3 (fun o H4 => o = some (-1) ∧ H4 = H3) I3 ⟨1, rfl, -1, rfl, rfl, rfl⟩) fun vs s4 ⟨o, H4, I4, ps, eo, e4⟩ => ?_
  subst eo e4
  have I5 : Inv X pins σ H4 { s4 with heap := s4.heap.push { cls := .type "slice", data := .fields #[vl, vu, vs] } } := I4.kept (t' := s4.toks) fun b ob q => Heap.get?_push_of_some _ q
  show wpAny (model X.prog X.w) X.A (subscriptTail e (.Slice none none (some (.UnaryOp .USub (.Constant (.int 1) k p1) p2)) p3) (.ref a) (.ref s4.heap.objs.size)) (EP X pins σ Q) X.xe { s4 with heap := s4.heap.push { cls := .type "slice", data := .fields #[vl, vu, vs] } }
  rcases q with ⟨hx, q⟩ | ⟨hx, q⟩
  · obtain ⟨its, r, ht, hz⟩ := I5.list hx
    have hlen := r.length
    refine tail_any (ops := [.ref a, .ref s4.heap.objs.size]) ht.isList.typeIs (PySem.slot_list_getitem.lookup) ?_ (by with_unfolding_all rfl)
    refine wpAny_getItem_list_slice ht.isList (Heap.IsSliceOf.new _ vl vu vs) pl pu ps (by decide) ?_ (by rw [List.size_toArray]; omega)
    rw [PySem.W.krv_pick]
    exact ⟨.ref _, _, I5.laid (t' := s4.toks) (o := .lst xs.reverse) (fun b ob q => Heap.get?_push_of_some _ q) (Nat.le_refl _) ⟨by rw [List.length_reverse]; exact hz, _, 0, r.reverse, Heap.get?_push_size _ rfl⟩, rfl, q _ (I5.hok.fresh (Nat.le_refl _))⟩
  · obtain ⟨its, r, ht, hz⟩ := I5.tuple hx
    have hlen := r.length
    refine tail_any (ops := [.ref a, .ref s4.heap.objs.size]) ht.typeIs (PyProof.Rows.slot_tuple_getitem.lookup) ?_ (by with_unfolding_all rfl)
    refine getItem_tuple_rev ht (Heap.IsSliceOf.new _ vl vu vs) pl pu ps ?_ (by rw [List.size_toArray]; omega)
    exact ⟨.ref _, _, I5.laid (t' := s4.toks) (o := .tup xs.reverse) (fun b ob q => Heap.get?_push_of_some _ q) (Nat.le_refl _) ⟨by rw [List.length_reverse]; exact hz, _, r.reverse, ⟨_, Heap.get?_push_size _ rfl, rfl, _, rfl⟩⟩, rfl, q _ (I5.hok.fresh (Nat.le_refl _))⟩
def revD (x : PyData) : Option W := match x with
  | .list xs => some (.l xs.reverse)
  | .tuple xs => some (.d (.tuple xs.reverse))
  | _ => none
def eRev (f : Ms → Rz PyData) : Ms → Rz W := fun m => (f m).bind fun x => ofO (revD x)
theorem de_rev {f : Ms → Rz PyData} {k : Nat} {p1 p2 p3 : Pos} (he : DR X ct Wx e f) : DE X ct Wx (.Subscript e (.Slice none none (some (.UnaryOp .USub (.Constant (.int 1) k p1) p2)) p3) pos) (eRev f) := ⟨PE_imp (pe_revA he.pe) fun σ H Q ⟨B, Fz, m, h, q⟩ => by
  unfold eRev at q
  refine tR_then h ?_
  cases hf : f m with
  | st => rw [hf] at q; exact q
  | ex c => rw [hf] at q; exact q
  | ok x =>
    intro v H1 F1 x1 r1 l1 s1
    rw [hf, Rz.bind_ok] at q
    have vw := s1.vw r1
    cases x with
    | list xs =>
      obtain ⟨a, vs, rfl, h1, h2⟩ := vw.list
      exact ⟨a, vs, rfl, .inl ⟨.inl (.inl h1), fun p hp => q _ _ F1 x1 (r1.newLst hp h2.reverse)⟩⟩
    | tuple xs =>
      obtain ⟨a, vs, rfl, h1, h2⟩ := vw.tup
      exact ⟨a, vs, rfl, .inr ⟨h1, fun p hp => q _ _ F1 x1 (r1.newTup hp h2.reverse)⟩⟩
    | _ => exact q.elim⟩
end
end Dl
set_option Elab.async false
set_option linter.all false
set_option maxRecDepth 100000
/-! D15: odds and ends for the printed text. -/
namespace Dl
open PySem PySem.Spec PyProof.Rows L2
/-- a slot's own list is given up behind a statement -/
def sPost (i : Nat) (g : Ms → Fl) : Ms → Fl := fun m => match g m with
  | .nx m' => .nx (frzAt i m')
  | o => o
theorem ds_post {X : Cx} {ct : CT} {Wx : WX} {st : Stmt} {g : Ms → Fl} (i : Nat) (h : DS X ct Wx st g) : DS X ct Wx st (sPost i g) := ds_of h.ps fun D σ H B Fz m r q => by
  refine tS_iff.mpr ⟨B, Fz, m, r, ?_⟩
  unfold sPost at q
  cases hg : g m with
  | nx m' =>
    rw [hg] at q
    have q : ∀ σ' H' Fz', Ext B Fz Fz' → Rs X.K B Fz' H' σ' (frzAt i m') → D.nx σ' H' := q
    intro σ' H' F' x r'
    have e0 : EndS X.K ct Wx B F' { nx := fun _ _ => True, rt := fun _ _ => True } (.nx m') := fun _ _ _ _ _ => trivial
    obtain ⟨F2, r2, _⟩ := frz_end (X := X) (ct := ct) (Wx := Wx) (i := i) r' e0
    unfold frzAt at r2 q
    split at r2
    · rename_i xs e
      obtain ⟨F3, x3, r3⟩ := r'.frzAt i e
      exact q σ' H' F3 (x.trans x3) (by rw [e]; exact r3)
    · rename_i e
      refine q σ' H' F' x ?_
      split
      · rename_i xs e2; exact absurd e2 (e xs)
      · exact r'
  | _ => rw [hg] at q; exact q
/-- the address of an own class -/
def ctA (ct : CT) (c : Nat) : Addr := match ct c with
  | .ref a => a
  | _ => 0
/-- classes by their addresses -/
def ctL (l : List Addr) : CT := fun n => match l[n]? with
  | some a => .ref a
  | none => .none
theorem room_u {k : Nat} {A : Around} (r : Room k A) (n : Nat) (h : n ≤ 199) : A.units + n < cLine := by
  have := r.un
  omega
end Dl
set_option Elab.async false
set_option linter.all false
set_option maxRecDepth 100000
/-! D16: reckoning with the mirror. -/
namespace Dl
open PySem PySem.Spec PyProof.Rows L2
section
variable {m : Ms} {f g h : Ms → Rz PyData} {i j : Int} {x y z : PyData} {xs ys : List PyData} {fw : Ms → Rz W} {b c : Bool}
@[simp] theorem toV_s : toV fw m = (fw m).bind fun w => match w with | .d x => .ok x | .l xs => .ok (.list xs) | _ => .st := rfl
@[simp] theorem ofV_s : ofV f m = (f m).map W.d := rfl
@[simp] theorem vVar_s {i : Nat} : vVar i m = match m[i]? with | some (some (.d x)) => .ok x | _ => .st := rfl
@[simp] theorem rVar_s {i : Nat} : rVar i m = match m[i]? with | some (some (.d x)) => .ok x | some (some (.l xs)) => .ok (.list xs) | _ => .st := rfl
@[simp] theorem vC_s : vC x m = .ok x := rfl
@[simp] theorem e2_s {k : PyData → PyData → Option W} : e2 k f g m = (f m).bind fun x => (g m).bind fun y => ofO (k x y) := rfl
@[simp] theorem e1_s {k : PyData → Option W} : e1 k f m = (f m).bind fun x => ofO (k x) := rfl
@[simp] theorem ofO_some' {α : Type} {a : α} : ofO (some a) = .ok a := rfl
@[simp] theorem eCall_s {k : List PyData → Option W} {fs : List (Ms → Rz PyData)} : eCall k fs m = (evalAllD fs m).bind fun xs => ofO (k xs) := rfl
@[simp] theorem evalAll_nil : evalAllD [] m = .ok [] := rfl
@[simp] theorem evalAll_cons {fs : List (Ms → Rz PyData)} : evalAllD (f :: fs) m = (f m).bind fun x => (evalAllD fs m).bind fun xs => .ok (x :: xs) := rfl
@[simp] theorem g1_s {k : PyData → Option W} : g1 k [x] = k x := rfl
@[simp] theorem g12_1 {k : PyData → Option W} {k2 : PyData → PyData → Option W} : g12 k k2 [x] = k x := rfl
@[simp] theorem g12_2 {k : PyData → Option W} {k2 : PyData → PyData → Option W} : g12 k k2 [x, y] = k2 x y := rfl
@[simp] theorem boolD_s : boolD (.bool b) = .ok b := rfl
@[simp] theorem vNot_s : vNot f m = (f m).bind fun x => (boolD x).map fun b => .bool (!b) := rfl
@[simp] theorem vAnd_s : vAnd f g m = (f m).bind fun x => (boolD x).bind fun b => if b = true then g m else .ok (.bool false) := rfl
@[simp] theorem vOr_s : vOr f g m = (f m).bind fun x => (boolD x).bind fun b => if b = true then .ok (.bool true) else g m := rfl
@[simp] theorem vIf_s {t : Ms → Rz Bool} : vIf t f g m = (t m).bind fun b => if b = true then f m else g m := rfl
@[simp] theorem v2_s {k : PyData → PyData → Option Bool} : v2 k f g m = (t2 k f g m).map .bool := rfl
@[simp] theorem t2_s {k : PyData → PyData → Option Bool} : t2 k f g m = (f m).bind fun x => (g m).bind fun y => ofO (k x y) := rfl
@[simp] theorem v3_s {k k2 : PyData → PyData → Option Bool} : v3 k k2 f g h m = (t3 k k2 f g h m).map .bool := rfl
@[simp] theorem t3_s {k k2 : PyData → PyData → Option Bool} : t3 k k2 f g h m = (f m).bind fun x => (g m).bind fun y => (ofO (k x y)).bind fun b => if b = true then (h m).bind fun z => ofO (k2 y z) else .ok false := rfl
@[simp] theorem tNot_s {t : Ms → Rz Bool} : tNot' t m = (t m).map not := rfl
@[simp] theorem tAnd_s {t u : Ms → Rz Bool} : tAnd' t u m = (t m).bind fun b => if b = true then u m else .ok false := rfl
@[simp] theorem tOr_s {t u : Ms → Rz Bool} : tOr' t u m = (t m).bind fun b => if b = true then .ok true else u m := rfl
@[simp] theorem tV_s : tV' f m = (f m).bind boolD := rfl
@[simp] theorem vIsi_s {k : PyData → Bool} : vIsi k f m = (f m).map fun x => .bool (k x) := rfl
@[simp] theorem eTup_s {fs : List (Ms → Rz PyData)} : eTup fs m = (evalAllD fs m).map .tuple := rfl
@[simp] theorem eLst_s {fs : List (Ms → Rz PyData)} : eLst fs m = (evalAllD fs m).map .l := rfl
@[simp] theorem eSl_s {l u : Ms → Rz (Option Int)} : eSl f l u m = (f m).bind fun x => (l m).bind fun lo => (u m).bind fun hi => ofO (slD x lo hi) := rfl
@[simp] theorem oNone_s : oNone m = .ok none := rfl
@[simp] theorem oSome_s : oSome f m = (f m).bind fun x => (intD x).map some := rfl
@[simp] theorem intD_s : intD (.int i) = .ok i := rfl
@[simp] theorem slD_l {lo hi : Option Int} : slD (.list xs) lo hi = some (.l (cutL xs lo hi)) := rfl
@[simp] theorem slD_t {lo hi : Option Int} : slD (.tuple xs) lo hi = some (.d (.tuple (cutL xs lo hi))) := rfl
@[simp] theorem eRev_s : eRev f m = (f m).bind fun x => ofO (revD x) := rfl
@[simp] theorem revD_l : revD (.list xs) = some (.l xs.reverse) := rfl
@[simp] theorem revD_t : revD (.tuple xs) = some (.d (.tuple xs.reverse)) := rfl
@[simp] theorem iSeq_s : iSeq f m = (f m).bind itemsOf := rfl
@[simp] theorem itemsOf_l : itemsOf (.list xs) = .ok xs := rfl
@[simp] theorem itemsOf_t : itemsOf (.tuple xs) = .ok xs := rfl
@[simp] theorem iArg_s {k : List PyData → Rz (List PyData)} {fs : List (Ms → Rz PyData)} : iArg k fs m = (evalAllD fs m).bind k := rfl
@[simp] theorem enumD_l : enumD [.list xs] = .ok (enumFrom 0 xs) := rfl
@[simp] theorem enumD_t : enumD [.tuple xs] = .ok (enumFrom 0 xs) := rfl
@[simp] theorem zipD_l : zipD [.list xs, .list ys] = .ok (zipL xs ys) := rfl
@[simp] theorem zipD_t : zipD [.tuple xs, .tuple ys] = .ok (zipL xs ys) := rfl
@[simp] theorem lenD_l : lenD (.list xs) = some (.d (.int xs.length)) := rfl
@[simp] theorem lenD_t : lenD (.tuple xs) = some (.d (.int xs.length)) := rfl
@[simp] theorem isInt_i : isInt (.int i) = true := rfl
@[simp] theorem isInt_b : isInt (.bool b) = true := rfl
@[simp] theorem isInt_n : isInt .none = false := rfl
@[simp] theorem isInt_s {s : Str} : isInt (.str s) = false := rfl
@[simp] theorem isInt_l : isInt (.list xs) = false := rfl
@[simp] theorem isInt_t : isInt (.tuple xs) = false := rfl
@[simp] theorem isInt_d {ds : List (PyData × PyData)} : isInt (.dict ds) = false := rfl
@[simp] theorem isBool_i : isBool (.int i) = false := rfl
@[simp] theorem isBool_b : isBool (.bool b) = true := rfl
@[simp] theorem isTup_i : isTup (.int i) = false := rfl
@[simp] theorem isTup_b : isTup (.bool b) = false := rfl
@[simp] theorem isTup_n : isTup .none = false := rfl
@[simp] theorem isTup_s {s : Str} : isTup (.str s) = false := rfl
@[simp] theorem isTup_l : isTup (.list xs) = false := rfl
@[simp] theorem isTup_t : isTup (.tuple xs) = true := rfl
@[simp] theorem isTup_d {ds : List (PyData × PyData)} : isTup (.dict ds) = false := rfl
@[simp] theorem tupleD_l : tupleD (.list xs) = some (.d (.tuple xs)) := rfl
@[simp] theorem tupleD_t : tupleD (.tuple xs) = some (.d (.tuple xs)) := rfl
@[simp] theorem listD_l : listD (.list xs) = some (.l xs) := rfl
@[simp] theorem listD_t : listD (.tuple xs) = some (.l xs) := rfl
@[simp] theorem absD_i : absD (.int i) = some (.d (.int (if i < 0 then -i else i))) := rfl
@[simp] theorem toIntD_i : toIntD (.int i) = some (.d (.int i)) := rfl
@[simp] theorem min2_i : min2D (.int i) (.int j) = some (.d (.int (min i j))) := rfl
@[simp] theorem neg_i : negD (.int i) = some (.d (.int (-i))) := rfl
@[simp] theorem add_i : addD (.int i) (.int j) = some (.d (.int (i + j))) := rfl
@[simp] theorem add_t : addD (.tuple xs) (.tuple ys) = if xs.length + ys.length ≤ 16000000 then some (.d (.tuple (xs ++ ys))) else none := rfl
@[simp] theorem add_l : addD (.list xs) (.list ys) = if xs.length + ys.length ≤ 16000000 then some (.l (xs ++ ys)) else none := rfl
@[simp] theorem sub_i : subD (.int i) (.int j) = some (.d (.int (i - j))) := rfl
@[simp] theorem mul_i : mulD (.int i) (.int j) = if smallI i ∨ smallI j then some (.d (.int (i * j))) else none := rfl
@[simp] theorem div_i : divD (.int i) (.int j) = if 0 < j ∧ j < 1073741824 then some (.d (.int (i / j))) else none := rfl
@[simp] theorem mod_i : modD (.int i) (.int j) = if 0 < j then some (.d (.int (i % j))) else none := rfl
@[simp] theorem lt_i : ltD (.int i) (.int j) = some (decide (i < j)) := rfl
@[simp] theorem gt_i : gtD (.int i) (.int j) = some (decide (j < i)) := rfl
@[simp] theorem le_i : leD (.int i) (.int j) = some (!decide (j < i)) := rfl
@[simp] theorem ge_i : geD (.int i) (.int j) = some (!decide (i < j)) := rfl
@[simp] theorem eq_i : eqD (.int i) (.int j) = some (i == j) := by simp [eqD, PyData.depth, PyData.eqv]
@[simp] theorem ne_i : neD (.int i) (.int j) = some (!(i == j)) := by simp [neD, PyData.depth, PyData.eqv]
@[simp] theorem eq_b : eqD (.bool b) (.bool c) = some (b == c) := by simp [eqD, PyData.depth, PyData.eqv]
@[simp] theorem ne_b : neD (.bool b) (.bool c) = some (!(b == c)) := by simp [neD, PyData.depth, PyData.eqv]
@[simp] theorem ix_t : ixD (.tuple xs) (.int i) = (atI xs i).map .d := rfl
@[simp] theorem ix_l : ixD (.list xs) (.int i) = (atI xs i).map .d := rfl
theorem atI_nat {α : Type} {l : List α} {n : Nat} : atI l (n : Int) = l[n]? := by
  unfold atI ixN
  rw [if_pos (by omega)]
  by_cases h : n < l.length
  · rw [if_pos (by omega)]; simp
  · rw [if_neg (by omega)]; simp [List.getElem?_eq_none (Nat.le_of_not_lt h)]
theorem atI_int {α : Type} {l : List α} {i : Int} (h : 0 ≤ i) : atI l i = l[i.toNat]? := by
  obtain ⟨n, rfl⟩ := Int.eq_ofNat_of_zero_le h
  simpa using atI_nat
@[simp] theorem atI_0 {α : Type} {l : List α} : atI l 0 = l[0]? := atI_nat (n := 0)
@[simp] theorem atI_1 {α : Type} {l : List α} : atI l 1 = l[1]? := atI_nat (n := 1)
@[simp] theorem atI_2 {α : Type} {l : List α} : atI l 2 = l[2]? := atI_nat (n := 2)
@[simp] theorem isN_n : isN x .none = some (isNoneD x) := rfl
@[simp] theorem vFn_s {F : Ms → Rz PyData} {fs : List (Ms → Rz PyData)} : vFn F fs m = (evalAllD fs m).bind fun xs => F (xs.map fun x => some (.d x)) := rfl
@[simp] theorem rz_map_ok {α β : Type} {k : α → β} {a : α} : Rz.map k (.ok a) = .ok (k a) := rfl
/-! statements -/
variable {s t : Ms → Fl} {u : Ms → Rz Bool}
@[simp] theorem sNil_s : sNil m = .nx m := rfl
@[simp] theorem sSeq_s : sSeq s t m = match s m with | .nx m' => t m' | r => r := by simp only [sSeq] <;> cases s m <;> rfl
@[simp] theorem sSet_s {i : Nat} : sSet i fw m = match fw m with | .st => .st | .ok w => (if i < m.length then .nx (m.set i (some w)) else .st) | .ex c => .ex c m := by simp only [sSet, flE] <;> cases fw m <;> rfl
@[simp] theorem sIf_s : sIf u s t m = match u m with | .st => .st | .ok b => (if b = true then s m else t m) | .ex c => .ex c m := by simp only [sIf, flE] <;> cases u m <;> rfl
@[simp] theorem sRet_s : sRet f m = match f m with | .st => .st | .ok x => .rt x | .ex c => .ex c m := by simp only [sRet, flE] <;> cases f m <;> rfl
@[simp] theorem sExpr_s : sExpr f m = match f m with | .st => .st | .ok _ => .nx m | .ex c => .ex c m := by simp only [sExpr, flE] <;> cases f m <;> rfl
@[simp] theorem sRaise_s {c : Nat} : sRaise c m = .ex c m := rfl
@[simp] theorem sAsg_s {k : PyData → Ms → Option Ms} : sAsg f k m = match f m with | .st => .st | .ok x => (match k x m with | some m' => .nx m' | none => .st) | .ex c => .ex c m := by simp only [sAsg, flE] <;> cases f m <;> rfl
@[simp] theorem gSet_s {i : Nat} : gSet i x m = if i < m.length then some (m.set i (some (.d x))) else none := rfl
@[simp] theorem gCons_s {k : PyData → Ms → Option Ms} {l : List PyData → Ms → Option Ms} : gCons k l (x :: xs) m = (k x m).bind fun m' => l xs m' := rfl
@[simp] theorem gNil_s : gNil [] m = some m := rfl
@[simp] theorem gTup_s {n : Nat} {l : List PyData → Ms → Option Ms} : gTup' n l (.tuple xs) m = if xs.length = n then l xs m else none := rfl
@[simp] theorem sFor_s {k : Ms → Rz (List PyData)} {l : PyData → Ms → Option Ms} : sFor k l s m = match k m with | .st => .st | .ok xs => goFor l s xs m | .ex c => .ex c m := by simp only [sFor, flE] <;> cases k m <;> rfl
@[simp] theorem sApp_s {i : Nat} : sApp i f m = match lAt i m with | some xs => (match f m with | .st => .st | .ok x => (if xs.length < 16777216 then .nx (m.set i (some (.l (xs ++ [x])))) else .st) | .ex c => .ex c m) | none => .st := by simp only [sApp, flE] <;> cases lAt i m <;> cases f m <;> rfl
@[simp] theorem sPost_s {i : Nat} : sPost i s m = match s m with | .nx m' => .nx (frzAt i m') | o => o := by simp only [sPost] <;> cases s m <;> rfl
@[simp] theorem fnW_s {N : Nat} : fnW N s m = match s (m ++ List.replicate (N - m.length) none) with | .nx _ => .ok .none | .rt x => .ok x | .ex c _ => .ex c | _ => .st := by simp only [fnW] <;> cases s (m ++ List.replicate (N - m.length) none) <;> rfl
end
/-! comprehensions -/
theorem goLc_eq {s : PyData → Ms → Option Ms} {t : Ms → Rz Bool} {e : Ms → Rz PyData} {m : Ms} (M : PyData → Ms) (p : PyData → Bool) (g : PyData → PyData) : ∀ xs : List PyData, (∀ x ∈ xs, s x m = some (M x) ∧ t (M x) = .ok (p x) ∧ (p x = true → e (M x) = .ok (g x))) →
    goLc s t e m xs = .ok ((xs.filter p).map g)
  | [], _ => rfl
  | x :: r, h => by
    obtain ⟨h1, h2, h3⟩ := h x (by simp)
    have ih := goLc_eq M p g r fun y hy => h y (List.mem_cons_of_mem _ hy)
    unfold goLc
    rw [h1]
    dsimp only
    rw [h2]
    cases hp : p x with
    | false => dsimp only; rw [ih, List.filter_cons_of_neg (by simp [hp])]
    | true => dsimp only; rw [h3 hp, ih, List.filter_cons_of_pos hp]; rfl
theorem goLc_map {s : PyData → Ms → Option Ms} {e : Ms → Rz PyData} {m : Ms} (M : PyData → Ms) (g : PyData → PyData) (xs : List PyData) (h : ∀ x ∈ xs, s x m = some (M x) ∧ e (M x) = .ok (g x)) : goLc s (fun _ => .ok true) e m xs = .ok (xs.map g) := by
  rw [goLc_eq M (fun _ => true) g xs fun x hx => ⟨(h x hx).1, rfl, fun _ => (h x hx).2⟩]
  rw [List.filter_eq_self.mpr fun _ _ => rfl]
theorem eLc_ok {vs : List Nat} {f : Ms → Rz (List PyData)} {s : PyData → Ms → Option Ms} {t : Ms → Rz Bool} {e : Ms → Rz PyData} {m : Ms} {xs ys : List PyData} (hw : wipeOk vs m = true) (hf : f m = .ok xs) (hg : goLc s t e (wipeM m vs) xs = .ok ys) :
    eLc vs f s t e m = .ok (.l ys) := by
  unfold eLc
  rw [if_pos hw, hf, Rz.bind_ok, hg]
  rfl
@[simp] theorem boolsOf_map' {α : Type} (g : α → Bool) : ∀ xs : List α, boolsOf (xs.map fun x => .bool (g x)) = some (xs.map g)
  | [] => rfl
  | x :: r => by rw [List.map_cons, boolsOf, boolsOf_map' g r]; rfl
@[simp] theorem allD_map {α : Type} (g : α → Bool) (xs : List α) : allD (.list (xs.map fun x => .bool (g x))) = some (.d (.bool (xs.all g))) := by
  show (boolsOf _).map _ = _
  rw [boolsOf_map', Option.map_some, List.all_map]
  rfl
@[simp] theorem anyD_map {α : Type} (g : α → Bool) (xs : List α) : anyD (.list (xs.map fun x => .bool (g x))) = some (.d (.bool (xs.any g))) := by
  show (boolsOf _).map _ = _
  rw [boolsOf_map', Option.map_some, List.any_map]
  rfl
@[simp] theorem boolsOf_nil : boolsOf [] = some [] := rfl
@[simp] theorem boolsOf_cons {b : Bool} {r : List PyData} : boolsOf (.bool b :: r) = (boolsOf r).map (b :: ·) := rfl
@[simp] theorem allD_c {b : Bool} {r : List PyData} : allD (.list (.bool b :: r)) = (boolsOf (.bool b :: r)).map fun bs => .d (.bool (bs.all id)) := rfl
@[simp] theorem allD_n : allD (.list []) = some (.d (.bool true)) := rfl
@[simp] theorem anyD_c {b : Bool} {r : List PyData} : anyD (.list (.bool b :: r)) = (boolsOf (.bool b :: r)).map fun bs => .d (.bool (bs.any id)) := rfl
@[simp] theorem anyD_n : anyD (.list []) = some (.d (.bool false)) := rfl
/-! loops -/
theorem goFor_inv {s : PyData → Ms → Option Ms} {b : Ms → Fl} (P : Nat → Ms → Prop) : ∀ (xs : List PyData) (k : Nat) (m : Ms), P k m → (∀ i x m, xs[i]? = some x → P (k + i) m → ∃ m1, s x m = some m1 ∧ ∃ m2, b m1 = .nx m2 ∧ P (k + i + 1) m2) → ∃ m', goFor s b xs m = .nx m' ∧ P (k + xs.length) m'
  | [], k, m, h, _ => ⟨m, rfl, h⟩
  | x :: r, k, m, h, st => by
    obtain ⟨m1, h1, m2, h2, h3⟩ := st 0 x m rfl h
    obtain ⟨m', h4, h5⟩ := goFor_inv P r (k + 1) m2 h3 fun i y m hy hp => by
      have e : k + 1 + i = k + (i + 1) := by omega
      rw [e] at hp ⊢
      exact st (i + 1) y m (by simpa using hy) hp
    refine ⟨m', ?_, ?_⟩
    · unfold goFor
      rw [h1]
      dsimp only
      rw [h2]
      exact h4
    · have e : k + (x :: r).length = k + 1 + r.length := by rw [List.length_cons]; omega
      rw [e]; exact h5
end Dl
set_option Elab.async false
set_option linter.all false
set_option maxRecDepth 100000
/-! D17: dead slots are forgotten; stores into an own list; in; index and count. -/
namespace Dl
open PySem PySem.Spec PyProof.Rows L2
section
variable {K : PySem.W.Frag} {B : Hp} {Fz Fz' : Addr → Prop} {H H' : Hp} {σ : L2.St} {m : Ms}
theorem RL.forget : ∀ {σ : L2.St} {m : Ms} {fp : List Addr} (i : Nat), RL K Fz H σ m fp → ∃ g, RL K Fz H σ (m.set i none) g ∧ g.Sublist fp
  | _, _, _, _, .nil => ⟨_, .nil, .refl _⟩
  | _, _, _, 0, .no r => ⟨_, .no r, .refl _⟩
  | _, _, _, 0, .so _ r => ⟨_, .no r, List.sublist_append_right _ _⟩
  | _, _, _, i + 1, .no r => by
    obtain ⟨g, r', s⟩ := RL.forget i r
    exact ⟨g, .no r', s⟩
  | _, _, _, i + 1, .so (f := f0) q r => by
    obtain ⟨g, r', s⟩ := RL.forget i r
    exact ⟨_, .so q r', s.append_left f0⟩
theorem Rs.forget (i : Nat) (h : Rs K B Fz H σ m) : Rs K B Fz H σ (m.set i none) := by
  obtain ⟨fp, rl, nd, own, base, fz⟩ := h
  obtain ⟨g, r, s⟩ := RL.forget i rl
  exact ⟨g, r, nd.sublist s, fun a h => own a (s.subset h), base, fz⟩
theorem Rs.forgets (h : Rs K B Fz H σ m) : ∀ vs : List Nat, Rs K B Fz H σ (wipeM m vs)
  | [] => h
  | v :: vs => (Rs.forgets h vs).forget v
end
section
variable {X : Cx} {ct : CT} {Wx : WX} {e a b c : Expr} {p pos : Pos}
def sCut (vs : List Nat) (g : Ms → Fl) : Ms → Fl := fun m => match g m with
  | .nx m' => .nx (wipeM m' vs)
  | .ct m' => .ct (wipeM m' vs)
  | .bk m' => .bk (wipeM m' vs)
  | o => o
theorem cut_end {vs : List Nat} {g : Ms → Fl} {m : Ms} {K : PySem.W.Frag} {B : Hp} {Fz : Addr → Prop} {D : Ends} (q : EndS K ct Wx B Fz D (sCut vs g m)) : EndS K ct Wx B Fz D (g m) := by
  unfold sCut at q
  cases hg : g m with
  | nx m' => rw [hg] at q; exact fun σ' H' F' x r => q σ' H' F' x (r.forgets vs)
  | ct m' => rw [hg] at q; exact fun σ' H' F' x r => q σ' H' F' x (r.forgets vs)
  | bk m' => rw [hg] at q; exact fun σ' H' F' x r => q σ' H' F' x (r.forgets vs)
  | st => rw [hg] at q; exact q
  | rt x => rw [hg] at q; exact q
  | rq x => rw [hg] at q; exact q
  | ex c m' => rw [hg] at q; exact q
theorem ds_cut {st : Stmt} {g : Ms → Fl} (vs : List Nat) (h : DS X ct Wx st g) : DS X ct Wx st (sCut vs g) := ds_of h.ps fun D σ H B Fz m r q => tS_iff.mpr ⟨B, Fz, m, r, cut_end q⟩
theorem dss_cut {sts : List Stmt} {g : Ms → Fl} (vs : List Nat) (h : DSs X ct Wx sts g) : DSs X ct Wx sts (sCut vs g) := dss_of h.ps fun D σ H B Fz m r q => tS_iff.mpr ⟨B, Fz, m, r, cut_end q⟩
def sPre (vs : List Nat) (g : Ms → Fl) : Ms → Fl := fun m => g (wipeM m vs)
theorem ds_pre {st : Stmt} {g : Ms → Fl} (vs : List Nat) (h : DS X ct Wx st g) : DS X ct Wx st (sPre vs g) := ds_of h.ps fun D σ H B Fz m r q => tS_iff.mpr ⟨B, Fz, _, r.forgets vs, q⟩
theorem dss_pre {sts : List Stmt} {g : Ms → Fl} (vs : List Nat) (h : DSs X ct Wx sts g) : DSs X ct Wx sts (sPre vs g) := dss_of h.ps fun D σ H B Fz m r q => tS_iff.mpr ⟨B, Fz, _, r.forgets vs, q⟩

/-! ### name[i] = e, name[i] op= e, the list one's own -/
def putLK (i : Nat) (x : PyData) (ys : List PyData) (k : PyData) (m : Ms) : Fl := match k with
  | .int j => match ixN ys.length j with
    | some j => .nx (m.set i (some (.l (ys.set j x))))
    | none => .st
  | _ => .st
def putL (i : Nat) (g : Ms → Rz PyData) (x : PyData) (m : Ms) : Fl := match lAt i m with
  | some ys => flE g (fun k m => putLK i x ys k m) m
  | none => .st
def sLput (i : Nat) (g f : Ms → Rz PyData) : Ms → Fl := flE f fun x m => putL i g x m
theorem putLK_cases {i : Nat} {x : PyData} {ys : List PyData} {k : PyData} {m : Ms} {K : PySem.W.Frag} {B : Hp} {Fz : Addr → Prop} {D : Ends} (q : EndS K ct Wx B Fz D (putLK i x ys k m)) : ∃ j j', k = .int j ∧ ixN ys.length j = some j' ∧ EndS K ct Wx B Fz D (.nx (m.set i (some (.l (ys.set j' x))))) := by
  unfold putLK at q
  split at q
  · rename_i j
    split at q
    · rename_i j' e2
      exact ⟨j, j', rfl, e2, q⟩
    · exact q.elim
  · exact q.elim
theorem ds_lput {y : Str} {p2 p3 : Pos} {ix : Expr} {f g : Ms → Rz PyData} (i : Nat) (hf : DV X ct Wx e f) (hg : DV X ct Wx ix g) (hN : X.N[i]? = some y := by rfl)
    (hv : Vis X.env.scope y := by first | exact Or.inl rfl | exact Or.inr (Or.inl rfl) | exact Or.inr (Or.inr rfl)) (hd : (y == ("__debug__" : Str)) = false := by decide) (hcd : (y == ("__classdict__" : Str)) = false := by decide)
    (ha : ∀ v, assign (.Subscript (.Name y p2) ix p3) X.env v = (do
      let ov ← holding [v] (eval (.Name y p2) X.env)
      let iv ← holding [v, ov] (eval ix X.env)
      standAt p3
      holding [v, ov, iv] (setItem ov iv v)
      release [v, ov, iv] []) := by intro _; rfl)
    (hs : swapsWithSole [.Subscript (.Name y p2) ix p3] e pos.line X.env = pure false := by rfl) (hw : swappedStores [.Subscript (.Name y p2) ix p3] e X.env = pure none := by rfl)
    (h1 : (assignEach [.Subscript (.Name y p2) ix p3] X.env).map (·.2) = [assign (.Subscript (.Name y p2) ix p3) X.env] := by rfl) : DS X ct Wx (.Assign [.Subscript (.Name y p2) ix p3] e pos) (sLput i g f) :=
  ds_of (ps_asg hf.pe (pg_sub (pe_var hN hv hd hcd) hg.pe set_list ha) hs hw h1) fun D σ H B Fz m h q => by
    unfold sLput flE at q
    refine tV_then h ?_
    cases hx : f m with
    | st => rw [hx] at q; exact q
    | ex c => rw [hx] at q; exact fun H' F' x r => q σ H' F' x r
    | ok z =>
      rw [hx] at q
      intro v H1 F1 x1 r1 l1 p1
      have q : EndS X.K ct Wx B Fz D (putL i g z m) := q
      unfold putL at q
      cases e1 : lAt i m with
      | none => rw [e1] at q; exact q.elim
      | some ys =>
        rw [e1] at q
        have q : EndS X.K ct Wx B Fz D (flE g (fun k m => putLK i z ys k m) m) := q
        unfold flE at q
        obtain ⟨a, vs, g1, g2, g3, _⟩ := r1.getL (lAt_some e1)
        refine ⟨_, g1, ?_⟩
        refine tV_then r1 ?_
        cases hg : g m with
        | st => rw [hg] at q; exact q
        | ex c => rw [hg] at q; exact fun H' F' x r => q σ H' F' (x1.trans x) r
        | ok k =>
          rw [hg] at q
          obtain ⟨j, j', rfl, e2, q⟩ := putLK_cases q
          intro u H2 F2 x2 r2 l2 p2
          obtain ⟨a', vs', k1, k2, k3, k4⟩ := r2.write i (lAt_some e1)
          rw [g1] at k1; cases k1
          cases p2
          exact ⟨a, vs', j, j', rfl, rfl, k2, by rw [k3.length]; exact e2, q σ _ F2 (x1.trans x2) (k4 _ _ (RpAll.set (p1.mono l2) j' k3))⟩
def augK (i : Nat) (o : Int → Int → Int) (f : Ms → Rz PyData) (ys : List PyData) (k : PyData) (m : Ms) : Fl := match k with
  | .int j => match ixN ys.length j with
    | some j => match ys[j]? with
      | some x => flE f (fun y m => match ipD o x y with
        | some z => .nx (m.set i (some (.l (ys.set j z))))
        | none => .st) m
      | none => .st
    | none => .st
  | _ => .st
def sLaug (i : Nat) (g : Ms → Rz PyData) (o : Int → Int → Int) (f : Ms → Rz PyData) : Ms → Fl := fun m => match lAt i m with
  | some ys => flE g (fun k m => augK i o f ys k m) m
  | none => .st
theorem get_list : PGet X (rIxL X.K) := by
  intro pins s σ H x y v u Q I rx ry h
  obtain ⟨p, xs, i, z, rfl, rfl, hq, he, q⟩ := h
  cases rx
  obtain ⟨t, rfl⟩ := ry
  obtain ⟨its, r, pl, hz⟩ := I.list hq
  obtain ⟨j, h1, h2, h3, h4, h5⟩ := atI_get he
  obtain ⟨w, ew, rw'⟩ := r.get h2
  have hl := r.length
  have hn := line63
  have fin : EP X pins σ Q w s := ⟨z, H, I, rw', q⟩
  by_cases h0 : 0 ≤ i
  · have hj : i.toNat = j := by
      rw [seqIndex_of h0 h5] at h1
      exact Option.some.inj h1
    exact wpAny_getItem_list pl.isList h0 (by omega) (by rw [hj]; simpa using ew) fin
  · have hj : (i + (its.toArray.size : Int)).toNat = j := by
      rw [seqIndex_neg (by omega) h4] at h1
      rw [List.size_toArray, ← hl]
      exact Option.some.inj h1
    exact wpAny_getItem_list_neg pl.isList (by omega) (by rw [List.size_toArray] <;> omega) (by omega) (by rw [hj]; simpa using ew) fin
theorem ds_laug {y : Str} {p2 p3 : Pos} {ix : Expr} {f g : Ms → Rz PyData} {op : Operator} {o : Int → Int → Int} (i : Nat) (ho : PIp X op (ipI o)) (hg : DV X ct Wx ix g) (hf : DV X ct Wx e f) (hN : X.N[i]? = some y := by rfl)
    (hv : Vis X.env.scope y := by first | exact Or.inl rfl | exact Or.inr (Or.inl rfl) | exact Or.inr (Or.inr rfl)) (hd : (y == ("__debug__" : Str)) = false := by decide) (hcd : (y == ("__classdict__" : Str)) = false := by decide)
    (ha : ∀ ov iv new, augStore ix ov iv new = (do holding [new, ov, iv] (setItem ov iv new); release [new, ov, iv] []; pure .next) := by intros; rfl) :
    DS X ct Wx (.AugAssign (.Subscript (.Name y p2) ix p3) op e pos) (sLaug i g o f) :=
  ds_of (ps_augS (pe_var hN hv hd hcd) hg.pe get_list hf.pe ho set_list ha) fun D σ H B Fz m h q => by
    unfold sLaug at q
    cases e1 : lAt i m with
    | none => rw [e1] at q; exact q.elim
    | some ys =>
      rw [e1] at q
      have q : EndS X.K ct Wx B Fz D (flE g (fun k m => augK i o f ys k m) m) := q
      obtain ⟨a, vs, g1, g2, g3, _⟩ := h.getL (lAt_some e1)
      refine ⟨_, g1, ?_⟩
      unfold flE at q
      refine tV_then h ?_
      cases hg : g m with
      | st => rw [hg] at q; exact q
      | ex c => rw [hg] at q; exact fun H' F' x r => q σ H' F' x r
      | ok k =>
        rw [hg] at q
        intro u H2 F2 x2 r2 l2 p2
        have q : EndS X.K ct Wx B Fz D (augK i o f ys k m) := q
        unfold augK at q
        split at q
        · rename_i j
          split at q
          · rename_i j' e2
            split at q
            · rename_i x e3
              cases p2
              obtain ⟨a', vs', k1, k2, k3, _⟩ := r2.getL (lAt_some e1)
              rw [g1] at k1; cases k1
              obtain ⟨v, hv, rv⟩ := k3.get' e3
              refine ⟨a, vs', _, v, rfl, rfl, .inl (.inl k2), ?_, ?_⟩
              · show atI vs' _ = some v
                unfold atI
                rw [k3.length, e2]
                exact hv
              unfold flE at q
              refine tV_then r2 ?_
              cases hf : f m with
              | st => rw [hf] at q; exact q
              | ex c => rw [hf] at q; exact fun H' F' x r => q σ H' F' (x2.trans x) r
              | ok y' =>
                rw [hf] at q
                intro u3 H3 F3 x3 r3 l3 p3
                have q : EndS X.K ct Wx B Fz D (match ipD o x y' with | some z => .nx (m.set i (some (.l (ys.set j' z)))) | none => .st) := q
                cases hz : ipD o x y' with
                | none => rw [hz] at q; exact q.elim
                | some z =>
                  rw [hz] at q
                  unfold ipD at hz
                  split at hz
                  · rename_i i1 i2
                    cases hz
                    cases rv; cases p3
                    refine ⟨i1, i2, rfl, rfl, ?_⟩
                    obtain ⟨a', vs', k1, k2, k3, k4⟩ := r3.write i (lAt_some e1)
                    rw [g1] at k1; cases k1
                    exact ⟨a, vs', _, j', rfl, rfl, k2, by rw [k3.length]; exact e2, q σ _ F3 (x2.trans x3) (k4 _ _ (RpAll.set (.int _) j' k3))⟩
                  · cases hz
            · exact q.elim
          · exact q.elim
        · exact q.elim
/-! ### in -/
def memD : PyData → PyData → Option Bool := fun x y => match y with
  | .list xs => if min (PyData.depthAll xs) x.depth ≤ 100 then some (xs.any fun z => PyData.eqv z x) else none
  | .tuple xs => if min (PyData.depthAll xs) x.depth ≤ 100 then some (xs.any fun z => PyData.eqv z x) else none
  | _ => none
def nmemD (x y : PyData) : Option Bool := (memD x y).map not
theorem op_in (hu : X.A.units + 105 < cLine) : OpR X (compareOp .In) (rOf (pEq X.K memD)) := op_of fun s v u x y as bs b Q E r1 r2 p1 p2 e q => by
  unfold memD at e
  split at e
  · split at e
    · cases e
      exact PySem.SeqAt.in_list_data r2 r1 (by simpa [PyData.plain] using p2) p1 (by omega) (q s.toks)
    · cases e
  · split at e
    · cases e
      exact PySem.SeqAt.in_tuple_data r2 r1 (by simpa [PyData.plain] using p2) p1 (by omega) (q s.toks)
    · cases e
  · cases e
theorem op_nin (hu : X.A.units + 105 < cLine) : OpR X (compareOp .NotIn) (rOf (pEq X.K nmemD)) := op_of fun s v u x y as bs b Q E r1 r2 p1 p2 e q => by
  unfold nmemD memD at e
  split at e
  · split at e
    · cases e
      exact PySem.SeqAt.notIn_list_data r2 r1 (by simpa [PyData.plain] using p2) p1 (by omega) (q s.toks)
    · cases e
  · split at e
    · cases e
      exact PySem.SeqAt.notIn_tuple_data r2 r1 (by simpa [PyData.plain] using p2) p1 (by omega) (q s.toks)
    · cases e
  · cases e
end
end Dl
set_option Elab.async false
set_option linter.all false
set_option maxRecDepth 100000
/-! D18: methods that look for an item; sorted of data; sets of ints. -/
namespace Dl
open PySem PySem.Spec PyProof.Rows L2
section
variable {X : Cx} {ct : CT} {Wx : WX} {e a b c : Expr} {p pos : Pos}
/-! ### xs.index(y), xs.count(y) -/
def cntL (xs : List PyData) (y : PyData) : Option Int := if min (PyData.depthAll xs) y.depth ≤ 100 then some ((xs.countP fun z => PyData.eqv z y : Nat) : Int) else none
def idxL (xs : List PyData) (y : PyData) : Option Int := if min (PyData.depthAll xs) y.depth ≤ 100 then (xs.findIdx? fun z => PyData.eqv z y).map fun (i : Nat) => (i : Int) else none
def rML (K : PySem.W.Frag) (g : List PyData → PyData → Option Int) : V → List V → Hp → VK → Prop := fun x xs H Q => ∃ (l : Addr) (y : V) (d : PyData) (ds : List PyData) (i : Int), x = V.ref l ∧ xs = [y] ∧ Dp K H y d ∧ d.plain = true ∧ PyData.plainAll ds = true ∧
  Dp K H x (.list ds) ∧ g ds d = some i ∧ Q (.int i) H
def rMT (K : PySem.W.Frag) (g : List PyData → PyData → Option Int) : V → List V → Hp → VK → Prop := fun x xs H Q => ∃ (l : Addr) (y : V) (d : PyData) (ds : List PyData) (i : Int), x = V.ref l ∧ xs = [y] ∧ Dp K H y d ∧ d.plain = true ∧ PyData.plainAll ds = true ∧
  Dp K H x (.tuple ds) ∧ g ds d = some i ∧ Q (.int i) H
theorem countP_plain {h : Heap} {xs : List PyData} {vs : List Value} {as : List Addr} {d : PyData} (hp : PyData.plainAll xs = true) (r : ReadsAll h vs xs as) : vs.countP (fun u => PyData.eqv (SeqAt.readOf h u) d) = xs.countP fun z => PyData.eqv z d := by
  rw [← SeqAt.readsAll_map_plain xs _ _ hp r, List.countP_map]
  rfl
theorem cntL_eq {ds : List PyData} {d : PyData} {i : Int} (h : cntL ds d = some i) : min (PyData.depthAll ds) d.depth ≤ 100 ∧ i = ((ds.countP fun z => PyData.eqv z d : Nat) : Int) := by
  unfold cntL at h
  split at h
  · rename_i hd
    cases h
    exact ⟨hd, rfl⟩
  · cases h
theorem idxL_eq {ds : List PyData} {d : PyData} {i : Int} (h : idxL ds d = some i) : min (PyData.depthAll ds) d.depth ≤ 100 ∧ ∃ j : Nat, i = (j : Int) ∧ (ds.findIdx? fun z => PyData.eqv z d) = some j := by
  unfold idxL at h
  split at h
  · rename_i hd
    obtain ⟨j, h1, h2⟩ := Option.map_eq_some_iff.mp h
    exact ⟨hd, j, h2.symm, h1⟩
  · cases h
theorem mt_cntL (hu : X.A.units + 105 < cLine) : MtR X "list.count" (rML X.K cntL) := by
  intro pins s σ H x xs v us Q I rx rxs h
  obtain ⟨l, y, d, ds, i, rfl, rfl, hy, pd, pds, hx, hi, q⟩ := h
  obtain ⟨hd, rfl⟩ := cntL_eq hi
  cases rx
  obtain ⟨u, rfl, ru⟩ := rxs.one
  obtain ⟨bs, r1⟩ := Dp.reads I d y u hy ru
  obtain ⟨as, r2⟩ := Dp.reads I (.list ds) (.ref l) (.ref l) hx rfl
  cases r2 with
  | @list _ o its _ _ _ h1 h2 h3 h4 =>
    obtain ⟨cls, dd, data, sl⟩ := o
    simp only at h2 h3
    subst h2 h3
    refine call_meets PySem.F.slot_list_count ⟨_, h1, rfl⟩ PySem.F.entry_list_count (PySem.F.args_list_count_2 _ _)
      (SeqAt.list_countAt l its _ dd sl u fun z => PyData.eqv (SeqAt.readOf s.heap z) d) ⟨h1, SeqAt.items_plain h4 r1 pds pd (by omega), ?_⟩
    rw [countP_plain pds h4]
    exact ⟨.int _, H, I.tok _, ⟨_, rfl⟩, q⟩
theorem mt_cntT (hu : X.A.units + 105 < cLine) : MtR X "tuple.count" (rMT X.K cntL) := by
  intro pins s σ H x xs v us Q I rx rxs h
  obtain ⟨l, y, d, ds, i, rfl, rfl, hy, pd, pds, hx, hi, q⟩ := h
  obtain ⟨hd, rfl⟩ := cntL_eq hi
  cases rx
  obtain ⟨u, rfl, ru⟩ := rxs.one
  obtain ⟨bs, r1⟩ := Dp.reads I d y u hy ru
  obtain ⟨as, r2⟩ := Dp.reads I (.tuple ds) (.ref l) (.ref l) hx rfl
  cases r2 with
  | @tuple _ o its _ _ _ h1 h2 h3 h4 =>
    obtain ⟨cls, dd, data, sl⟩ := o
    simp only at h2 h3
    subst h2 h3
    refine call_meets PySem.F.slot_tuple_count ⟨_, h1, rfl⟩ PySem.F.entry_tuple_count (PySem.F.args_tuple_count_2 _ _)
      (SeqAt.tuple_countAt l its _ dd sl u fun z => PyData.eqv (SeqAt.readOf s.heap z) d) ⟨h1, SeqAt.items_plain h4 r1 pds pd (by omega), ?_⟩
    rw [countP_plain pds h4]
    exact ⟨.int _, H, I.tok _, ⟨_, rfl⟩, q⟩
theorem find_at {h : Heap} {xs : List PyData} {its : Array Value} {as : List Addr} {d : PyData} {j : Nat} (hp : PyData.plainAll xs = true) (r : ReadsAll h its.toList xs as) (hj : (xs.findIdx? fun z => PyData.eqv z d) = some j) :
    ∃ hj : j < its.size, PyData.eqv (SeqAt.readOf h its[j]) d = true ∧ ∀ m (hm : m < its.size), m < j → PyData.eqv (SeqAt.readOf h its[m]) d = false := by
  have e := SeqAt.readsAll_map_plain xs _ _ hp r
  have hl : its.size = xs.length := by rw [← e, List.length_map, Array.length_toList]
  rw [List.findIdx?_eq_some_iff_getElem] at hj
  obtain ⟨h1, h2, h3⟩ := hj
  have at_ : ∀ m (hm : m < its.size) (hm' : m < xs.length), SeqAt.readOf h its[m] = xs[m] := fun m hm hm' => by
    have := List.getElem_of_eq e (i := m) (by simpa using hm)
    rw [← this, List.getElem_map, Array.getElem_toList]
  refine ⟨by omega, by rw [at_ j (by omega) h1]; exact h2, fun m hm hmj => ?_⟩
  rw [at_ m hm (by omega)]
  simpa using h3 m hmj
theorem mt_idxL (hu : X.A.units + 105 < cLine) : MtR X "list.index" (rML X.K idxL) := by
  intro pins s σ H x xs v us Q I rx rxs h
  obtain ⟨l, y, d, ds, i, rfl, rfl, hy, pd, pds, hx, hi, q⟩ := h
  obtain ⟨hd, j, rfl, hj⟩ := idxL_eq hi
  cases rx
  obtain ⟨u, rfl, ru⟩ := rxs.one
  obtain ⟨bs, r1⟩ := Dp.reads I d y u hy ru
  have hlen : ds.length ≤ sizeLine := by
    cases hx with
    | lst hs ha =>
      obtain ⟨its, rv, _, hlen⟩ := I.list hs
      obtain ⟨as, h4⟩ := Dp.readsAll I ds _ its ha rv
      rw [← SeqAt.ReadsAll.length ds its as h4, ← rv.length]
      exact hlen
  obtain ⟨as, r2⟩ := Dp.reads I (.list ds) (.ref l) (.ref l) hx rfl
  cases r2 with
  | @list _ o its _ _ _ h1 h2 h3 h4 =>
    obtain ⟨cls, dd, data, sl⟩ := o
    simp only at h2 h3
    subst h2 h3
    obtain ⟨hj1, hj2, hj3⟩ := find_at pds h4 hj
    have hjd := (List.findIdx?_eq_some_iff_getElem.mp hj).1
    rw [sizeLine_eq] at hlen
    refine call_meets PySem.F.slot_list_index ⟨_, h1, rfl⟩ PySem.F.entry_list_index (PySem.F.args_list_index_2 _ _)
      (SeqAt.list_indexAt l its _ dd sl u (fun z => PyData.eqv (SeqAt.readOf s.heap z) d) j hj1 (by omega) hj2 hj3) ⟨h1, SeqAt.items_plain h4 r1 pds pd (by omega), ?_⟩
    exact ⟨.int _, H, I.tok _, ⟨_, rfl⟩, q⟩
theorem mt_idxT (hu : X.A.units + 105 < cLine) : MtR X "tuple.index" (rMT X.K idxL) := by
  intro pins s σ H x xs v us Q I rx rxs h
  obtain ⟨l, y, d, ds, i, rfl, rfl, hy, pd, pds, hx, hi, q⟩ := h
  obtain ⟨hd, j, rfl, hj⟩ := idxL_eq hi
  cases rx
  obtain ⟨u, rfl, ru⟩ := rxs.one
  obtain ⟨bs, r1⟩ := Dp.reads I d y u hy ru
  obtain ⟨as, r2⟩ := Dp.reads I (.tuple ds) (.ref l) (.ref l) hx rfl
  cases r2 with
  | @tuple _ o its _ _ _ h1 h2 h3 h4 =>
    obtain ⟨cls, dd, data, sl⟩ := o
    simp only at h2 h3
    subst h2 h3
    obtain ⟨hj1, hj2, hj3⟩ := find_at pds h4 hj
    refine call_meets PySem.F.slot_tuple_index ⟨_, h1, rfl⟩ PySem.F.entry_tuple_index (PySem.F.args_tuple_index_2 _ _)
      (TI.tuple_indexAt l its _ dd sl u (fun z => PyData.eqv (SeqAt.readOf s.heap z) d) j hj1 hj2 hj3) ⟨h1, SeqAt.items_plain h4 r1 pds pd (by omega), ?_⟩
    exact ⟨.int _, H, I.tok _, ⟨_, rfl⟩, q⟩
/-- xs.m(y) of a list -/
def eML (g : List PyData → PyData → Option Int) (fo fa : Ms → Rz PyData) : Ms → Rz W := fun m => (fo m).bind fun x => match x with
  | .list ds => (fa m).bind fun y => ofO ((g ds y).map fun i => .d (.int i))
  | _ => .st
theorem de_mL {id : String} {name : Str} {o : Expr} {g : List PyData → PyData → Option Int} {fo fa : Ms → Rz PyData} {apos cpos : Pos} (slot : Slot "list" name id) (hty : typeOf (.builtin id) = pure (.type "method_descriptor")) (hm : MtR X id (rML X.K g)) (ho : DR X ct Wx o fo) (ha : DB X ct Wx [e] [fa])
    (hbase : attributeBase o name X.env (eval o X.env) = eval o X.env := by rfl)
    (hfew : ((backTo cpos (starEach [e] X.env)).all (fun x => !x.1) && (backToKw cpos (keywordEach [] X.env)).all (fun x => x.1.isSome)
      && decide (([e] : List Expr).length + ([] : List Keyword).length + (if ([] : List Keyword).isEmpty then 0 else 1) < 30)) = true := by rfl)
    (hline : (apos.endLine == cpos.line) = true := by rfl) (hs : starEach [e] X.env = (false, eval e X.env) :: starEach [] X.env := by rfl) (hplain : (backTo cpos (starEach [] X.env)).any (·.1) = false := by rfl) :
    DE X ct Wx (.Call (.Attribute o name apos) [e] [] cpos) (eML g fo fa) := ⟨PE_imp (pe_bm PySem.F.plainAttrs_list slot hty hm ho.pe ha.pa hbase hfew hline hs hplain) fun σ H Q ⟨B, Fz, m, h, q⟩ => by
  unfold eML at q
  refine tR_then h ?_
  cases hx : fo m with
  | st => rw [hx] at q; exact q
  | ex c => rw [hx] at q; exact q
  | ok x =>
    intro v H1 F1 x1 r1 l1 s1
    rw [hx, Rz.bind_ok] at q
    cases x with
    | list ds =>
      obtain ⟨a, vs, rfl, g1, g2⟩ := (s1.vw r1).list
      refine ⟨.inl ⟨rfl, vs, .inl (.inl g1)⟩, tAr_then r1 ?_⟩
      simp only [evalAllD]
      cases hy : fa m with
      | st => rw [hy] at q; exact q
      | ex c => rw [hy] at q; exact fun H' F' x r => q H' F' (x1.trans x) r
      | ok y =>
        rw [hy] at q
        simp only [Rz.bind_ok] at q ⊢
        intro us H2 F2 x2 r2 l2 s2
        obtain ⟨u, rfl, su⟩ := pair1 s2
        have vx := (s1.le l2).vw r2
        have vy := su.vw r2
        cases hg : g ds y with
        | none => rw [hg] at q; exact q.elim
        | some i =>
          rw [hg] at q
          exact ⟨a, u, y, ds, i, rfl, rfl, vy.dp, vy.plain, by have := vx.plain; simpa [PyData.plain] using this, vx.dp, hg, q _ H2 F2 (x1.trans x2) (r2.push (.int i))⟩
    | _ => exact q.elim⟩
/-! ### list(range(..)), tuple(range(..)) -/
noncomputable def rgW (T : Bool) (i j : Int) : Option W := if rngOk i j = true then some (if T = true then .d (.tuple (rngL i (j - i).toNat)) else .l (rngL i (j - i).toNat)) else none
noncomputable def rgC (T : Bool) : List PyData → Option W
  | [.int j] => rgW T 0 j
  | [.int i, .int j] => rgW T i j
  | _ => none
theorem rp_rgV {K : PySem.W.Frag} {Fz : Addr → Prop} {H : Hp} (i j : Int) : RpAll K Fz H (rgV i j) (rngL i (j - i).toNat) := by
  unfold rgV rngL
  generalize List.range (j - i).toNat = l
  induction l with
  | nil => exact .nil
  | cons i l ih => exact .cons (.int _) ih
theorem rgW_ok {T : Bool} {i j : Int} {w : W} (h : rgW T i j = some w) : RgOk i j ∧ w = (if T = true then .d (.tuple (rngL i (j - i).toNat)) else .l (rngL i (j - i).toNat)) := by
  unfold rgW at h
  split at h
  · rename_i hk
    obtain ⟨h1, h2, h3, h4, h5⟩ := rngOk_iff.mp hk
    refine ⟨⟨h1, h2, h3, h4, ?_⟩, (Option.some.inj h).symm⟩
    have e24 : (2 : Nat) ^ 24 = 16777216 := by decide
    rw [e24]; omega
  · cases h
variable {p2 pos2 : Pos}
theorem rg_end {K : PySem.W.Frag} {T : Bool} {i j : Int} {w : W} {B H : Hp} {Fz F1 : Addr → Prop} {σ : L2.St} {m : Ms} {Q : VK} (x : Ext B Fz F1) (h : Rs K B F1 H σ m) (e : rgW T i j = some w) (q : ∀ v H' Fz', Ext B Fz Fz' → rE K B Fz' H' σ m v w → Q v H') :
    RgOk i j ∧ (if T = true then ∀ l, H l = none → Q (.ref l) (upd H l (.tup (rgV i j))) else ∀ l, H l = none → Q (.ref l) (upd H l (.lst (rgV i j)))) := by
  obtain ⟨h1, rfl⟩ := rgW_ok e
  refine ⟨h1, ?_⟩
  cases T with
  | true => exact fun l hl => q _ _ F1 x (h.newTup hl (rp_rgV i j))
  | false => exact fun l hl => q _ _ F1 x (h.newLst hl (rp_rgV i j))
theorem de_tupRg1 {f : Ms → Rz PyData} (ha : DR X ct Wx a f) (hr : X.mg "range" = none) (ht : X.mg "tuple" = none) (hg : Gl X "range" := by rfl) (hgt : Gl X "tuple" := by rfl) (hc : X.calm = true := by rfl) (na : starEach [a] X.env = (false, eval a X.env) :: starEach [] X.env := by rfl)
    (nb : starEach [.Call (.Name "range" p2) [a] [] pos2] X.env = (false, eval (.Call (.Name "range" p2) [a] [] pos2) X.env) :: starEach [] X.env := by rfl) : DE X ct Wx (.Call (.Name "tuple" p) [.Call (.Name "range" p2) [a] [] pos2] [] pos) (eCall (rgC true) [f]) :=
  ⟨PE_imp (pe_tupRg hc hgt ht (prg_1 hg hr ha.pe na) nb) fun σ H Q ⟨B, Fz, m, h, q⟩ => by
    simp only [eCall, evalAllD] at q
    refine tR_then h ?_
    cases hx : f m with
    | st => rw [hx] at q; exact q
    | ex c => rw [hx] at q; exact q
    | ok x =>
      intro v H1 F1 x1 r1 l1 s1
      rw [hx] at q
      simp only [Rz.bind_ok] at q
      cases hw : rgC true [x] with
      | none => rw [hw] at q; exact q.elim
      | some w =>
        rw [hw] at q
        unfold rgC at hw
        split at hw
        · rename_i j e
          obtain rfl := (List.cons.inj e).1
          exact ⟨j, (s1.vw r1).int, rg_end x1 r1 hw q⟩
        · rename_i i j e; exact absurd (List.cons.inj e).2 (by simp)
        · cases hw⟩
theorem de_lstRg1 {f : Ms → Rz PyData} (ha : DR X ct Wx a f) (hr : X.mg "range" = none) (ht : X.mg "list" = none) (hg : Gl X "range" := by rfl) (hgt : Gl X "list" := by rfl) (hc : X.calm = true := by rfl) (na : starEach [a] X.env = (false, eval a X.env) :: starEach [] X.env := by rfl)
    (nb : starEach [.Call (.Name "range" p2) [a] [] pos2] X.env = (false, eval (.Call (.Name "range" p2) [a] [] pos2) X.env) :: starEach [] X.env := by rfl) : DE X ct Wx (.Call (.Name "list" p) [.Call (.Name "range" p2) [a] [] pos2] [] pos) (eCall (rgC false) [f]) :=
  ⟨PE_imp (pe_listRg hc hgt ht (prg_1 hg hr ha.pe na) nb) fun σ H Q ⟨B, Fz, m, h, q⟩ => by
    simp only [eCall, evalAllD] at q
    refine tR_then h ?_
    cases hx : f m with
    | st => rw [hx] at q; exact q
    | ex c => rw [hx] at q; exact q
    | ok x =>
      intro v H1 F1 x1 r1 l1 s1
      rw [hx] at q
      simp only [Rz.bind_ok] at q
      cases hw : rgC false [x] with
      | none => rw [hw] at q; exact q.elim
      | some w =>
        rw [hw] at q
        unfold rgC at hw
        split at hw
        · rename_i j e
          obtain rfl := (List.cons.inj e).1
          exact ⟨j, (s1.vw r1).int, rg_end x1 r1 hw q⟩
        · rename_i i j e; exact absurd (List.cons.inj e).2 (by simp)
        · cases hw⟩
theorem rg_two {K : PySem.W.Frag} {T : Bool} {fa fb : Ms → Rz PyData} {H : Hp} {σ : L2.St} {Q : VK} (w : tE K ct Wx (eCall (rgC T) [fa, fb]) σ H Q) :
    tR K ct Wx fa σ H fun x H1 => tR K ct Wx fb σ H1 fun y H2 => ∃ i j, x = .int i ∧ y = .int j ∧ (RgOk i j ∧ (if T = true then ∀ l, H2 l = none → Q (.ref l) (upd H2 l (.tup (rgV i j))) else ∀ l, H2 l = none → Q (.ref l) (upd H2 l (.lst (rgV i j))))) := by
  obtain ⟨B, Fz, m, h, q⟩ := w
  simp only [eCall, evalAllD] at q
  refine tR_then h ?_
  cases hx : fa m with
  | st => rw [hx] at q; exact q
  | ex c => rw [hx] at q; exact q
  | ok x =>
    intro v H1 F1 x1 r1 l1 s1
    rw [hx] at q
    simp only [Rz.bind_ok] at q
    refine tR_then r1 ?_
    cases hy : fb m with
    | st => rw [hy] at q; exact q
    | ex c => rw [hy] at q; exact fun H' F' x r => q H' F' (x1.trans x) r
    | ok y =>
      rw [hy] at q
      simp only [Rz.bind_ok] at q
      intro u H2 F2 x2 r2 l2 s2
      cases hw : rgC T [x, y] with
      | none => rw [hw] at q; exact q.elim
      | some w =>
        rw [hw] at q
        unfold rgC at hw
        split at hw
        · rename_i j e; exact absurd (List.cons.inj e).2 (by simp)
        · rename_i i j e
          cases e
          exact ⟨_, _, ((s1.le l2).vw r2).int, (s2.vw r2).int, rg_end (x1.trans x2) r2 hw q⟩
        · cases hw
theorem de_tupRg2 {f g : Ms → Rz PyData} (ha : DR X ct Wx a f) (hb : DR X ct Wx b g) (hr : X.mg "range" = none) (ht : X.mg "tuple" = none) (hg : Gl X "range" := by rfl) (hgt : Gl X "tuple" := by rfl) (hc : X.calm = true := by rfl) (na : starEach [a, b] X.env = (false, eval a X.env) :: starEach [b] X.env := by rfl) (nb : starEach [b] X.env = (false, eval b X.env) :: starEach [] X.env := by rfl) (hp : (backTo pos2 (starEach [b] X.env)).any (·.1) = false := by rfl)
    (nc : starEach [.Call (.Name "range" p2) [a, b] [] pos2] X.env = (false, eval (.Call (.Name "range" p2) [a, b] [] pos2) X.env) :: starEach [] X.env := by rfl) : DE X ct Wx (.Call (.Name "tuple" p) [.Call (.Name "range" p2) [a, b] [] pos2] [] pos) (eCall (rgC true) [f, g]) :=
  ⟨PE_imp (pe_tupRg hc hgt ht (prg_2 hg hr ha.pe hb.pe na nb hp) nc) fun σ H Q w => rg_two (T := true) w⟩
theorem de_lstRg2 {f g : Ms → Rz PyData} (ha : DR X ct Wx a f) (hb : DR X ct Wx b g) (hr : X.mg "range" = none) (ht : X.mg "list" = none) (hg : Gl X "range" := by rfl) (hgt : Gl X "list" := by rfl) (hc : X.calm = true := by rfl) (na : starEach [a, b] X.env = (false, eval a X.env) :: starEach [b] X.env := by rfl) (nb : starEach [b] X.env = (false, eval b X.env) :: starEach [] X.env := by rfl) (hp : (backTo pos2 (starEach [b] X.env)).any (·.1) = false := by rfl)
    (nc : starEach [.Call (.Name "range" p2) [a, b] [] pos2] X.env = (false, eval (.Call (.Name "range" p2) [a, b] [] pos2) X.env) :: starEach [] X.env := by rfl) : DE X ct Wx (.Call (.Name "list" p) [.Call (.Name "range" p2) [a, b] [] pos2] [] pos) (eCall (rgC false) [f, g]) :=
  ⟨PE_imp (pe_listRg hc hgt ht (prg_2 hg hr ha.pe hb.pe na nb hp) nc) fun σ H Q w => rg_two (T := false) w⟩
end
end Dl
set_option Elab.async false
set_option linter.all false
set_option maxRecDepth 100000
/-! D19: sorted of data; sets of ints, sorted. -/
namespace Dl
open PySem PySem.Spec PyProof.Rows L2
def SortOk (ds : List PyData) : Prop := PySem.W.AllAlike ds ∧ PySem.W.Sortable ds ∧ ds.length ≤ 10000000 ∧ PyData.depthAll ds ≤ 90
noncomputable def dsort (ds : List PyData) : List PyData := ds.mergeSort (PySem.W.dataLe false id)
open Classical in
noncomputable def sortD : PyData → Option W
  | .list ds => if SortOk ds then some (.l (dsort ds)) else none
  | _ => none
section
variable {X : Cx} {ct : CT} {Wx : WX} {e a b c : Expr} {p pos : Pos}
def rSortD (K : PySem.W.Frag) : List V → Hp → VK → Prop := fun vs H Q => ∃ (a : Addr) (us : List V) (Fz : Addr → Prop) (ds : List PyData), vs = [V.ref a] ∧ SqL K H a us ∧ RpAll K Fz H us ds ∧ SortOk ds ∧ ∀ (ys : List V) (p : Addr), RpAll K Fz H ys (dsort ds) → H p = none → Q (.ref p) (upd H p (.lst ys))
theorem each_of {K : PySem.W.Frag} {Fz : Addr → Prop} {H : Hp} : ∀ {us : List V} {ds : List PyData} {its : List Value}, RpAll K Fz H us ds → Vals us its → PySem.W.EachIs (fun v d => ∃ y, RelV y v ∧ Rp K Fz H y d) its ds
  | [], _, _, .nil, .nil => .nil
  | _ :: _, _, _, .cons r rs, .cons q qs => .cons ⟨_, q, r⟩ (each_of rs qs)
theorem of_each {K : PySem.W.Frag} {Fz : Addr → Prop} {H : Hp} : ∀ {its : List Value} {ds : List PyData}, PySem.W.EachIs (fun v d => ∃ y, RelV y v ∧ Rp K Fz H y d) its ds → ∃ us, RpAll K Fz H us ds ∧ Vals us its
  | _, _, .nil => ⟨[], .nil, .nil⟩
  | _, _, .cons ⟨y, q, r⟩ t => by
    obtain ⟨us, h1, h2⟩ := of_each t
    exact ⟨y :: us, .cons r h1, .cons q h2⟩
theorem depth_mem {d : PyData} : ∀ {ds : List PyData}, d ∈ ds → d.depth ≤ PyData.depthAll ds
  | [], h => by simp at h
  | x :: ds, h => by
    rw [PyData.depthAll]
    rcases List.mem_cons.mp h with rfl | h
    · exact Nat.le_max_left _ _
    · exact Nat.le_trans (depth_mem h) (Nat.le_max_right _ _)
theorem cr_sortD (hu : X.A.units + 105 < cLine) : CallR X (.builtin "sorted") (rSortD X.K) := by
  intro pins s σ H vs us Q I r h
  obtain ⟨a, ws, Fz, ds, rfl, hs, hr, ⟨o1, o2, o3, o4⟩, q⟩ := h
  obtain ⟨its, rv, hl, _⟩ := I.list hs
  rw [Vals.ref1 r]
  have e1 := each_of hr rv
  have e2 : PySem.W.EachIs (fun v d => ∃ as, Reads s.heap v (id d) as) its ds := e1.mono fun v d ⟨y, ry, rp⟩ => Dp.reads I d y v rp.dp ry
  refine PySem.W.sorted_data (enc := id) hl.isList e1 e2 (by rwa [List.map_id]) (by rwa [List.map_id]) (by rw [sizeLine_eq]; omega) (fun b hb => by have := depth_mem hb; show X.A.units + 2 + b.depth < cLine; omega) fun out hlen e3 => ?_
  obtain ⟨ys, y1, y2⟩ := of_each e3
  obtain ⟨ep, he'⟩ := PyProof.Rows.sortedAll_at s.heap its out.toArray
  have hyl : ys.length ≤ sizeLine := by rw [y2.length, hlen, sizeLine_eq]; omega
  exact ⟨.ref _, upd H (s.heap.objs.size + 1) (.lst ys), I.laid (t' := s.toks) (fun _ _ => PyProof.Rows.sortedAll_old) (Nat.le_succ _) ⟨hyl, out, ep, y2, by simpa using he'⟩, rfl, q ys _ y1 (I.hok.fresh (Nat.le_succ _))⟩
theorem ok_sortD {K : PySem.W.Frag} : CallOk K (rSortD K) (g1 sortD) := call1 fun {B Fz H σ m v x w Q} hr hv e q => by
  unfold sortD at e
  split at e
  · rename_i ds
    split at e
    · rename_i ho
      cases e
      obtain ⟨p, vs, rfl, s1, r1⟩ := hv.list
      exact ⟨p, vs, Fz, ds, rfl, .inl (.inl s1), r1, ho, fun ys l hy hl => q _ _ (hr.newLst hl hy)⟩
    · cases e
  · cases e
end
section
variable {P : Program} {w : World} {A : Around} {E : Value → Shared → Prop} {s : Shared}
set_option maxHeartbeats 3200000 in
/-- set of a list of ints -/
theorem set_listI {l : Addr} {items : Array Value} (ns : List Int) {Q : Value → Shared → Prop} (hh : A.handled = none) (hl : s.heap.IsList l items) (hit : IntsAre items.toList ns) (hb : ns.length + 1 < scanBound)
    (h : ∀ (h' : Heap) (tk c : Nat), SetR w h' s.heap.objs.size (fun j => decide (j ∈ ns)) c → c ≤ ns.length → (∀ b o, s.heap.get? b = some o → h'.get? b = some o) → Q (.ref s.heap.objs.size) { s with heap := h', toks := tk }) : wpAny (model P w) A (call (.type "set") [.ref l]) Q E s := by
  have isz : items.size = ns.length := by rw [← Array.length_toList]; exact IntsAre.length hit
  obtain ⟨c, tl, hmro⟩ := F.called_set.mro
  have made := F.called_set.made
  have sub := F.called_set.sub
  refine wpAny_call (codeAny_of_tree ?_)
  show wpAny _ _ (callAny (.type "set") _) _ _ _
  refine wpAny_pure ⟨Code.quiet_builtin _ (by decide +kernel), codeAny_builtin F.entry_type_call ?_⟩
  rw [Around.under_plain (weight_type_call_type "set" [.ref l] []) rfl]
  have nt := F.called_set.notType
  have cc := F.called_set.canCreate
  have tc := F.typeCall_set_1 (.ref l)
  repeat (any_goals (first | assumption | wp_step))
  refine codeAny_mono (code_set_led1 (.ref l) (E := E) (Q₁ := fun ob s1 => ob = .ref s.heap.objs.size ∧ s1 = { s with heap := s.heap.push (freshSet w) }) ⟨rfl, rfl⟩) fun r s1 hr => ?_
  match r, hr with
  | .error e, hr => exact hr
  | .ok (.ret ob), hr =>
    obtain ⟨rfl, rfl⟩ := hr
    have gS : (s.heap.push (freshSet w)).get? s.heap.objs.size = some (freshSet w) := Heap.get?_push_size _ rfl
    have ty : Shared.TypeIs { s with heap := s.heap.push (freshSet w) } (.ref s.heap.objs.size) "set" := ⟨_, gS, rfl⟩
    have il := F.called_set.init.lookup
    have ib := F.called_set.init.bind (.ref s.heap.objs.size)
    repeat (any_goals (first | assumption | wp_step))
    refine codeAny_mono (codeAny_call_builtin (R := wants (fun r s2 => r = .none ∧ ∃ h' tk c, s2 = { s with heap := h', toks := tk } ∧ SetR w h' s.heap.objs.size (fun j => decide (j ∈ ns)) c ∧ c ≤ ns.length ∧ (∀ b o, s.heap.get? b = some o → h'.get? b = some o)) E) F.called_set.init.plain F.entry_set_init (check_set_init_1 ty ?_)) fun r2 s2 hr2 => ?_
    · have ltS : l < s.heap.objs.size := by obtain ⟨_, z, _⟩ := id hl; exact Heap.lt_size z
      obtain ⟨⟨oc, od, odt, osl⟩, ho, hc, nl, hd⟩ := id hl
      simp only at hc hd
      subst hc; subst hd
      have ho' : (s.heap.push (freshSet w)).get? l = some { cls := .type "list", dict := od, data := .seq items nl, slots := osl } := Heap.get?_push_of_some _ ho
      have s1 := F.sub_list_set
      have s2 := F.sub_list_frozenset
      have nd : (Value.type "list" == Value.type "dict") = false := by decide
      have il1 : (s.heap.push (freshSet w)).IsList l items := ⟨_, ho', rfl, nl, rfl⟩
      unfold Builtin.«set.__init__» noKeywords Builtin.Frozenset.updateFrom
      generalize hPI : pyIter = PI
      wp_walk
      subst hPI
      refine wpAny_pyIter_list il1 (wpAny_bind (wpAny_runValue ?_))
      have ha : A.in1.in1.in1.handled = none := by simp [hh]
      have szS : (s.heap.push (freshSet w)).objs.size = s.heap.objs.size + 1 := Heap.size_push ..
      have ne1 : l ≠ (s.heap.push (freshSet w)).objs.size := by rw [szS]; exact Nat.ne_of_lt (Nat.lt_succ_of_lt ltS)
      have nin : s.heap.objs.size ∉ [(s.heap.push (freshSet w)).objs.size, l] := by
        rw [szS]
        intro z
        rcases List.mem_cons.mp z with z | z
        · exact absurd z (Nat.ne_of_lt (Nat.lt_succ_self _))
        · exact absurd (List.mem_singleton.mp z).symm (Nat.ne_of_lt ltS)
      have vals : ∀ (i : Nat) (v : Value), items[i]? = some v → ∃ k t, ns[i]? = some k ∧ v = .int k t := fun i v hv => by
        have hi : i < ns.length := by rw [← isz]; exact (Array.getElem?_eq_some_iff.mp hv).1
        obtain ⟨t, e⟩ := PyProof.Rows.IntsAre.int_at hit i v (by rw [Array.getElem?_toList]; exact hv)
        exact ⟨ns[i], t, List.getElem?_eq_getElem hi, by rw [e, List.getD_eq_getElem?_getD, List.getElem?_eq_getElem hi]; rfl⟩
      refine set_update_ints ((Walks.list ha (s.heap.push (freshSet w)).objs.size l ne1 items).toS) s.heap.objs.size nin ns isz hb vals (items.size - 0) 0 _ (by omega) (Nat.zero_le _)
        ⟨⟨_, Heap.get?_push_size _ rfl, rfl, rfl⟩, il1.push _⟩ ⟨0, Nat.le_refl 0, setR_new_at (Heap.get?_push_of_some _ gS)⟩ fun s' c' hm hc' hS' => ?_
      obtain ⟨h', g2, d', tk', os'⟩ := s'
      obtain rfl : g2 = s.gens := hm.gens
      obtain rfl : d' = s.drawn := hm.drawn
      obtain rfl : os' = s.os := hm.os
      show wpAny _ _ _ _ _ _
      refine wpAny_pure ?_
      show wpAny _ _ (ret Value.none) _ _ _
      rw [isz] at hc'
      refine wpAny_pure ⟨rfl, h', tk', c', rfl, hS', hc', fun b o e => ?_⟩
      have b0 : b < s.heap.objs.size := Heap.lt_size e
      have b1 : b ≠ s.heap.objs.size := Nat.ne_of_lt b0
      have b2 : b ≠ (s.heap.push (freshSet w)).objs.size := by rw [szS]; exact Nat.ne_of_lt (Nat.lt_succ_of_lt b0)
      exact hm.heap b o (by simp only [List.mem_cons, List.not_mem_nil, or_false, not_or]; exact ⟨b1, b2⟩) (Heap.get?_push_of_some _ (Heap.get?_push_of_some _ e))
    · match r2, hr2 with
      | .error e, hr2 => exact hr2
      | .ok (.ret r), hr2 =>
        obtain ⟨rfl, h', tk, c, rfl, hS', g', hk'⟩ := hr2
        repeat (any_goals (first | assumption | wp_step))
        exact h _ _ _ hS' g' hk'
end
end Dl
set_option Elab.async false
set_option linter.all false
set_option maxRecDepth 100000
/-! D20: sorted(set(..)) of ints or of tuples of ints. -/
namespace Dl
open PySem PySem.Spec PyProof.Rows L2
def insI (x : Int) : List Int → List Int
  | [] => [x]
  | y :: r => if x = y then y :: r else if x < y then x :: y :: r else y :: insI x r
def isort (ns : List Int) : List Int := ns.foldr insI []
theorem insI_mem {x z : Int} : ∀ {r : List Int}, z ∈ insI x r ↔ z = x ∨ z ∈ r
  | [] => by simp [insI]
  | y :: r => by
    unfold insI
    split
    · rename_i h; subst h; simp
    · split
      · simp
      · rw [List.mem_cons, insI_mem, List.mem_cons]
        constructor
        · rintro (h | h | h)
          · exact .inr (.inl h)
          · exact .inl h
          · exact .inr (.inr h)
        · rintro (h | h | h)
          · exact .inr (.inl h)
          · exact .inl h
          · exact .inr (.inr h)
theorem isort_mem {z : Int} : ∀ {ns : List Int}, z ∈ isort ns ↔ z ∈ ns
  | [] => by simp [isort]
  | n :: ns => by
    show z ∈ insI n (isort ns) ↔ _
    rw [insI_mem, isort_mem, List.mem_cons]
theorem insI_pw {x : Int} : ∀ {r : List Int}, r.Pairwise (· < ·) → (insI x r).Pairwise (· < ·)
  | [], _ => by simp [insI]
  | y :: r, h => by
    rw [List.pairwise_cons] at h
    unfold insI
    split
    · exact List.pairwise_cons.mpr h
    · split
      · rename_i h1 h2
        refine List.pairwise_cons.mpr ⟨fun z hz => ?_, List.pairwise_cons.mpr h⟩
        rcases List.mem_cons.mp hz with rfl | hz
        · exact h2
        · have := h.1 z hz; omega
      · rename_i h1 h2
        refine List.pairwise_cons.mpr ⟨fun z hz => ?_, insI_pw h.2⟩
        rcases insI_mem.mp hz with rfl | hz
        · omega
        · exact h.1 z hz
theorem isort_pw : ∀ {ns : List Int}, (isort ns).Pairwise (· < ·)
  | [] => .nil
  | n :: ns => insI_pw isort_pw
theorem isort_eq {ns ms : List Int} (h : ms.Pairwise (· < ·)) (hm : ∀ k, k ∈ ms ↔ k ∈ ns) : ms = isort ns :=
  strict_uniq (f := fun (x : Int) => x) h isort_pw fun z => by rw [hm, isort_mem]
section
variable {X : Cx} {ct : CT} {Wx : WX} {e a b : Expr} {p p2 pos pos2 : Pos}
def rSetI (K : PySem.W.Frag) (w : World) : List V → Hp → VK → Prop := fun xs H Q => ∃ (l : Addr) (ns : List Int), xs = [V.ref l] ∧ (SqL K H l (ns.map V.int) ∨ SqT K H l (ns.map V.int)) ∧ ns.length < 64 ∧
  ∀ a c, H a = none → c ≤ ns.length → Q (.ref a) (upd H a (SetO w a (fun j => decide (j ∈ ns)) c))
theorem cr_setI (hc : X.calm = true) : CallR X (.type "set") (rSetI X.K X.w) := by
  intro pins s σ H xs us Q I r ⟨l, ns, ex, hl, h64, q⟩
  subst ex
  rw [Vals.ref1 r]
  have hb : ns.length + 1 < scanBound := by
    have : (65 : Nat) < scanBound := by decide +kernel
    omega
  rcases hl with hl | hl
  · obtain ⟨its, rv, pl, hz⟩ := I.list hl
    refine set_listI (P := X.prog) (w := X.w) ns (I.ok.hd hc) pl.isList rv.ints hb fun h' tk c R hc' k => ?_
    exact ⟨.ref s.heap.objs.size, upd H s.heap.objs.size (SetO X.w s.heap.objs.size _ c), I.laid (t' := tk) k (Nat.le_refl _) (setO_new R), rfl, q _ c (I.hok.fresh (Nat.le_refl _)) hc'⟩
  · obtain ⟨its, rv, pl, hz⟩ := I.tuple hl
    refine call_set_tupI (P := X.prog) (w := X.w) ns (I.ok.hd hc) (show s.heap.IsTuple l its.toArray from pl) rv.ints hb fun h' tk c R hc' k => ?_
    exact ⟨.ref s.heap.objs.size, upd H s.heap.objs.size (SetO X.w s.heap.objs.size _ c), I.laid (t' := tk) k (Nat.le_refl _) (setO_new R), rfl, q _ c (I.hok.fresh (Nat.le_refl _)) hc'⟩
def ssetI (x : PyData) : Option W := (itemsD x).bind fun xs => (intsOf xs).bind fun ns => if ns.length < 64 then some (.l ((isort ns).map .int)) else none
def eSsetI (f : Ms → Rz PyData) : Ms → Rz W := fun m => (f m).bind fun x => ofO (ssetI x)
theorem de_ssetI {f : Ms → Rz PyData} (ha : DR X ct Wx e f) (hms : X.mg "sorted" = none) (hmt : X.mg "set" = none) (hc : X.calm = true := by rfl) (hgs : Gl X "sorted" := by rfl) (hgt : Gl X "set" := by rfl)
    (h1 : starEach [e] X.env = (false, eval e X.env) :: starEach [] X.env := by rfl)
    (h2 : starEach [.Call (.Name "set" p2) [e] [] pos2] X.env = (false, eval (.Call (.Name "set" p2) [e] [] pos2) X.env) :: starEach [] X.env := by rfl) :
    DE X ct Wx (.Call (.Name "sorted" p) [.Call (.Name "set" p2) [e] [] pos2] [] pos) (eSsetI f) :=
  ⟨PE_imp (pe_callB (cr_sortedSet hc) hgs hms (by decide +kernel) (pa_cons (pe_callTy (cr_setI hc) hgt hmt (by decide +kernel) (pa_cons ha.pe pa_nil h1) (by decide) (by decide) h1 (by rfl)) pa_nil h2) (by decide) (by decide) h2 (by rfl)) fun σ H Q ⟨B, Fz, m, h, q⟩ => by
    unfold eSsetI at q
    refine tR_then h ?_
    cases hf : f m with
    | st => rw [hf] at q; exact q
    | ex c => rw [hf] at q; exact q
    | ok x =>
      intro v H1 F1 x1 r1 l1 s1
      rw [hf, Rz.bind_ok] at q
      have vw := s1.vw r1
      cases hw : ssetI x with
      | none => rw [hw] at q; exact q.elim
      | some wv =>
        rw [hw] at q
        have q : ∀ v H' Fz', Ext B Fz Fz' → rE X.K B Fz' H' σ m v wv → Q v H' := q
        unfold ssetI at hw
        obtain ⟨xs, hi, hw⟩ := Option.bind_eq_some_iff.mp hw
        obtain ⟨ns, hn, hw⟩ := Option.bind_eq_some_iff.mp hw
        split at hw
        · rename_i h64
          cases hw
          have ex := intsOf_eq hn
          subst ex
          obtain ⟨l, us, rfl, hl, hr⟩ := vw_items vw hi
          rw [RpAll.ints hr] at hl
          refine ⟨l, ns, rfl, hl, h64, fun a c ha hc' => ⟨a, _, c, rfl, upd_same, by omega, fun ms p h1 h2 h3 h4 => ?_⟩⟩
          have r2 := r1.new (o := SetO X.w a (fun j => decide (j ∈ ns)) c) ha
          have e := isort_eq (ns := ns) h1 fun k => by rw [h2]; simp
          subst e
          exact q _ _ F1 x1 (r2.newLst h4 (RpAll.of_ints _))
        · cases hw⟩
/-- of ints, or of tuples of ints -/
def ssetG (x : PyData) : Option W := match ssetI x with
  | some w => some w
  | none => ssetD x
def eSsetG (f : Ms → Rz PyData) : Ms → Rz W := fun m => (f m).bind fun x => ofO (ssetG x)
theorem de_ssetG {f : Ms → Rz PyData} (hu : X.A.units + 64 < cLine) (ha : DR X ct Wx e f) (hms : X.mg "sorted" = none) (hmt : X.mg "set" = none) (hc : X.calm = true := by rfl) (hgs : Gl X "sorted" := by rfl) (hgt : Gl X "set" := by rfl)
    (h1 : starEach [e] X.env = (false, eval e X.env) :: starEach [] X.env := by rfl)
    (h2 : starEach [.Call (.Name "set" p2) [e] [] pos2] X.env = (false, eval (.Call (.Name "set" p2) [e] [] pos2) X.env) :: starEach [] X.env := by rfl) :
    DE X ct Wx (.Call (.Name "sorted" p) [.Call (.Name "set" p2) [e] [] pos2] [] pos) (eSsetG f) := by
  have A := de_ssetI (p := p) (p2 := p2) (pos := pos) (pos2 := pos2) ha hms hmt hc hgs hgt h1 h2
  have C := de_sset (p := p) (p2 := p2) (pos := pos) (pos2 := pos2) hu ha hms hmt hc hgs hgt h1 h2
  refine ⟨⟨fun pins s σ H Q I w => ?_⟩⟩
  obtain ⟨B, Fz, m, h, q⟩ := w
  unfold eSsetG at q
  cases hf : f m with
  | st => rw [hf] at q; exact q.elim
  | ex c => exact A.pe.run pins s σ H Q I ⟨B, Fz, m, h, by unfold eSsetI; rw [hf] at q ⊢; exact q⟩
  | ok x =>
    rw [hf, Rz.bind_ok] at q
    cases hi : ssetI x with
    | some w => exact A.pe.run pins s σ H Q I ⟨B, Fz, m, h, by unfold eSsetI; rw [hf, Rz.bind_ok, hi]; rw [ssetG, hi] at q; exact q⟩
    | none => exact C.pe.run pins s σ H Q I ⟨B, Fz, m, h, by unfold eSset; rw [hf, Rz.bind_ok]; rw [ssetG, hi] at q; exact q⟩
end
end Dl
set_option Elab.async false
set_option linter.all false
set_option maxRecDepth 100000
/-! D21: dicts. -/
namespace Dl
open PySem PySem.Spec PyProof.Rows L2
/-! ### keys -/
def keyOfD : PyData → Option Key
  | .int i => some (.inl i)
  | .str s => some (.inr s)
  | _ => none
def keysOf : List PyData → Option (List Key)
  | [] => some []
  | x :: r => (keyOfD x).bind fun k => (keysOf r).map (k :: ·)
def keysOfD : PyData → Option (List Key)
  | .tuple (.int i :: r) => (keysOf r).map (.inl i :: ·)
  | _ => none
theorem keyOfD_eq {x : PyData} {k : Key} (h : keyOfD x = some k) : x = keyD k := by
  cases x with
  | int i => cases h; rfl
  | str s => cases h; rfl
  | _ => cases h
theorem keyOfD_keyD {k : Key} : keyOfD (keyD k) = some k := by cases k <;> rfl
theorem keysOf_eq : ∀ {r : List PyData} {k : List Key}, keysOf r = some k → r = k.map keyD
  | [], k, h => by cases h; rfl
  | x :: r, k, h => by
    unfold keysOf at h
    obtain ⟨a, h1, h2⟩ := Option.bind_eq_some_iff.mp h
    obtain ⟨l, h3, rfl⟩ := Option.map_eq_some_iff.mp h2
    rw [keyOfD_eq h1, keysOf_eq h3]; rfl
theorem keysOf_map : ∀ {k : List Key}, keysOf (k.map keyD) = some k
  | [] => rfl
  | a :: k => by rw [List.map_cons, keysOf, keyOfD_keyD, Option.bind_some, keysOf_map]; rfl
theorem keysOfD_eq {x : PyData} {k : List Key} (h : keysOfD x = some k) : x = keysD k ∧ ∃ i r, k = .inl i :: r := by
  unfold keysOfD at h
  split at h
  · rename_i i r
    obtain ⟨l, h3, rfl⟩ := Option.map_eq_some_iff.mp h
    rw [keysOf_eq h3]
    exact ⟨rfl, i, l, rfl⟩
  · cases h
theorem keysOfD_keysD {i : Int} {r : List Key} : keysOfD (keysD (.inl i :: r)) = some (.inl i :: r) := by
  show keysOfD (.tuple (.int i :: r.map keyD)) = _
  rw [keysOfD, keysOf_map]; rfl
theorem keysD_some {k : List Key} {κ : List Key} (h : keysOfD (keysD k) = some κ) : k = κ := by
  have e := (keysOfD_eq h).1
  have : k.map keyD = κ.map keyD := by
    have := congrArg (fun x => match x with | PyData.tuple l => l | _ => []) e
    exact this
  have h2 := congrArg keysOf this
  rw [keysOf_map, keysOf_map] at h2
  exact Option.some.inj h2
/-! ### what a dict holds at a key -/
section
variable {κ : Type} [DecidableEq κ]
def dfind (kO : PyData → Option κ) (kvs : List (PyData × PyData)) (k : κ) : Option PyData := (kvs.find? fun p => decide (kO p.1 = some k)).map (·.2)
def dset (kO : PyData → Option κ) (kvs : List (PyData × PyData)) (k : κ) (kx x : PyData) : List (PyData × PyData) :=
  if (kvs.any fun p => decide (kO p.1 = some k)) = true then kvs.map (fun p => if kO p.1 = some k then (p.1, x) else p) else kvs ++ [(kx, x)]
variable {K : PySem.W.Frag} {Fz : Addr → Prop} {H : Hp} {kO : PyData → Option κ} {kd : κ → PyData} {k : κ}
theorem DEnt.cases {ks : List (κ × V)} {kvs : List (PyData × PyData)} (h : DEnt K Fz H kd ks kvs) : (ks = [] ∧ kvs = []) ∨ ∃ k v ks' x kvs', ks = (k, v) :: ks' ∧ kvs = (kd k, x) :: kvs' ∧ Rp K Fz H v x ∧ DEnt K Fz H kd ks' kvs' := by
  obtain ⟨h1, h2⟩ := h
  cases ks with
  | nil =>
    cases kvs with
    | nil => exact .inl ⟨rfl, rfl⟩
    | cons _ _ => simp at h1
  | cons p ks =>
    cases kvs with
    | nil => simp at h1
    | cons q kvs =>
      simp only [List.map_cons, List.cons.injEq] at h1 h2
      cases h2 with
      | cons r rs =>
        refine .inr ⟨p.1, p.2, ks, q.2, kvs, rfl, ?_, r, ⟨h1.2, rs⟩⟩
        rw [← h1.1]
theorem DEnt.nil : DEnt K Fz H kd [] [] := ⟨rfl, .nil⟩
theorem DEnt.cons {ks : List (κ × V)} {kvs : List (PyData × PyData)} {v : V} {x : PyData} (r : Rp K Fz H v x) (h : DEnt K Fz H kd ks kvs) : DEnt K Fz H kd ((k, v) :: ks) ((kd k, x) :: kvs) := ⟨by simp [h.keys], .cons r h.vals⟩
theorem DEnt.length {ks : List (κ × V)} {kvs : List (PyData × PyData)} (h : DEnt K Fz H kd ks kvs) : ks.length = kvs.length := by
  have := congrArg List.length h.keys
  simpa using this.symm
/-- found, or not -/
def FoundO (K : PySem.W.Frag) (Fz : Addr → Prop) (H : Hp) : Option V → Option PyData → Prop
  | some v, some x => Rp K Fz H v x
  | none, none => True
  | _, _ => False
theorem DEnt.find (hk : ∀ j, kO (kd j) = some k ↔ j = k) : ∀ {ks : List (κ × V)} {kvs : List (PyData × PyData)}, DEnt K Fz H kd ks kvs → FoundO K Fz H (valV ks k) (dfind kO kvs k) := by
  intro ks
  induction ks with
  | nil =>
    intro kvs h
    rcases h.cases with ⟨_, rfl⟩ | ⟨_, _, _, _, _, e, _⟩
    · exact trivial
    · cases e
  | cons p ks ih =>
    intro kvs h
    rcases h.cases with ⟨e, _⟩ | ⟨j, v, ks', x, kvs', e, rfl, r, h'⟩
    · cases e
    · cases e
      by_cases hj : j = k
      · subst hj
        rw [valV_pos (p := (j, v)) rfl, dfind, List.find?_cons_of_pos (by simp [(hk j).mpr rfl])]
        exact r
      · rw [valV_neg (p := (j, v)) hj, dfind, List.find?_cons_of_neg (by simpa using fun z => hj ((hk j).mp z))]
        exact ih h'
theorem dset_cons {p : PyData × PyData} {kvs : List (PyData × PyData)} {kx x : PyData} : dset kO (p :: kvs) k kx x = if kO p.1 = some k then (p.1, x) :: kvs.map (fun p => if kO p.1 = some k then (p.1, x) else p) else p :: dset kO kvs k kx x := by
  unfold dset
  by_cases h : kO p.1 = some k
  · simp [h]
  · simp only [List.any_cons, h, decide_false, Bool.false_or, List.map_cons, if_false]
    split <;> simp
theorem putK_cons {p : κ × V} {ks : List (κ × V)} {v : V} : putK (p :: ks) k v = if p.1 = k then (p.1, v) :: ks.map (fun p => if p.1 = k then (p.1, v) else p) else p :: putK ks k v := by
  unfold putK
  by_cases h : p.1 = k
  · simp [h]
  · simp only [List.any_cons, h, decide_false, Bool.false_or, List.map_cons, if_false]
    split <;> simp
theorem DEnt.repl (hk : ∀ j, kO (kd j) = some k ↔ j = k) {v : V} {x : PyData} (r : Rp K Fz H v x) : ∀ {ks : List (κ × V)} {kvs : List (PyData × PyData)}, DEnt K Fz H kd ks kvs → DEnt K Fz H kd (ks.map (fun p => if p.1 = k then (p.1, v) else p)) (kvs.map (fun p => if kO p.1 = some k then (p.1, x) else p)) := by
  intro ks
  induction ks with
  | nil =>
    intro kvs h
    rcases h.cases with ⟨_, rfl⟩ | ⟨_, _, _, _, _, e, _⟩
    · exact .nil
    · cases e
  | cons p ks ih =>
    intro kvs h
    rcases h.cases with ⟨e, _⟩ | ⟨j, w, ks', y, kvs', e, rfl, r', h'⟩
    · cases e
    · cases e
      rw [List.map_cons, List.map_cons]
      by_cases hj : j = k
      · subst hj
        rw [if_pos rfl, if_pos ((hk j).mpr rfl)]
        exact .cons r (ih h')
      · rw [if_neg hj, if_neg (fun z => hj ((hk j).mp z))]
        exact .cons r' (ih h')
theorem DEnt.put (hk : ∀ j, kO (kd j) = some k ↔ j = k) {v : V} {x : PyData} (r : Rp K Fz H v x) : ∀ {ks : List (κ × V)} {kvs : List (PyData × PyData)}, DEnt K Fz H kd ks kvs → DEnt K Fz H kd (putK ks k v) (dset kO kvs k (kd k) x) := by
  intro ks
  induction ks with
  | nil =>
    intro kvs h
    rcases h.cases with ⟨_, rfl⟩ | ⟨_, _, _, _, _, e, _⟩
    · exact .cons r .nil
    · cases e
  | cons p ks ih =>
    intro kvs h
    rcases h.cases with ⟨e, _⟩ | ⟨j, w, ks', y, kvs', e, rfl, r', h'⟩
    · cases e
    · cases e
      rw [putK_cons, dset_cons]
      by_cases hj : j = k
      · subst hj
        rw [if_pos rfl, if_pos ((hk j).mpr rfl)]
        exact .cons r (h'.repl hk r)
      · rw [if_neg hj, if_neg (fun z => hj ((hk j).mp z))]
        exact .cons r' (ih h')
end
/-- at a key of the dict's kind; none: nothing is said -/
def dgetD (T : Bool) (kvs : List (PyData × PyData)) (k : PyData) : Option (Option PyData) := if T = true then (keysOfD k).map (dfind keysOfD kvs) else (keyOfD k).map (dfind keyOfD kvs)
def dputD (T : Bool) (kvs : List (PyData × PyData)) (k x : PyData) : Option (List (PyData × PyData)) := if T = true then (keysOfD k).map fun κ => dset keysOfD kvs κ k x else (keyOfD k).map fun κ => dset keyOfD kvs κ k x
section
variable {K : PySem.W.Frag} {B : Hp} {Fz : Addr → Prop} {H : Hp} {σ : L2.St} {m : Ms}
theorem hkK {k : Key} : ∀ j, keyOfD (keyD j) = some k ↔ j = k := fun j => by rw [keyOfD_keyD]; exact ⟨Option.some.inj, congrArg some⟩
theorem hkT {i : Int} {r : List Key} : ∀ j, keysOfD (keysD j) = some (.inl i :: r) ↔ j = .inl i :: r := fun j => ⟨keysD_some, fun e => by rw [e]; exact keysOfD_keysD⟩
/-- a dict that may be read -/
def DictV (K : PySem.W.Frag) (Fz : Addr → Prop) (H : Hp) (a : Addr) (T : Bool) (kvs : List (PyData × PyData)) : Prop :=
  (T = false ∧ ∃ ks : List (Key × V), Rd H a (.dK ks) ∧ DEnt K Fz H keyD ks kvs) ∨ (T = true ∧ ∃ ks : List (List Key × V), Rd H a (.dT ks) ∧ DEnt K Fz H keysD ks kvs)
theorem rp_key {v : V} : ∀ {k : Key}, Rp K Fz H v (keyD k) → v = kV k
  | .inl i, r => by cases r; rfl
  | .inr s, r => by cases r; rfl
theorem rp_keysL : ∀ {k : List Key} {us : List V}, RpAll K Fz H us (k.map keyD) → us = k.map kV
  | [], us, r => by cases r; rfl
  | a :: k, us, r => by
    cases r with
    | cons r rs => rw [rp_key r, rp_keysL rs]; rfl
theorem rp_keys {v : V} {i : Int} {r : List Key} (h : Rp K Fz H v (keysD (.inl i :: r))) : ∃ b, v = .ref b ∧ H b = some (.tup ((Sum.inl i :: r : List Key).map kV)) := by
  cases h with
  | tup e ra => exact ⟨_, rfl, by rw [e, rp_keysL ra]⟩
  | tupK _ hs _ => simp [hdStr, keyD] at hs
theorem DictV.get {a : Addr} {T : Bool} {kvs : List (PyData × PyData)} (h : DictV K Fz H a T kvs) {v : V} {k : PyData} {o : Option PyData} (r : Rp K Fz H v k) (e : dgetD T kvs k = some o) : ∃ ov, DGet H a v ov ∧ FoundO K Fz H ov o := by
  rcases h with ⟨rfl, ks, hd, en⟩ | ⟨rfl, ks, hd, en⟩
  · obtain ⟨κ, h1, rfl⟩ := Option.map_eq_some_iff.mp (show (keyOfD k).map (dfind keyOfD kvs) = some o from e)
    have := keyOfD_eq h1
    subst this
    exact ⟨_, .inl ⟨ks, κ, hd, rp_key r, rfl⟩, en.find hkK⟩
  · obtain ⟨κ, h1, rfl⟩ := Option.map_eq_some_iff.mp (show (keysOfD k).map (dfind keysOfD kvs) = some o from e)
    obtain ⟨rfl, i, r', rfl⟩ := keysOfD_eq h1
    obtain ⟨b, rfl, eb⟩ := rp_keys r
    exact ⟨_, .inr ⟨ks, _, b, hd, rfl, eb, rfl⟩, en.find hkT⟩
theorem DictV.isD {a : Addr} {T : Bool} {kvs : List (PyData × PyData)} (h : DictV K Fz H a T kvs) : IsD H a := by
  rcases h with ⟨_, ks, hd, _⟩ | ⟨_, ks, hd, _⟩
  · exact .inl ⟨ks, hd⟩
  · exact .inr ⟨ks, hd⟩
def isTupD : PyData → Bool
  | .tuple _ => true
  | _ => false
/-- the dict in a slot -/
def dAt (i : Nat) (m : Ms) : Option (Bool × List (PyData × PyData)) := match m[i]? with
  | some (some (.m T kvs)) => some (T, kvs)
  | some (some (.q (.dict ((k, x) :: r)))) => some (isTupD k, (k, x) :: r)
  | _ => none
theorem Rs.getD {i : Nat} {T : Bool} {kvs : List (PyData × PyData)} (h : Rs K B Fz H σ m) (e : dAt i m = some (T, kvs)) : ∃ a, σ[i]? = some (some (.ref a)) ∧ DictV K Fz H a T kvs := by
  obtain ⟨fp, r⟩ := h
  unfold dAt at e
  split at e
  · rename_i T' kvs' e'
    cases e
    obtain ⟨v, f, h1, h2, h3⟩ := r.rl.get e'
    cases h2 with
    | mK e en => exact ⟨_, h1, .inl ⟨rfl, _, .inl e, en⟩⟩
    | mT e en => exact ⟨_, h1, .inr ⟨rfl, _, .inl e, en⟩⟩
  · rename_i k x r' e'
    cases e
    obtain ⟨v, f, h1, h2, h3⟩ := r.rl.get e'
    cases h2 with
    | q rq =>
      cases rq with
      | pl rp => cases rp
      | dK e en =>
        rcases en.cases with ⟨_, z⟩ | ⟨j, _, _, _, _, _, z, _⟩
        · cases z
        · cases z
          exact ⟨_, h1, .inl ⟨by cases j <;> rfl, _, .inr ⟨_, e⟩, en⟩⟩
      | dT e en =>
        rcases en.cases with ⟨_, z⟩ | ⟨j, _, _, _, _, _, z, _⟩
        · cases z
        · cases z
          exact ⟨_, h1, .inr ⟨rfl, _, .inr ⟨_, e⟩, en⟩⟩
  · cases e
/-! ### an own dict is written -/
theorem le_ownG {a : Addr} {o o' : HO} (ha : H a = some o) (nt : ¬ isT o) (nf : ¬ Fz a) : Le Fz H Fz (upd H a o') := ⟨fun _ h => h, fun b u q k => by
  have : b ≠ a := fun e => by
    subst e
    rw [ha] at q; cases q
    exact k.elim nf nt
  rw [upd_ne this]; exact q⟩
theorem RL.writeM : ∀ {σ : L2.St} {m : Ms} {fp : List Addr} (i : Nat) {T : Bool} {kvs : List (PyData × PyData)}, RL K Fz H σ m fp → fp.Nodup → (∀ a ∈ fp, ¬ Fz a) → m[i]? = some (some (.m T kvs)) → ∃ a o, σ[i]? = some (some (.ref a)) ∧ H a = some o ∧ ¬ isT o ∧ a ∈ fp ∧
    ∀ (o' : HO) (w : W), RW K Fz (upd H a o') (.ref a) w [a] → RL K Fz (upd H a o') σ (m.set i (some w)) fp
  | _, _, _, _, _, _, .nil, _, _, e => by simp at e
  | _, _, _, 0, _, _, .no _, _, _, e => by simp at e
  | _, _, _, i + 1, _, _, .no r, nd, nf, e => by
    obtain ⟨a, o, h1, h2, h3, h4, h5⟩ := RL.writeM i r nd nf (by simpa using e)
    exact ⟨a, o, by simpa using h1, h2, h3, h4, fun o' w r => .no (h5 o' w r)⟩
  | _, _, _, 0, _, _, .so (fp := fp) q r, nd, nf, e => by
    have e' := Option.some.inj (Option.some.inj e)
    subst e'
    have fin : ∀ (p : Addr) (o : HO), H p = some o → ¬ isT o → ([p] ++ fp).Nodup → ¬ Fz p → ∀ (o' : HO) (w : W), RW K Fz (upd H p o') (.ref p) w [p] → RL K Fz (upd H p o') (some (.ref p) :: _) (some w :: _) ([p] ++ fp) := fun p o e nt nd nf o' w rw' => by
      rw [List.singleton_append, List.nodup_cons] at nd
      exact .so rw' (r.mono (le_ownG e nt nf) fun b hb u q => by rw [upd_ne (fun z => nd.1 (by rw [← z]; exact hb))]; exact q)
    cases q with
    | mK eh en => exact ⟨_, _, rfl, eh, id, by simp, fin _ _ eh id nd (nf _ (by simp))⟩
    | mT eh en => exact ⟨_, _, rfl, eh, id, by simp, fin _ _ eh id nd (nf _ (by simp))⟩
  | _, _, _, i + 1, _, _, .so (f := f) q r, nd, nf, e => by
    rw [List.nodup_append] at nd
    obtain ⟨a, o, h1, h2, h3, h4, h5⟩ := RL.writeM i r nd.2.1 (fun a ha => nf a (List.mem_append_right _ ha)) (by simpa using e)
    have l := fun o' => le_ownG (o' := o') h2 h3 (nf a (List.mem_append_right _ h4))
    exact ⟨a, o, by simpa using h1, h2, h3, List.mem_append_right _ h4, fun o' w rw' => .so (q.mono (l o') fun b hb u q => by rw [upd_ne (fun z => nd.2.2 b hb a h4 z)]; exact q) (h5 o' w rw')⟩
theorem Rs.writeM (i : Nat) {T : Bool} {kvs : List (PyData × PyData)} (h : Rs K B Fz H σ m) (e : m[i]? = some (some (.m T kvs))) : ∃ a o, σ[i]? = some (some (.ref a)) ∧ H a = some o ∧ ¬ isT o ∧ ¬ Fz a ∧ B a = none ∧
    ∀ (o' : HO) (w : W), RW K Fz (upd H a o') (.ref a) w [a] → Rs K B Fz (upd H a o') σ (m.set i (some w)) := by
  obtain ⟨fp, r⟩ := h
  obtain ⟨a, o, h1, h2, h3, h4, h5⟩ := r.rl.writeM i r.nd (fun a ha => (r.own a ha).2) e
  refine ⟨a, o, h1, h2, h3, (r.own a h4).2, (r.own a h4).1, fun o' w rw' => ⟨fp, h5 o' w rw', r.nd, r.own, fun b u q => ?_, fun b hb => ?_⟩⟩
  · have : b ≠ a := fun z => by
      subst z
      rw [(r.own b h4).1] at q; cases q
    rw [upd_ne this]; exact r.base b u q
  · by_cases z : b = a
    · subst z; rw [upd_same]; simp
    · rw [upd_ne z]; exact r.fz b hb
theorem Rs.getM {i : Nat} {T : Bool} {kvs : List (PyData × PyData)} (h : Rs K B Fz H σ m) (e : m[i]? = some (some (.m T kvs))) : ∃ a, σ[i]? = some (some (.ref a)) ∧ ¬ Fz a ∧
    ((T = false ∧ ∃ ks : List (Key × V), H a = some (.dK ks) ∧ DEnt K Fz H keyD ks kvs) ∨ (T = true ∧ ∃ ks : List (List Key × V), H a = some (.dT ks) ∧ DEnt K Fz H keysD ks kvs)) := by
  obtain ⟨fp, r⟩ := h
  obtain ⟨v, f, h1, h2, h3⟩ := r.rl.get e
  cases h2 with
  | mK eh en => exact ⟨_, h1, (r.own _ (h3 _ (by simp))).2, .inl ⟨rfl, _, eh, en⟩⟩
  | mT eh en => exact ⟨_, h1, (r.own _ (h3 _ (by simp))).2, .inr ⟨rfl, _, eh, en⟩⟩
theorem RpAll.len {us : List V} {ds : List PyData} (h : RpAll K Fz H us ds) : us.length = ds.length := h.length
/-- name[k] = x -/
theorem Rs.putM (i : Nat) {T : Bool} {kvs kvs' : List (PyData × PyData)} {k x : PyData} {v u : V} (h : Rs K B Fz H σ m) (e : m[i]? = some (some (.m T kvs))) (hp : dputD T kvs k x = some kvs') (hl : kvs.length < 10000000) (rk : Rp K Fz H v k) (rx : Rp K Fz H u x) :
    ∃ a H', σ[i]? = some (some (.ref a)) ∧ DPut H a v u H' ∧ Rs K B Fz H' σ (m.set i (some (.m T kvs'))) := by
  obtain ⟨a, o, g1, g2, g3, g4, g5, g6⟩ := h.writeM i e
  obtain ⟨a', h1, _, hh⟩ := h.getM e
  rw [g1] at h1; cases h1
  have ls : kvs.length < sizeLine := by rw [sizeLine_eq]; omega
  rcases hh with ⟨rfl, ks, hd, en⟩ | ⟨rfl, ks, hd, en⟩
  · obtain ⟨κ, h1, rfl⟩ := Option.map_eq_some_iff.mp (show (keyOfD k).map (fun κ => dset keyOfD kvs κ k x) = some kvs' from hp)
    have := keyOfD_eq h1
    subst this
    rw [g2] at hd; cases hd
    have l := le_ownG (o' := .dK (putK ks κ u)) g2 g3 g4
    exact ⟨a, _, g1, .inl ⟨ks, κ, g2, rp_key rk, by rw [en.length]; exact ls, rfl⟩, g6 _ _ (.mK upd_same ((en.put hkK rx).mono l))⟩
  · obtain ⟨κ, h1, rfl⟩ := Option.map_eq_some_iff.mp (show (keysOfD k).map (fun κ => dset keysOfD kvs κ k x) = some kvs' from hp)
    obtain ⟨rfl, j, r', rfl⟩ := keysOfD_eq h1
    rw [g2] at hd; cases hd
    obtain ⟨b, rfl, eb⟩ := rp_keys rk
    have l := le_ownG (o' := .dT (putK ks (Sum.inl j :: r' : List Key) u)) g2 g3 g4
    exact ⟨a, _, g1, .inr ⟨ks, _, b, g2, rfl, eb, by rw [en.length]; exact ls, rfl⟩, g6 _ _ (.mT upd_same ((en.put hkT rx).mono l))⟩
end
end Dl
set_option Elab.async false
set_option linter.all false
set_option maxRecDepth 100000
/-! D22: rules for dicts; data with dicts in it. -/
namespace Dl
open PySem PySem.Spec PyProof.Rows L2
section
variable {K : PySem.W.Frag} {B : Hp} {Fz : Addr → Prop} {H : Hp} {σ : L2.St} {m : Ms}
/-- something new of one's own -/
theorem Rs.newOwn {p : Addr} {o : HO} {w : W} (h : Rs K B Fz H σ m) (hp : H p = none) (r : RW K Fz (upd H p o) (.ref p) w [p]) : Rs K B Fz (upd H p o) (some (.ref p) :: σ) (some w :: m) := by
  obtain ⟨fp, s⟩ := id h
  have nf : ¬ Fz p := fun z => h.fzn p z hp
  have nb : B p = none := by
    cases q : B p with
    | none => rfl
    | some o =>
      have := h.base p o q
      rw [hp] at this; cases this
  have rl' : RL K Fz (upd H p o) σ m fp := s.rl.mono ⟨fun _ x => x, fun a o q _ => same_new hp a o q⟩ fun a _ o q => same_new hp a o q
  refine ⟨[p] ++ fp, .so r rl', ?_, fun a ha => ?_, fun a o q => same_new hp a o (s.base a o q), fun a q => ?_⟩
  · rw [List.singleton_append, List.nodup_cons]
    refine ⟨fun z => ?_, s.nd⟩
    obtain ⟨us, q, _⟩ := s.rl.own p z
    rw [hp] at q; cases q
  · rcases List.mem_append.mp ha with z | z
    · rw [List.mem_singleton] at z
      subst z; exact ⟨nb, nf⟩
    · exact s.own a z
  · have e := h.fzn a q
    by_cases z : a = p
    · subst z; rw [upd_same]; simp
    · rw [upd_ne z]; exact e
theorem Rs.pushQ {v : V} {x : PyData} (h : Rs K B Fz H σ m) (r : Rq K Fz H v x) : Rs K B Fz H (some v :: σ) (some (.q x) :: m) := by
  obtain ⟨fp, rl, nd, own, base, fz⟩ := h
  exact ⟨_, .so (f := []) (.q r) rl, nd, own, base, fz⟩
theorem Rs.getQ {i : Nat} {x : PyData} (h : Rs K B Fz H σ m) (e : m[i]? = some (some (.q x))) : ∃ v, σ[i]? = some (some v) ∧ Rq K Fz H v x := by
  obtain ⟨fp, r⟩ := h
  obtain ⟨v, f, h1, h2, _⟩ := r.rl.get e
  cases h2 with | q q => exact ⟨v, h1, q⟩
end
section
variable {X : Cx} {ct : CT} {Wx : WX} {e e2 a b c : Expr} {es : List Expr} {p pos : Pos}
def eDnew (T : Bool) : Ms → Rz W := fun _ => .ok (.m T [])
theorem de_dnewK : DE X ct Wx (.Dict [] [] pos) (eDnew false) := ⟨PE_imp pe_dnewK fun σ H Q ⟨B, Fz, m, h, q⟩ p hp => q _ _ Fz .refl (h.newOwn hp (.mK upd_same .nil))⟩
theorem de_dnewT : DE X ct Wx (.Dict [] [] pos) (eDnew true) := ⟨PE_imp pe_dnewT fun σ H Q ⟨B, Fz, m, h, q⟩ p hp => q _ _ Fz .refl (h.newOwn hp (.mT upd_same .nil))⟩
/-- the own dict of a slot -/
def mAt (i : Nat) (m : Ms) : Option (Bool × List (PyData × PyData)) := match m[i]? with
  | some (some (.m T kvs)) => some (T, kvs)
  | _ => none
theorem mAt_some {i : Nat} {m : Ms} {T : Bool} {kvs : List (PyData × PyData)} (h : mAt i m = some (T, kvs)) : m[i]? = some (some (.m T kvs)) := by
  unfold mAt at h
  split at h
  · rename_i e; cases h; exact e
  · cases h
/-- name[k] = x -/
def sDput (i : Nat) (g f : Ms → Rz PyData) : Ms → Fl := flE f fun x m => match mAt i m with
  | some (T, kvs) => flE g (fun k m => match dputD T kvs k x with
    | some kvs' => if kvs.length < 10000000 then .nx (m.set i (some (.m T kvs'))) else .st
    | none => .st) m
  | none => .st
theorem ds_dput {y : Str} {p2 p3 : Pos} {ix : Expr} {f g : Ms → Rz PyData} (i : Nat) (hu : X.A.units + 105 < cLine) (hf : DV X ct Wx e f) (hg : DV X ct Wx ix g) (hN : X.N[i]? = some y := by rfl)
    (hv : Vis X.env.scope y := by first | exact Or.inl rfl | exact Or.inr (Or.inl rfl) | exact Or.inr (Or.inr rfl)) (hd : (y == ("__debug__" : Str)) = false := by decide) (hcd : (y == ("__classdict__" : Str)) = false := by decide)
    (hs : swapsWith e (some (.Subscript (.Name y p2) ix p3)) pos.line X.env = pure false := by rfl) : DS X ct Wx (.Assign [.Subscript (.Name y p2) ix p3] e pos) (sDput i g f) :=
  ds_of (ps_dput (by omega) (pe_var hN hv hd hcd) hg.pe hf.pe hs) fun D σ H B Fz m h q => by
    unfold sDput flE at q
    refine tV_then h ?_
    cases hx : f m with
    | st => rw [hx] at q; exact q
    | ex c => rw [hx] at q; exact fun H' F' x r => q σ H' F' x r
    | ok z =>
      rw [hx] at q
      intro v H1 F1 x1 r1 l1 p1
      cases e1 : mAt i m with
      | none => dsimp only at q; rw [e1] at q; exact q.elim
      | some Tk =>
        obtain ⟨T, kvs⟩ := Tk
        dsimp only at q
        rw [e1] at q
        dsimp only at q
        obtain ⟨a, g1, _, _⟩ := r1.getM (mAt_some e1)
        refine ⟨_, g1, ?_⟩
        refine tV_then r1 ?_
        cases hg : g m with
        | st => rw [hg] at q; exact q
        | ex c => rw [hg] at q; exact fun H' F' x r => q σ H' F' (x1.trans x) r
        | ok k =>
          rw [hg] at q
          intro u H2 F2 x2 r2 l2 p2
          dsimp only at q
          split at q
          · rename_i kvs' hp
            split at q
            · rename_i hl
              obtain ⟨a', H4, k1, k2, k3⟩ := r2.putM i (mAt_some e1) hp hl p2 (p1.mono l2)
              rw [g1] at k1; cases k1
              exact ⟨a, H4, rfl, k2, q σ _ F2 (x1.trans x2) k3⟩
            · exact q.elim
          · exact q.elim
/-- name[k] -/
def eDget (i : Nat) (g : Ms → Rz PyData) : Ms → Rz PyData := fun m => match dAt i m with
  | some (T, kvs) => (g m).bind fun k => match dgetD T kvs k with
    | some (some x) => .ok x
    | _ => .st
  | none => .st
theorem dv_dget {y : Str} {p2 : Pos} {ix : Expr} {g : Ms → Rz PyData} (i : Nat) (hu : X.A.units + 105 < cLine) (hg : DV X ct Wx ix g) (hN : X.N[i]? = some y := by rfl)
    (hv : Vis X.env.scope y := by first | exact Or.inl rfl | exact Or.inr (Or.inl rfl) | exact Or.inr (Or.inr rfl)) (hd : (y == ("__debug__" : Str)) = false := by decide) (hcd : (y == ("__classdict__" : Str)) = false := by decide)
    (hs : NoSl ix := by exact fun _ _ => rfl) : DV X ct Wx (.Subscript (.Name y p2) ix pos) (eDget i g) := ⟨PE_imp (pe_dget (by omega) (pe_var hN hv hd hcd) hg.pe hs) fun σ H Q ⟨B, Fz, m, h, q⟩ => by
  unfold eDget at q
  cases e1 : dAt i m with
  | none => rw [e1] at q; exact q.elim
  | some Tk =>
    obtain ⟨T, kvs⟩ := Tk
    rw [e1] at q
    dsimp only at q
    obtain ⟨a, g1, _⟩ := h.getD e1
    refine ⟨_, g1, tV_then h ?_⟩
    cases hx : g m with
    | st => rw [hx] at q; exact q
    | ex c => rw [hx] at q; exact q
    | ok k =>
      rw [hx, Rz.bind_ok] at q
      intro v H1 F1 x1 r1 l1 p1
      obtain ⟨a', g2, dv⟩ := r1.getD e1
      rw [g1] at g2; cases g2
      cases hk : dgetD T kvs k with
      | none => rw [hk] at q; exact q.elim
      | some o =>
        rw [hk] at q
        obtain ⟨ov, k1, k2⟩ := dv.get p1 hk
        cases o with
        | none => exact q.elim
        | some x =>
          cases ov with
          | none => exact k2.elim
          | some w => exact ⟨a, w, rfl, k1, q w H1 F1 x1 ⟨r1, k2⟩⟩⟩
/-- k in name -/
def tDin (pos : Bool) (i : Nat) (g : Ms → Rz PyData) : Ms → Rz Bool := fun m => (g m).bind fun k => match dAt i m with
  | some (T, kvs) => match dgetD T kvs k with
    | some o => .ok (if pos = true then o.isSome else !o.isSome)
    | none => .st
  | none => .st
theorem foundO_some {K : PySem.W.Frag} {Fz : Addr → Prop} {H : Hp} {o : Option V} {x : Option PyData} (h : FoundO K Fz H o x) : o.isSome = x.isSome := by
  cases o <;> cases x <;> first | rfl | exact h.elim
theorem din_end {K : PySem.W.Frag} {B : Hp} {Fz : Addr → Prop} {H : Hp} {σ : L2.St} {m : Ms} {i : Nat} {T : Bool} {kvs : List (PyData × PyData)} {v : V} {k : PyData} {o : Option PyData} (r : Rs K B Fz H σ m) (e : dAt i m = some (T, kvs)) (rp : Rp K Fz H v k) (hk : dgetD T kvs k = some o) :
    ∃ a, σ[i]? = some (some (.ref a)) ∧ ∃ ov, DGet H a v ov ∧ ov.isSome = o.isSome := by
  obtain ⟨a, g, dv⟩ := r.getD e
  obtain ⟨ov, k1, k2⟩ := dv.get rp hk
  exact ⟨a, g, ov, k1, foundO_some k2⟩
theorem dt_din {y : Str} {p2 : Pos} {ix : Expr} {g : Ms → Rz PyData} (i : Nat) (hu : X.A.units + 105 < cLine) (hg : DV X ct Wx ix g) (hm : behindInMarks .In (.Name y p2) = false) (hN : X.N[i]? = some y := by rfl)
    (hv : Vis X.env.scope y := by first | exact Or.inl rfl | exact Or.inr (Or.inl rfl) | exact Or.inr (Or.inr rfl)) (hd : (y == ("__debug__" : Str)) = false := by decide) (hcd : (y == ("__classdict__" : Str)) = false := by decide) :
    DT X ct Wx (.Compare ix [.In] [.Name y p2] pos) (tDin true i g) := ⟨PT_imp (pt_cmp (pc_din (by omega) hg.pe (pe_var hN hv hd hcd)) hm) fun σ H Q ⟨B, Fz, m, h, q⟩ => by
  unfold tDin at q
  refine tV_then h ?_
  cases hx : g m with
  | st => rw [hx] at q; exact q
  | ex c => rw [hx] at q; exact q
  | ok k =>
    rw [hx, Rz.bind_ok] at q
    intro v H1 F1 x1 r1 l1 p1
    cases e1 : dAt i m with
    | none => rw [e1] at q; exact q.elim
    | some Tk =>
      obtain ⟨T, kvs⟩ := Tk
      rw [e1] at q
      dsimp only at q
      cases hk : dgetD T kvs k with
      | none => rw [hk] at q; exact q.elim
      | some o =>
        rw [hk] at q
        obtain ⟨a, g1, ov, k1, k2⟩ := din_end r1 e1 p1 hk
        exact ⟨_, g1, a, ov, rfl, k1, _, rfl, by rw [k2]; exact q H1 F1 x1 r1⟩⟩
theorem dt_dnin {y : Str} {p2 : Pos} {ix : Expr} {g : Ms → Rz PyData} (i : Nat) (hu : X.A.units + 105 < cLine) (hg : DV X ct Wx ix g) (hm : behindInMarks .NotIn (.Name y p2) = false) (hN : X.N[i]? = some y := by rfl)
    (hv : Vis X.env.scope y := by first | exact Or.inl rfl | exact Or.inr (Or.inl rfl) | exact Or.inr (Or.inr rfl)) (hd : (y == ("__debug__" : Str)) = false := by decide) (hcd : (y == ("__classdict__" : Str)) = false := by decide) :
    DT X ct Wx (.Compare ix [.NotIn] [.Name y p2] pos) (tDin false i g) := ⟨PT_imp (pt_cmp (pc_dnotin (by omega) hg.pe (pe_var hN hv hd hcd)) hm) fun σ H Q ⟨B, Fz, m, h, q⟩ => by
  unfold tDin at q
  refine tV_then h ?_
  cases hx : g m with
  | st => rw [hx] at q; exact q
  | ex c => rw [hx] at q; exact q
  | ok k =>
    rw [hx, Rz.bind_ok] at q
    intro v H1 F1 x1 r1 l1 p1
    cases e1 : dAt i m with
    | none => rw [e1] at q; exact q.elim
    | some Tk =>
      obtain ⟨T, kvs⟩ := Tk
      rw [e1] at q
      dsimp only at q
      cases hk : dgetD T kvs k with
      | none => rw [hk] at q; exact q.elim
      | some o =>
        rw [hk] at q
        obtain ⟨a, g1, ov, k1, k2⟩ := din_end r1 e1 p1 hk
        exact ⟨_, g1, a, ov, rfl, k1, _, rfl, by rw [k2]; exact q H1 F1 x1 r1⟩⟩
def vDin (pos : Bool) (i : Nat) (g : Ms → Rz PyData) : Ms → Rz PyData := fun m => (tDin pos i g m).map .bool
theorem dv_din {y : Str} {p2 : Pos} {ix : Expr} {g : Ms → Rz PyData} (i : Nat) (hu : X.A.units + 105 < cLine) (hg : DV X ct Wx ix g) (hm : behindInMarks .In (.Name y p2) = false) (hN : X.N[i]? = some y := by rfl)
    (hv : Vis X.env.scope y := by first | exact Or.inl rfl | exact Or.inr (Or.inl rfl) | exact Or.inr (Or.inr rfl)) (hd : (y == ("__debug__" : Str)) = false := by decide) (hcd : (y == ("__classdict__" : Str)) = false := by decide) :
    DV X ct Wx (.Compare ix [.In] [.Name y p2] pos) (vDin true i g) := ⟨PE_imp (pe_cmp (pc_din (by omega) hg.pe (pe_var hN hv hd hcd)) hm) fun σ H Q ⟨B, Fz, m, h, q⟩ => by
  unfold vDin tDin at q
  refine tV_then h ?_
  cases hx : g m with
  | st => rw [hx] at q; exact q
  | ex c => rw [hx] at q; exact q
  | ok k =>
    rw [hx, Rz.bind_ok] at q
    intro v H1 F1 x1 r1 l1 p1
    cases e1 : dAt i m with
    | none => rw [e1] at q; exact q.elim
    | some Tk =>
      obtain ⟨T, kvs⟩ := Tk
      rw [e1] at q
      dsimp only at q
      cases hk : dgetD T kvs k with
      | none => rw [hk] at q; exact q.elim
      | some o =>
        rw [hk] at q
        obtain ⟨a, g1, ov, k1, k2⟩ := din_end r1 e1 p1 hk
        exact ⟨_, g1, a, ov, rfl, k1, by rw [k2]; exact q _ H1 F1 x1 ⟨r1, .bl _⟩⟩⟩
theorem dv_dnin {y : Str} {p2 : Pos} {ix : Expr} {g : Ms → Rz PyData} (i : Nat) (hu : X.A.units + 105 < cLine) (hg : DV X ct Wx ix g) (hm : behindInMarks .NotIn (.Name y p2) = false) (hN : X.N[i]? = some y := by rfl)
    (hv : Vis X.env.scope y := by first | exact Or.inl rfl | exact Or.inr (Or.inl rfl) | exact Or.inr (Or.inr rfl)) (hd : (y == ("__debug__" : Str)) = false := by decide) (hcd : (y == ("__classdict__" : Str)) = false := by decide) :
    DV X ct Wx (.Compare ix [.NotIn] [.Name y p2] pos) (vDin false i g) := ⟨PE_imp (pe_cmp (pc_dnotin (by omega) hg.pe (pe_var hN hv hd hcd)) hm) fun σ H Q ⟨B, Fz, m, h, q⟩ => by
  unfold vDin tDin at q
  refine tV_then h ?_
  cases hx : g m with
  | st => rw [hx] at q; exact q
  | ex c => rw [hx] at q; exact q
  | ok k =>
    rw [hx, Rz.bind_ok] at q
    intro v H1 F1 x1 r1 l1 p1
    cases e1 : dAt i m with
    | none => rw [e1] at q; exact q.elim
    | some Tk =>
      obtain ⟨T, kvs⟩ := Tk
      rw [e1] at q
      dsimp only at q
      cases hk : dgetD T kvs k with
      | none => rw [hk] at q; exact q.elim
      | some o =>
        rw [hk] at q
        obtain ⟨a, g1, ov, k1, k2⟩ := din_end r1 e1 p1 hk
        exact ⟨_, g1, a, ov, rfl, k1, by rw [k2]; exact q _ H1 F1 x1 ⟨r1, .bl _⟩⟩⟩
/-- name.get(k, x) -/
def eDget2 (i : Nat) (g f : Ms → Rz PyData) : Ms → Rz PyData := fun m => match dAt i m with
  | some (T, kvs) => (g m).bind fun k => (f m).bind fun x => match dgetD T kvs k with
    | some o => .ok (o.getD x)
    | none => .st
  | none => .st
theorem dv_dget2 {y : Str} {p2 apos cpos : Pos} {ix : Expr} {g f : Ms → Rz PyData} (i : Nat) (hu : X.A.units + 105 < cLine) (hg : DV X ct Wx ix g) (hf : DV X ct Wx e f) (hN : X.N[i]? = some y := by rfl)
    (hv : Vis X.env.scope y := by first | exact Or.inl rfl | exact Or.inr (Or.inl rfl) | exact Or.inr (Or.inr rfl)) (hd : (y == ("__debug__" : Str)) = false := by decide) (hcd : (y == ("__classdict__" : Str)) = false := by decide)
    (hm : M2 X (.Name y p2) "get" apos ix e cpos := by exact ⟨rfl, rfl, rfl, rfl⟩) : DV X ct Wx (.Call (.Attribute (.Name y p2) "get" apos) [ix, e] [] cpos) (eDget2 i g f) := ⟨PE_imp (pe_dget2 (by omega) (pe_var hN hv hd hcd) hg.pe hf.pe hm) fun σ H Q ⟨B, Fz, m, h, q⟩ => by
  unfold eDget2 at q
  cases e1 : dAt i m with
  | none => rw [e1] at q; exact q.elim
  | some Tk =>
    obtain ⟨T, kvs⟩ := Tk
    rw [e1] at q
    dsimp only at q
    obtain ⟨a, g1, dv0⟩ := h.getD e1
    refine ⟨_, g1, a, rfl, dv0.isD, tV_then h ?_⟩
    cases hx : g m with
    | st => rw [hx] at q; exact q
    | ex c => rw [hx] at q; exact q
    | ok k =>
      rw [hx, Rz.bind_ok] at q
      intro v H1 F1 x1 r1 l1 p1
      refine tV_then r1 ?_
      cases hz : f m with
      | st => rw [hz] at q; exact q
      | ex c => rw [hz] at q; exact fun H' F' x r => q H' F' (x1.trans x) r
      | ok x =>
        rw [hz, Rz.bind_ok] at q
        intro u H2 F2 x2 r2 l2 p2
        obtain ⟨a', g2, dv⟩ := r2.getD e1
        rw [g1] at g2; cases g2
        cases hk : dgetD T kvs k with
        | none => rw [hk] at q; exact q.elim
        | some o =>
          rw [hk] at q
          obtain ⟨ov, k1, k2⟩ := dv.get (p1.mono l2) hk
          refine ⟨ov, k1, ?_⟩
          cases ov with
          | none =>
            cases o with
            | none => exact q u H2 F2 (x1.trans x2) ⟨r2, p2⟩
            | some _ => exact k2.elim
          | some w =>
            cases o with
            | none => exact k2.elim
            | some x' => exact q w H2 F2 (x1.trans x2) ⟨r2, k2⟩⟩
end
end Dl
set_option Elab.async false
set_option linter.all false
set_option maxRecDepth 100000
/-! D23: own dicts given up; walks of dicts; data with dicts: names, displays, calls, ends. -/
namespace Dl
open PySem PySem.Spec PyProof.Rows L2
section
variable {X : Cx} {ct : CT} {Wx : WX} {e e2 a b c tg : Expr} {es : List Expr} {st : Stmt} {sts : List Stmt} {p pos : Pos}
/-! ### an own dict is given up -/
def giveAt (i : Nat) (m : Ms) : Ms := match m[i]? with
  | some (some (.m _ kvs)) => m.set i (some (.q (.dict kvs)))
  | _ => m
theorem RL.give : ∀ {K : PySem.W.Frag} {Fz : Addr → Prop} {H : Hp} {σ : L2.St} {m : Ms} {fp : List Addr} (i : Nat) {T : Bool} {kvs : List (PyData × PyData)}, RL K Fz H σ m fp → fp.Nodup → (∀ a ∈ fp, ¬ Fz a) → m[i]? = some (some (.m T kvs)) →
    ∃ a u, H a = some u ∧ Mut (some u) ∧ a ∈ fp ∧ ∀ od, ∃ g, RL K Fz (upd H a (.frz od u)) σ (m.set i (some (.q (.dict kvs)))) g ∧ g.Sublist fp ∧ a ∉ g
  | _, _, _, _, _, _, _, _, _, .nil, _, _, e => by simp at e
  | _, _, _, _, _, _, 0, _, _, .no _, _, _, e => by simp at e
  | _, _, _, _, _, _, i + 1, _, _, .no r, nd, nf, e => by
    obtain ⟨a, u, h1, h2, h3, h4⟩ := RL.give i r nd nf (by simpa using e)
    refine ⟨a, u, h1, h2, h3, fun od => ?_⟩
    obtain ⟨g, h5, h6, h7⟩ := h4 od
    exact ⟨g, .no h5, h6, h7⟩
  | K, Fz, H, _, _, _, 0, _, _, .so (σ := σ) (m := m) (fp := fp) q r, nd, nf, e => by
    have e' := Option.some.inj (Option.some.inj e)
    subst e'
    have fin : ∀ (p : Addr) (u : HO) (x : PyData), H p = some u → ¬ isT u → ([p] ++ fp).Nodup → ¬ Fz p → ∀ od, Rq K Fz (upd H p (.frz od u)) (.ref p) x → ∃ g, RL K Fz (upd H p (.frz od u)) (some (V.ref p) :: σ) (some (W.q x) :: m) g ∧ g.Sublist ([p] ++ fp) ∧ p ∉ g := fun p u x e nt nd nf od rq => by
      rw [List.singleton_append, List.nodup_cons] at nd
      exact ⟨fp, .so (f := []) (.q rq) (r.mono (le_ownG e nt nf) fun b hb u q => by rw [upd_ne (fun z => nd.1 (by rw [← z]; exact hb))]; exact q), List.sublist_append_right _ _, nd.1⟩
    cases q with
    | mK eh en => exact ⟨_, _, eh, trivial, by simp, fun od => fin _ _ _ eh id nd (nf _ (by simp)) od (.dK upd_same (en.mono (le_ownG eh id (nf _ (by simp)))))⟩
    | mT eh en => exact ⟨_, _, eh, trivial, by simp, fun od => fin _ _ _ eh id nd (nf _ (by simp)) od (.dT upd_same (en.mono (le_ownG eh id (nf _ (by simp)))))⟩
  | K, Fz, H, _, _, _, i + 1, _, _, .so (f := f) (fp := fp) q r, nd, nf, e => by
    rw [List.nodup_append] at nd
    obtain ⟨a, u, h1, h2, h3, h4⟩ := RL.give i r nd.2.1 (fun a ha => nf a (List.mem_append_right _ ha)) (by simpa using e)
    refine ⟨a, u, h1, h2, List.mem_append_right _ h3, fun od => ?_⟩
    obtain ⟨g, h5, h6, h7⟩ := h4 od
    have nt : ¬ isT u := by cases u <;> first | exact id | exact fun _ => h2
    refine ⟨f ++ g, .so (q.mono (le_ownG h1 nt (nf a (List.mem_append_right _ h3))) fun b hb u q => by rw [upd_ne (fun z => nd.2.2 b hb a h3 z)]; exact q) h5, h6.append_left f, fun z => ?_⟩
    rcases List.mem_append.mp z with z | z
    · exact nd.2.2 a z a h3 rfl
    · exact h7 z
theorem Rs.give (i : Nat) {K : PySem.W.Frag} {B : Hp} {Fz : Addr → Prop} {H : Hp} {σ : L2.St} {m : Ms} {T : Bool} {kvs : List (PyData × PyData)} (h : Rs K B Fz H σ m) (e : m[i]? = some (some (.m T kvs))) :
    ∃ a u, H a = some u ∧ Mut (some u) ∧ ∀ od, Rs K B Fz (upd H a (.frz od u)) σ (m.set i (some (.q (.dict kvs)))) := by
  obtain ⟨fp, r⟩ := h
  obtain ⟨a, u, h1, h2, h3, h4⟩ := r.rl.give i r.nd (fun a ha => (r.own a ha).2) e
  refine ⟨a, u, h1, h2, fun od => ?_⟩
  obtain ⟨g, h5, h6, h7⟩ := h4 od
  refine ⟨g, h5, r.nd.sublist h6, fun b hb => r.own b (h6.subset hb), fun b o q => ?_, fun b hb => ?_⟩
  · have : b ≠ a := fun z => by
      subst z
      rw [(r.own b h3).1] at q; cases q
    rw [upd_ne this]; exact r.base b o q
  · by_cases z : b = a
    · subst z; rw [upd_same]; simp
    · rw [upd_ne z]; exact r.fz b hb
def sGive (i : Nat) (g : Ms → Fl) : Ms → Fl := fun m => g (giveAt i m)
theorem tS_give {pins : List (Addr × Obj)} {s : Shared} {σ : L2.St} {H : Hp} {D : Ends} (i : Nat) {g : Ms → Fl} (I : Inv X pins σ H s) (w : tS X.K ct Wx (sGive i g) D σ H) : ∃ H', Inv X pins σ H' s ∧ tS X.K ct Wx g D σ H' := by
  obtain ⟨B, Fz, m, r, q⟩ := tS_iff.mp w
  unfold sGive giveAt at q
  split at q
  · rename_i T kvs e
    obtain ⟨a, u, h1, h2, h3⟩ := r.give i e
    obtain ⟨od, I'⟩ := I.lock h1 h2
    exact ⟨_, I', tS_iff.mpr ⟨B, Fz, _, h3 od, q⟩⟩
  · exact ⟨H, I, tS_iff.mpr ⟨B, Fz, m, r, q⟩⟩
theorem ds_give (i : Nat) {g : Ms → Fl} (h : DS X ct Wx st g) : DS X ct Wx st (sGive i g) := ⟨⟨fun pins s σ H D I w => by
  obtain ⟨H', I', w'⟩ := tS_give i I w
  exact h.ps.run pins s σ H' D I' w'⟩⟩
theorem dss_give (i : Nat) {g : Ms → Fl} (h : DSs X ct Wx sts g) : DSs X ct Wx sts (sGive i g) := ⟨⟨fun pins s σ H D I w => by
  obtain ⟨H', I', w'⟩ := tS_give i I w
  exact h.ps.run pins s σ H' D I' w'⟩⟩
/-! ### data with dicts in it -/
def rQ (K : PySem.W.Frag) : Hp → (Addr → Prop) → Hp → L2.St → Ms → V → PyData → Prop := fun B Fz H σ m v x => Rs K B Fz H σ m ∧ Rq K Fz H v x
structure DQ (X : Cx) (ct : CT) (Wx : WX) (e : Expr) (f : Ms → Rz PyData) : Prop where
  pe : PE X e (tG X.K ct Wx (rQ X.K) f)
theorem tQ_then {K : PySem.W.Frag} {f : Ms → Rz PyData} {B : Hp} {Fz : Addr → Prop} {σ : L2.St} {m : Ms} {H : Hp} {Q : VK} (h : Rs K B Fz H σ m)
    (hk : match f m with
      | .st => False
      | .ok x => ∀ v H' Fz', Ext B Fz Fz' → Rs K B Fz' H' σ m → Le Fz H Fz' H' → Rq K Fz' H' v x → Q v H'
      | .ex c => ∀ H' Fz', Ext B Fz Fz' → Rs K B Fz' H' σ m → Wx (ct c) Option.none σ H') : tG K ct Wx (rQ K) f σ H Q := by
  obtain ⟨B2, h2, he, ht⟩ := h.step
  refine ⟨B2, Fz, m, h2, ?_⟩
  cases hf : f m with
  | st => rw [hf] at hk; exact hk
  | ex c => rw [hf] at hk; exact fun H' Fz' e r => hk H' Fz' (he _ e) (ht (ρ := []) (r := []) e r rfl).1
  | ok x =>
    rw [hf] at hk
    intro v H' Fz' e ⟨r, s⟩
    obtain ⟨r', l⟩ := ht (ρ := []) (r := []) e r rfl
    exact hk v H' Fz' (he _ e) r' l s
theorem DV.dq {f : Ms → Rz PyData} (h : DV X ct Wx e f) : DQ X ct Wx e f := ⟨PE_imp h.pe fun σ H Q ⟨B, Fz, m, r, q⟩ => by
  refine ⟨B, Fz, m, r, ?_⟩
  cases hf : f m with
  | st => rw [hf] at q; exact q
  | ex c => rw [hf] at q; exact q
  | ok w => rw [hf] at q; exact fun v H' Fz' e r' => q v H' Fz' e ⟨r'.1, .pl r'.2⟩⟩
def qVar (i : Nat) : Ms → Rz PyData := fun m => match m[i]? with
  | some (some (.q x)) => .ok x
  | some (some (.d x)) => .ok x
  | _ => .st
theorem dq_var {x : Str} (i : Nat) (hN : X.N[i]? = some x := by rfl) (hv : Vis X.env.scope x := by first | exact Or.inl rfl | exact Or.inr (Or.inl rfl) | exact Or.inr (Or.inr rfl)) (hd : (x == ("__debug__" : Str)) = false := by decide)
    (hcd : (x == ("__classdict__" : Str)) = false := by decide) : DQ X ct Wx (.Name x pos) (qVar i) := ⟨PE_imp (pe_var hN hv hd hcd) fun σ H Q ⟨B, Fz, m, r, q⟩ => by
  unfold qVar at q
  cases hm : m[i]? with
  | none => rw [hm] at q; exact q.elim
  | some o =>
    cases o with
    | none => rw [hm] at q; exact q.elim
    | some w =>
      cases w with
      | q y =>
        rw [hm] at q
        obtain ⟨v, h1, h2⟩ := r.getQ hm
        exact ⟨v, h1, q v H Fz .refl ⟨r, h2⟩⟩
      | d y =>
        rw [hm] at q
        obtain ⟨v, h1, h2⟩ := r.get hm
        exact ⟨v, h1, q v H Fz .refl ⟨r, .pl h2⟩⟩
      | _ => rw [hm] at q; exact q.elim⟩
/-- data, or data with dicts in it -/
def qW (x : PyData) : W := if x.plain = true then .d x else .q x
theorem Rs.pushW {K : PySem.W.Frag} {B : Hp} {Fz : Addr → Prop} {H : Hp} {σ : L2.St} {m : Ms} {v : V} {x : PyData} (h : Rs K B Fz H σ m) (r : Rq K Fz H v x) : Rs K B Fz H (some v :: σ) (some (qW x) :: m) := by
  unfold qW
  split
  · rename_i hp; exact h.push (r.rp hp)
  · exact h.pushQ r
theorem DQ.toE {f : Ms → Rz PyData} (h : DQ X ct Wx e f) : DE X ct Wx e (fun m => (f m).map qW) := ⟨PE_imp h.pe fun σ H Q ⟨B, Fz, m, r, q⟩ => by
  refine ⟨B, Fz, m, r, ?_⟩
  cases hf : f m with
  | st => simp only [hf, Rz.map_st] at q
  | ex c => simp only [hf, Rz.map_ex] at q; exact q
  | ok w => simp only [hf, Rz.map_ok] at q; exact fun v H' Fz' e r' => q v H' Fz' e (r'.1.pushW r'.2)⟩
/-- all arguments -/
def tAq (K : PySem.W.Frag) (ct : CT) (Wx : WX) (fs : List (Ms → Rz PyData)) : TA := fun σ H Q => ∃ B Fz m, Rs K B Fz H σ m ∧
  match evalAllD fs m with
  | .st => False
  | .ok xs => ∀ vs H' Fz', Ext B Fz Fz' → Rs K B Fz' H' σ m → RqAll K Fz' H' vs xs → Q vs H'
  | .ex c => ∀ H' Fz', Ext B Fz Fz' → Rs K B Fz' H' σ m → Wx (ct c) Option.none σ H'
structure DAq (X : Cx) (ct : CT) (Wx : WX) (es : List Expr) (fs : List (Ms → Rz PyData)) : Prop where
  pa : PA X es (tAq X.K ct Wx fs)
theorem daq_nil : DAq X ct Wx [] [] := ⟨PA_imp pa_nil fun σ H Q ⟨B, Fz, m, h, q⟩ => q [] H Fz .refl h .nil⟩
theorem tAq_then {K : PySem.W.Frag} {fs : List (Ms → Rz PyData)} {B : Hp} {Fz : Addr → Prop} {σ : L2.St} {m : Ms} {H : Hp} {Q : List V → Hp → Prop} (h : Rs K B Fz H σ m)
    (hk : match evalAllD fs m with
      | .st => False
      | .ok xs => ∀ vs H' Fz', Ext B Fz Fz' → Rs K B Fz' H' σ m → Le Fz H Fz' H' → RqAll K Fz' H' vs xs → Q vs H'
      | .ex c => ∀ H' Fz', Ext B Fz Fz' → Rs K B Fz' H' σ m → Wx (ct c) Option.none σ H') : tAq K ct Wx fs σ H Q := by
  obtain ⟨B2, h2, he, ht⟩ := h.step
  refine ⟨B2, Fz, m, h2, ?_⟩
  cases hf : evalAllD fs m with
  | st => rw [hf] at hk; exact hk
  | ex c => rw [hf] at hk; exact fun H' Fz' e r => hk H' Fz' (he _ e) (ht (ρ := []) (r := []) e r rfl).1
  | ok x =>
    rw [hf] at hk
    intro vs H' Fz' e r s
    obtain ⟨r', l⟩ := ht (ρ := []) (r := []) e r rfl
    exact hk vs H' Fz' (he _ e) r' l s
theorem daq_cons {f : Ms → Rz PyData} {fs : List (Ms → Rz PyData)} (ha : DQ X ct Wx e f) (hs : DAq X ct Wx es fs) (hst : starEach (e :: es) X.env = (false, eval e X.env) :: starEach es X.env := by rfl) : DAq X ct Wx (e :: es) (f :: fs) := ⟨PA_imp (pa_cons ha.pe hs.pa hst) fun σ H Q ⟨B, Fz, m, h, q⟩ => by
  refine tQ_then h ?_
  cases hf : f m with
  | st => simp only [evalAllD, hf, Rz.bind_st] at q
  | ex c => simp only [evalAllD, hf, Rz.bind_ex] at q; exact q
  | ok x =>
    intro v H1 Fz1 x1 h1 l1 s1
    simp only [evalAllD, hf, Rz.bind_ok] at q
    refine tAq_then h1 ?_
    cases hg : evalAllD fs m with
    | st => rw [hg] at q; exact q
    | ex c => rw [hg] at q; exact fun H2 Fz2 x2 r2 => q H2 Fz2 (x1.trans x2) r2
    | ok xs =>
      rw [hg] at q
      exact fun vs H2 Fz2 x2 r2 l2 s2 => q (v :: vs) H2 Fz2 (x1.trans x2) r2 (.cons (s1.mono l2) s2)⟩
/-! ### defs that give such data out, or take it -/
def spQ (ct : CT) (K : PySem.W.Frag) (n : Nat) (F : Ms → Rz PyData) : Sp := fun vs H Q E => ∃ Fz m, vs.length = n ∧ (∀ a, Fz a → H a ≠ none) ∧ RL K Fz H (vs.map some) m [] ∧ match F m with
  | .st => False
  | .ok x => ∀ v H' Fz', Same H H' → Ext H Fz Fz' → (∀ a, Fz' a → H' a ≠ none) → Rq K Fz' H' v x → Q v H'
  | .ex c => ∀ H' Fz', Same H H' → Ext H Fz Fz' → (∀ a, Fz' a → H' a ≠ none) → E (ct c) Option.none H'
def fnQ (N : Nat) (g : Ms → Fl) : Ms → Rz PyData := fun m => match g (m ++ List.replicate (N - m.length) none) with
  | .nx _ => .ok .none
  | .rt x => .ok x
  | .rq x => .ok x
  | .ex c _ => .ex c
  | _ => .st
section
variable {P : Program} {w : World} {K : PySem.W.Frag} {mg : Str → Option Value} {base : Heap}
theorem fn_bodyQ {x qual : Str} {st : Stmt} {f : Addr} {fd : FuncData} {N ps : List Str} {k : Nat} {g : Ms → Fl} (F : Fun K x qual st f fd) (S : FnScope N ps (defScope st))
    (hb : ∀ (cdv : Value) (A : Around) (outer : List Env) (s : Shared) (H : Hp) (E : XK), Room k (A.deeper (envOfC qual (defScope st) s.heap.objs.size f cdv)) →
      DSs (cxOf (L2.CX P w) P w K mg base N qual (defScope st) f cdv A outer s H E) ct (fun cls d _ H => E cls d H) (defBody st) g) : FnOk P w K mg base (L2.CX P w) (k + 1) f fd ps (spQ ct K ps.length (fnQ N.length g)) := by
  refine F.okX S (fun vs H Q E ⟨Fz, m, h, _⟩ => h) fun cdv A outer s H vs Q E hr ⟨Fz, m, hl, hz, h, q⟩ => ⟨_, (hb cdv A outer s H E hr).ps, ?_⟩
  have hm : vs.length = m.length := by rw [← h.length, List.length_map]
  refine tS_iff.mpr ⟨H, Fz, m ++ List.replicate (N.length - m.length) none, ⟨[], ?_, List.nodup_nil, fun a ha => absurd ha (List.not_mem_nil), fun _ _ z => z, hz⟩, ?_⟩
  · unfold L2.start
    rw [hm]
    exact h.pad _
  · unfold fnQ at q
    cases hg : g (m ++ List.replicate (N.length - m.length) none) with
    | st => rw [hg] at q; exact q
    | bk _ => rw [hg] at q; exact q.elim
    | ct _ => rw [hg] at q; exact q.elim
    | nx m' => rw [hg] at q; exact fun σ' H' Fz' x r => q .non H' Fz' (fun a o e => r.base a o e) x r.fzn (.pl .non)
    | rt y => rw [hg] at q; exact fun v H' Fz' x ⟨σ', m', r⟩ p => q v H' Fz' (fun a o e => r.base a o e) x r.fzn (.pl p)
    | rq y => rw [hg] at q; exact fun v H' Fz' x ⟨σ', m', r⟩ p => q v H' Fz' (fun a o e => r.base a o e) x r.fzn p
    | ex c m' => rw [hg] at q; exact fun σ' H' Fz' x r => q H' Fz' (fun a o e => r.base a o e) x r.fzn
structure CallQ (P : Program) (w : World) (K : PySem.W.Frag) (mg : Str → Option Value) (base : Heap) (ct : CT) (k : Nat) (x : Str) (n : Nat) (F : Ms → Rz PyData) : Prop where
  ex : ∃ f fd ps, FnOk P w K mg base (L2.CX P w) k f fd ps (spQ ct K n F) ∧ mg x = some (.ref f) ∧ PySem.W.keepIn K (.ref f) = true ∧ Binds K fd ps []
theorem callQ_of {x : Str} {st : Stmt} {N ps : List Str} {k n np : Nat} {g : Ms → Fl} (D : DefD K mg x st ps) (S : FnScope N ps (defScope st)) (hn : N.length = n) (hp : ps.length = np)
    (hb : ∀ (f : Addr) (cdv : Value) (A : Around) (outer : List Env) (s : Shared) (H : Hp) (E : XK), Room k (A.deeper (envOfC x (defScope st) s.heap.objs.size f cdv)) →
      DSs (cxOf (L2.CX P w) P w K mg base N x (defScope st) f cdv A outer s H E) ct (fun cls d _ H => E cls d H) (defBody st) g) : CallQ P w K mg base ct (k + 1) x np (fnQ n g) := by
  obtain ⟨f, fd, F, hm, hb'⟩ := D.ex
  subst hn hp
  exact ⟨f, fd, ps, fn_bodyQ F S (hb f), hm, F.kp, hb'⟩
end
def vFnM (F : Ms → Rz PyData) (fs : List (Ms → Rz PyData)) : Ms → Rz PyData := fun m => (evalAllD fs m).bind fun xs => F (xs.map fun x => some (qW x))
theorem RL.ofAllQ {K : PySem.W.Frag} {Fz : Addr → Prop} {H : Hp} : ∀ {vs : List V} {xs : List PyData}, RqAll K Fz H vs xs → RL K Fz H (vs.map some) (xs.map fun x => some (qW x)) []
  | _, _, .nil => .nil
  | _, x :: _, .cons r rs => by
    refine .so (f := []) ?_ (RL.ofAllQ rs)
    unfold qW
    split
    · rename_i hp; exact .d (r.rp hp)
    · exact .q r
theorem RqAll.length {K : PySem.W.Frag} {Fz : Addr → Prop} {H : Hp} : ∀ {vs : List V} {ds : List PyData}, RqAll K Fz H vs ds → vs.length = ds.length
  | _, _, .nil => rfl
  | _, _, .cons _ r => by rw [List.length_cons, List.length_cons, RqAll.length r]
/-- plain data given back -/
theorem dv_callM {x : Str} {k j n : Nat} {F : Ms → Rz PyData} {fs : List (Ms → Rz PyData)} (c : CallW X.prog X.w X.K X.mg X.base ct k x n F) (hr : Room j X.A) (hk : k ≤ j) (tk : Takes X Wx) (ha : DAq X ct Wx (e :: es) fs) (hn : (e :: es).length = n := by rfl) (hg : Gl X x := by rfl)
    (hdb : (x == ("__debug__" : Str)) = false := by decide) (he : starEach (e :: es) X.env = (false, eval e X.env) :: starEach es X.env := by rfl) (hpl : (backTo pos (starEach es X.env)).any (·.1) = false := by rfl) (hfl : fs.length = (e :: es).length := by rfl) :
    DV X ct Wx (.Call (.Name x p) (e :: es) [] pos) (vFnM F fs) := by
  obtain ⟨f, fd, ps, hf, hm, hkp, hb⟩ := c.ex
  refine ⟨PE_imp (pe_callS hf (hr.mono hk) hg hm hkp hb (fun σ => passAt tk σ) ha.pa hdb he hpl) fun σ H Q ⟨B, Fz, m, r, q⟩ => ⟨B, Fz, m, r, ?_⟩⟩
  unfold vFnM at q
  cases hf : evalAllD fs m with
  | st => rw [hf] at q; exact q
  | ex c => rw [hf] at q; exact q
  | ok xs =>
    rw [hf, Rz.bind_ok] at q
    intro vs H1 F1 x1 r1 p1
    refine fn_end (by rw [p1.length, evalAllD_len hf, hfl]; exact hn) r1 (RL.ofAllQ p1) ?_
    cases hF : F (xs.map fun x => some (qW x)) with
    | st => rw [hF] at q; exact q
    | ok y => rw [hF] at q; exact fun v H' F' x r p => q v H' F' (x1.trans x) ⟨r, p⟩
    | ex c => rw [hF] at q; exact fun H' F' x r => q H' F' (x1.trans x) r
theorem fn_endQ {K : PySem.W.Frag} {F : Ms → Rz PyData} {n : Nat} {B H : Hp} {Fz : Addr → Prop} {σ : L2.St} {m ma : Ms} {vs : List V} {Q : VK} (hl : vs.length = n) (r : Rs K B Fz H σ m) (ra : RL K Fz H (vs.map some) ma [])
    (q : match F ma with
      | .st => False
      | .ok a => ∀ v H' Fz', Ext B Fz Fz' → Rs K B Fz' H' σ m → Rq K Fz' H' v a → Q v H'
      | .ex c => ∀ H' Fz', Ext B Fz Fz' → Rs K B Fz' H' σ m → Wx (ct c) Option.none σ H') : spQ ct K n F vs H Q (WE Wx σ) := by
  refine ⟨Fz, ma, hl, r.fzn, ra, ?_⟩
  cases hf : F ma with
  | st => rw [hf] at q; exact q
  | ok y => rw [hf] at q; exact fun v H' Fz' sm x nz rp => q v H' Fz' (ext_base r.base x) (r.grow sm x nz) rp
  | ex c => rw [hf] at q; exact fun H' Fz' sm x nz => q H' Fz' (ext_base r.base x) (r.grow sm x nz)
theorem dq_call {x : Str} {k j n : Nat} {F : Ms → Rz PyData} {fs : List (Ms → Rz PyData)} (c : CallQ X.prog X.w X.K X.mg X.base ct k x n F) (hr : Room j X.A) (hk : k ≤ j) (tk : Takes X Wx) (ha : DAq X ct Wx (e :: es) fs) (hn : (e :: es).length = n := by rfl) (hg : Gl X x := by rfl)
    (hdb : (x == ("__debug__" : Str)) = false := by decide) (he : starEach (e :: es) X.env = (false, eval e X.env) :: starEach es X.env := by rfl) (hpl : (backTo pos (starEach es X.env)).any (·.1) = false := by rfl) (hfl : fs.length = (e :: es).length := by rfl) :
    DQ X ct Wx (.Call (.Name x p) (e :: es) [] pos) (vFnM F fs) := by
  obtain ⟨f, fd, ps, hf, hm, hkp, hb⟩ := c.ex
  refine ⟨PE_imp (pe_callS hf (hr.mono hk) hg hm hkp hb (fun σ => passAt tk σ) ha.pa hdb he hpl) fun σ H Q ⟨B, Fz, m, r, q⟩ => ⟨B, Fz, m, r, ?_⟩⟩
  unfold vFnM at q
  cases hf : evalAllD fs m with
  | st => rw [hf] at q; exact q
  | ex c => rw [hf] at q; exact q
  | ok xs =>
    rw [hf, Rz.bind_ok] at q
    intro vs H1 F1 x1 r1 p1
    refine fn_endQ (by rw [p1.length, evalAllD_len hf, hfl]; exact hn) r1 (RL.ofAllQ p1) ?_
    cases hF : F (xs.map fun x => some (qW x)) with
    | st => rw [hF] at q; exact q
    | ok y => rw [hF] at q; exact fun v H' F' x r p => q v H' F' (x1.trans x) ⟨r, p⟩
    | ex c => rw [hF] at q; exact fun H' F' x r => q H' F' (x1.trans x) r
/-- return of such data -/
theorem tQ_end {f : Ms → Rz PyData} {B : Hp} {Fz : Addr → Prop} {σ : L2.St} {m : Ms} {H : Hp} {Q : VK} {D : Ends} {k : PyData → Ms → Fl} (h : Rs X.K B Fz H σ m)
    (q : EndS X.K ct Wx B Fz D (flE f k m))
    (hk : ∀ x v H' Fz', f m = .ok x → Ext B Fz Fz' → Rs X.K B Fz' H' σ m → Rq X.K Fz' H' v x → EndS X.K ct Wx B Fz' D (k x m) → Q v H') : tG X.K ct Wx (rQ X.K) f σ H Q := by
  refine ⟨B, Fz, m, h, ?_⟩
  unfold flE at q
  cases hf : f m with
  | st => rw [hf] at q; exact q
  | ex c => rw [hf] at q; exact fun H' F' x r => q σ H' F' x r
  | ok w => rw [hf] at q; exact fun v H' F' x r => hk w v H' F' hf x r.1 r.2 (q.ext x)
def sRetQ (f : Ms → Rz PyData) : Ms → Fl := flE f fun x _ => .rq x
theorem ds_retQ {f : Ms → Rz PyData} (he : DQ X ct Wx e f) : DS X ct Wx (.Return (some e) pos) (sRetQ f) :=
  ds_of (ps_ret he.pe) fun D σ H B Fz m h q => tQ_end (k := fun x _ => .rq x) h q fun _ v H' F' _ x r p q => q v H' F' .refl ⟨_, _, r⟩ p
def eTupQ (fs : List (Ms → Rz PyData)) : Ms → Rz PyData := fun m => (evalAllD fs m).map .tuple
end
end Dl
set_option Elab.async false
set_option linter.all false
set_option maxRecDepth 100000
/-! D24: walks and sorted of dicts given up; displays, subscripts, targets for data with dicts; name = e[xs.pop()]. -/
namespace Dl
open PySem PySem.Spec PyProof.Rows L2
section
variable {X : Cx} {ct : CT} {Wx : WX} {e e2 a b c tg : Expr} {es : List Expr} {st : Stmt} {p pos : Pos}
/-- a dict given up, in a slot -/
def qdAt (i : Nat) (m : Ms) : Option (List (PyData × PyData)) := match m[i]? with
  | some (some (.q (.dict kvs))) => some kvs
  | _ => none
def DictF (K : PySem.W.Frag) (Fz : Addr → Prop) (H : Hp) (a : Addr) (kvs : List (PyData × PyData)) : Prop :=
  (∃ (o : Obj) (ks : List (Key × V)), H a = some (.frz o (.dK ks)) ∧ DEnt K Fz H keyD ks kvs) ∨ (∃ (o : Obj) (ks : List (List Key × V)), H a = some (.frz o (.dT ks)) ∧ DEnt K Fz H keysD ks kvs)
theorem Rs.getF {K : PySem.W.Frag} {B : Hp} {Fz : Addr → Prop} {H : Hp} {σ : L2.St} {m : Ms} {i : Nat} {kvs : List (PyData × PyData)} (h : Rs K B Fz H σ m) (e : qdAt i m = some kvs) : ∃ a, σ[i]? = some (some (.ref a)) ∧ DictF K Fz H a kvs := by
  unfold qdAt at e
  split at e
  · rename_i kvs' e'
    cases e
    obtain ⟨v, h1, h2⟩ := h.getQ e'
    cases h2 with
    | pl r => cases r
    | dK eh en => exact ⟨_, h1, .inl ⟨_, _, eh, en⟩⟩
    | dT eh en => exact ⟨_, h1, .inr ⟨_, _, eh, en⟩⟩
  · cases e
def iKeysD (i : Nat) : Ms → Rz (List PyData) := fun m => match qdAt i m with
  | some kvs => if kvs.length ≤ 10000000 then .ok (kvs.map (·.1)) else .st
  | none => .st
theorem rp_keyD {K : PySem.W.Frag} {Fz : Addr → Prop} {H : Hp} : ∀ {k : Key}, Rp K Fz H (kV k) (keyD k)
  | .inl i => .int i
  | .inr s => .str s
theorem rp_keysAll {K : PySem.W.Frag} {Fz : Addr → Prop} {H : Hp} : ∀ {k : List Key}, RpAll K Fz H (k.map kV) (k.map keyD)
  | [] => .nil
  | _ :: _ => .cons rp_keyD rp_keysAll
theorem DEnt.key_get {K : PySem.W.Frag} {Fz : Addr → Prop} {H : Hp} {κ : Type} {kd : κ → PyData} {ks : List (κ × V)} {kvs : List (PyData × PyData)} (h : DEnt K Fz H kd ks kvs) {i : Nat} {x : PyData} (e : (kvs.map (·.1))[i]? = some x) : ∃ k v, ks[i]? = some (k, v) ∧ x = kd k := by
  rw [h.keys, List.getElem?_map] at e
  obtain ⟨p, h1, rfl⟩ := Option.map_eq_some_iff.mp e
  exact ⟨p.1, p.2, h1, rfl⟩
theorem di_keys {y : Str} (i : Nat) (hN : X.N[i]? = some y := by rfl) (hv : Vis X.env.scope y := by first | exact Or.inl rfl | exact Or.inr (Or.inl rfl) | exact Or.inr (Or.inr rfl)) (hd : (y == ("__debug__" : Str)) = false := by decide)
    (hcd : (y == ("__classdict__" : Str)) = false := by decide) : DI X ct Wx tg (.Name y pos) (iKeysD i) := ⟨PI_imp (pi_keys (pe_var hN hv hd hcd)) fun σ H R ⟨B, Fz, m, h, q⟩ => by
  unfold iKeysD at q
  cases e1 : qdAt i m with
  | none => rw [e1] at q; exact q.elim
  | some kvs =>
    rw [e1] at q
    dsimp only at q
    by_cases hl : kvs.length ≤ 10000000
    · rw [if_pos hl] at q
      dsimp only at q
      obtain ⟨a, g1, dv⟩ := h.getF e1
      have hsz : (kvs.map (·.1)).length ≤ sizeLine := by rw [List.length_map, sizeLine_eq]; omega
      refine ⟨_, g1, a, ?_⟩
      rcases dv with ⟨o, ks, eh, en⟩ | ⟨o, ks, eh, en⟩
      · refine ⟨o, rfl, .inl ⟨ks, eh, q _ H Fz .refl h (fun F' H' l => ?_) hsz⟩⟩
        have eh' := l.hp _ _ eh (.inr trivial)
        refine ⟨fun i hi => ⟨eh', by rw [List.length_map] at hi; rw [en.length]; exact hi⟩, ⟨eh', by rw [List.length_map, en.length]; exact Nat.le_refl _⟩, fun j x v H'' hx hy => ?_⟩
        obtain ⟨rfl, k, w, h1, rfl⟩ := hy
        obtain ⟨k', w', h2, rfl⟩ := en.key_get hx
        rw [h1] at h2; cases h2
        exact ⟨.inl rfl, rp_keyD⟩
      · refine ⟨o, rfl, .inr ⟨ks, eh, q _ H Fz .refl h (fun F' H' l => ?_) hsz⟩⟩
        have eh' := l.hp _ _ eh (.inr trivial)
        refine ⟨fun i hi => ⟨eh', by rw [List.length_map] at hi; rw [en.length]; exact hi⟩, ⟨eh', by rw [List.length_map, en.length]; exact Nat.le_refl _⟩, fun j x v H'' hx hy => ?_⟩
        obtain ⟨rfl, k, w, qa, h1, rfl, ht⟩ := hy
        obtain ⟨k', w', h2, rfl⟩ := en.key_get hx
        rw [h1] at h2; cases h2
        exact ⟨.inl rfl, .tup ht rp_keysAll⟩
    · rw [if_neg hl] at q
      exact q.elim⟩
/-! ### sorted(d) -/
theorem reads_key {h : Heap} {v : Value} {k : Key} {as : List Addr} (r : Reads h v (keyD k) as) : as = [] := by
  cases k <;> (simp only [keyD] at r; cases r; rfl)
theorem reads_keys {h : Heap} : ∀ {k : List Key} {vs : List Value} {as : List Addr}, ReadsAll h vs (k.map keyD) as → as = []
  | [], _, _, r => by cases r; rfl
  | k :: ks, _, _, r => by
    cases r with
    | cons r rs => rw [reads_key r, reads_keys rs]; rfl
def isKeyD (x : PyData) : Prop := (∃ k, x = keyD k) ∨ ∃ k, x = keysD k
theorem reads_isKey {h : Heap} {v : Value} {x : PyData} {as : List Addr} (hk : isKeyD x) (r : Reads h v x as) : as = [] := by
  rcases hk with ⟨k, rfl⟩ | ⟨k, rfl⟩
  · exact reads_key r
  · unfold keysD at r
    cases r with
    | tuple h1 h2 h3 h4 => exact reads_keys h4
theorem pairs_get {prog : Program} {w : World} {κ : Type} [DecidableEq κ] {knd : KeyKind prog w κ} : ∀ {es : List DictEntry} {kvs : List (κ × Value)}, Pairs knd es kvs → ∀ {i : Nat} {en : DictEntry}, es[i]? = some en → ∃ kv, kvs[i]? = some kv ∧ knd.is kv.1 en.key = true
  | _, _, .nil, _, _, e => by simp at e
  | _, _, .cons h _ t, 0, _, e => by simp at e; subst e; exact ⟨_, rfl, h⟩
  | _, _, .cons _ _ t, i + 1, _, e => by
    obtain ⟨kv, h1, h2⟩ := pairs_get t (i := i) (by simpa using e)
    exact ⟨kv, by simpa using h1, h2⟩
/-- the keys as they lie in the entries -/
theorem dictF_raw {K : PySem.W.Frag} {Fz : Addr → Prop} {pins : List (Addr × Obj)} {s : Shared} {σ : L2.St} {H : Hp} {d : Addr} {kvs : List (PyData × PyData)} (I : Inv X pins σ H s) (h : DictF K Fz H d kvs) :
    (d == sysModules) = false ∧ ∃ (es : Array DictEntry) (ep : Nat), s.heap.DictRaw d es ep ∧ es.size = kvs.length ∧ (∀ x ∈ kvs.map (·.1), isKeyD x) ∧ ∀ (i : Nat) (hi : i < es.size) (x : PyData), (kvs.map (·.1))[i]? = some x → ∃ y, RelV y es[i].key ∧ Rp K Fz H y x := by
  rcases h with ⟨o, ks, eh, en⟩ | ⟨o, ks, eh, en⟩
  · obtain ⟨h1, h2, h3, es, ep, vs, h4, h5, kv, o2, es2, g1, g2, g3, g4, g5, g6⟩ := I.frzK eh
    rw [h2] at g1; cases g1
    rw [h4] at g3; cases g3
    refine ⟨h1, es, ep, ⟨o, h2, h3, h4⟩, by rw [h5, en.length], fun x hx => ?_, fun i hi x hx => ?_⟩
    · rw [en.keys] at hx
      obtain ⟨p, _, rfl⟩ := List.mem_map.mp hx
      exact .inl ⟨_, rfl⟩
    · obtain ⟨k, v, e1, rfl⟩ := en.key_get hx
      obtain ⟨u, e2, _⟩ := kv_get kv e1
      have e3 : es.toList[i]? = some es[i] := by rw [Array.getElem?_toList, Array.getElem?_eq_getElem hi]
      obtain ⟨en', e4, e5⟩ := pairs_get g5 e3
      rw [e2] at e4; cases e4
      exact ⟨kV k, relV_key e5, rp_keyD⟩
  · obtain ⟨h1, h2, h3, es, ep, h4, h5, h6⟩ := I.frzT eh
    refine ⟨h1, es, ep, ⟨o, h2, h3, h4⟩, by rw [h5, en.length], fun x hx => ?_, fun i hi x hx => ?_⟩
    · rw [en.keys] at hx
      obtain ⟨p, _, rfl⟩ := List.mem_map.mp hx
      exact .inr ⟨_, rfl⟩
    · obtain ⟨k, v, e1, rfl⟩ := en.key_get hx
      obtain ⟨en', q, e2, e3, e4⟩ := h6 i k v e1
      rw [Array.getElem?_eq_getElem hi] at e2; cases e2
      rw [e3]
      exact ⟨.ref q, rfl, .tup e4 rp_keysAll⟩
def rSortF (K : PySem.W.Frag) : List V → Hp → VK → Prop := fun vs H Q => ∃ (d : Addr) (kvs : List (PyData × PyData)) (Fz : Addr → Prop), vs = [V.ref d] ∧ DictF K Fz H d kvs ∧ SortOk (kvs.map (·.1)) ∧ ∀ (ys : List V) (p : Addr), RpAll K Fz H ys (dsort (kvs.map (·.1))) → H p = none → Q (.ref p) (upd H p (.lst ys))
theorem each_at {K : PySem.W.Frag} {Fz : Addr → Prop} {H : Hp} : ∀ {its : List Value} {ds : List PyData}, its.length = ds.length → (∀ (i : Nat) (v : Value) (x : PyData), its[i]? = some v → ds[i]? = some x → ∃ y, RelV y v ∧ Rp K Fz H y x) → PySem.W.EachIs (fun v d => ∃ y, RelV y v ∧ Rp K Fz H y d) its ds
  | [], [], _, _ => .nil
  | [], _ :: _, h, _ => by simp at h
  | _ :: _, [], h, _ => by simp at h
  | v :: its, x :: ds, h, f => .cons (f 0 v x rfl rfl) (each_at (by simpa using h) fun i u y h1 h2 => f (i + 1) u y (by simpa using h1) (by simpa using h2))
theorem cr_sortF (hc : X.calm = true) (hu : X.A.units + 105 < cLine) : CallR X (.builtin "sorted") (rSortF X.K) := by
  intro pins s σ H vs us Q I r h
  obtain ⟨d, kvs, Fz, rfl, hd, ⟨o1, o2, o3, o4⟩, q⟩ := h
  rw [Vals.ref1 r]
  obtain ⟨lo, es, ep, hraw, hsz, hkey, hent⟩ := dictF_raw I hd
  rw [List.length_map] at o3
  refine Calls.call_function_entry PyProof.Rows.kind_sorted PyProof.Rows.plain_sorted PyProof.Rows.entry_sorted (PyProof.Rows.args_sorted1 _) ?_
  unfold Builtin.«sorted»
  refine wpAny_bind (m := checkCount "sorted" 1 1 _) (wpAny_pure ?_)
  refine wpAny_bind (PySem.W.kdu_collect (A := X.A.in1) (KdlSrc.rawDict (es := es) (ep := ep) lo) (I.ok.hd hc) hraw (by rw [hsz, sizeLine_eq]; omega) fun h' tk acc hk hacc => ?_)
  have hal : acc.toList.length = (kvs.map (·.1)).length := by rw [Array.length_toList, hacc.1, hsz, List.length_map]
  have e1 : PySem.W.EachIs (fun v x => ∃ y, RelV y v ∧ Rp X.K Fz H y x) acc.toList (kvs.map (·.1)) := each_at hal fun i v x h1 h2 => by
    obtain ⟨hi, e⟩ := hacc.2 i v (by rw [← Array.getElem?_toList]; exact h1)
    rw [e]
    exact hent i hi x h2
  have I1 : Inv X pins σ H { s with heap := h', toks := tk } := I.kept hk
  refine wpAny_bind (wpAny_newList ?_ (by rw [hal, List.length_map, sizeLine_eq]; omega))
  have I2 : Inv X pins σ H { s with heap := h'.push { cls := .type "list", data := .seq acc.toList.toArray }, toks := tk } := I1.kept (t' := tk) fun b o e => Heap.get?_push_of_some _ e
  have hoL : (h'.push (seqObj "list" acc.toList.toArray 0)).get? h'.objs.size = some (seqObj "list" acc.toList.toArray 0) := Heap.get?_push_size _ rfl
  show wpAny _ _ _ _ _ { s with heap := h'.push (seqObj "list" acc.toList.toArray 0), toks := tk }
  have e2 : ∀ {its : List Value} {ds : List PyData}, (∀ x ∈ ds, isKeyD x) → PySem.W.EachIs (fun v x => ∃ y, RelV y v ∧ Rp X.K Fz H y x) its ds → PySem.W.EachIs (fun v x => ∃ as, Reads (h'.push (seqObj "list" acc.toList.toArray 0)) v (id x) as ∧ h'.objs.size ∉ as) its ds := by
    intro its ds hk e
    induction e with
    | nil => exact .nil
    | cons r t ih =>
      obtain ⟨y, ry, rp⟩ := r
      obtain ⟨as, rd⟩ := Dp.reads I2 _ y _ rp.dp ry
      refine .cons ⟨as, rd, ?_⟩ (ih fun x hx => hk x (List.mem_cons_of_mem _ hx))
      rw [reads_isKey (hk _ (by simp)) rd]
      exact List.not_mem_nil
  refine wpAny_bind (wpAny_holding (PySem.W.list_sort_data (enc := id) (vs := acc.toList) hoL e1 (e2 hkey e1) (by rwa [List.map_id]) (by rwa [List.map_id]) (by rw [List.length_map, sizeLine_eq]; omega) (fun b hb => by have := depth_mem hb; show X.A.units + 1 + 1 + b.depth < cLine; omega) fun out hlen e3 => ?_))
  obtain ⟨ys, y1, y2⟩ := of_each e3
  obtain ⟨ep', he'⟩ := PyProof.Rows.sortedHeap_at (vs := acc.toList) (out := out.toArray) hoL
  have hyl : ys.length ≤ sizeLine := by rw [y2.length, hlen, List.length_map, sizeLine_eq]; omega
  refine wpAny_pure ⟨_, rfl, .ref h'.objs.size, upd H h'.objs.size (.lst ys), I1.laid (t' := tk) (fun b u e => ?_) (Nat.le_refl _) ⟨hyl, out, ep', y2, by simpa using he'⟩, rfl, q ys _ y1 (I1.hok.fresh (Nat.le_refl _))⟩
  have hb : b < h'.objs.size := Heap.lt_size e
  rw [PyProof.Rows.sortedHeap_old (Nat.ne_of_lt hb) (by rw [size_push']; exact Nat.lt_succ_of_lt hb)]
  exact Heap.get?_push_of_some _ e
open Classical in
noncomputable def eSortF (i : Nat) : Ms → Rz W := fun m => match qdAt i m with
  | some kvs => if SortOk (kvs.map (·.1)) then .ok (.l (dsort (kvs.map (·.1)))) else .st
  | none => .st
theorem de_sortF {y : Str} {p2 : Pos} (i : Nat) (hu : X.A.units + 105 < cLine) (hm : X.mg "sorted" = none) (hN : X.N[i]? = some y := by rfl)
    (hv : Vis X.env.scope y := by first | exact Or.inl rfl | exact Or.inr (Or.inl rfl) | exact Or.inr (Or.inr rfl)) (hd : (y == ("__debug__" : Str)) = false := by decide) (hcd : (y == ("__classdict__" : Str)) = false := by decide) (hc : X.calm = true := by rfl) (hg : Gl X "sorted" := by rfl)
    (h1 : starEach [.Name y p2] X.env = (false, eval (.Name y p2) X.env) :: starEach [] X.env := by rfl) : DE X ct Wx (.Call (.Name "sorted" p) [.Name y p2] [] pos) (eSortF i) :=
  ⟨PE_imp (pe_callB (cr_sortF hc hu) hg hm (by decide +kernel) (pa_cons (pe_var hN hv hd hcd) pa_nil h1) (by decide) (by decide) h1 (by rfl)) fun σ H Q ⟨B, Fz, m, h, q⟩ => by
    unfold eSortF at q
    cases e1 : qdAt i m with
    | none => rw [e1] at q; exact q.elim
    | some kvs =>
      rw [e1] at q
      dsimp only at q
      split at q
      · exact q.elim
      · rename_i w hw
        split at hw
        · rename_i ho
          cases hw
          obtain ⟨a, g1, df⟩ := h.getF e1
          exact ⟨_, g1, a, kvs, Fz, rfl, df, ho, fun ys p hy hp => q _ _ Fz .refl (h.newLst hp hy)⟩
        · cases hw
      · rename_i hw
        split at hw <;> cases hw⟩
end
end Dl
set_option Elab.async false
set_option linter.all false
set_option maxRecDepth 100000
/-! D25: displays, subscripts, targets for data with dicts; name = e[xs.pop()]. -/
namespace Dl
open PySem PySem.Spec PyProof.Rows L2
section
variable {X : Cx} {ct : CT} {Wx : WX} {e e2 a b c tg : Expr} {es : List Expr} {st : Stmt} {p pos : Pos}
theorem dq_tup {es : List Expr} {fs : List (Ms → Rz PyData)} {x1} (h : DAq X ct Wx es fs) (hz : fs.length ≤ 1000 := by decide) : DQ X ct Wx (.Tuple es x1 pos) (eTup fs) := ⟨PE_imp (pe_tup h.pa) fun σ H Q ⟨B, Fz, m, h, q⟩ => by
  unfold eTup at q
  refine tAq_then h ?_
  cases hf : evalAllD fs m with
  | st => rw [hf] at q; exact q
  | ex c => rw [hf] at q; exact q
  | ok xs =>
    intro vs H1 Fz1 x1 h1 l1 s1
    rw [hf] at q
    have z := evalAllD_len hf
    refine ⟨?_, fun p hp => ?_⟩
    · rw [s1.length, z]; exact Nat.le_trans (Nat.le_trans hz (by decide)) sz_le
    · exact q _ _ Fz1 x1 ⟨h1.new hp, .tup upd_same (s1.mono ⟨fun _ x => x, fun a o q _ => same_new hp a o q⟩)⟩⟩
theorem RqAll.get' {K : PySem.W.Frag} {Fz : Addr → Prop} {H : Hp} : ∀ {vs : List V} {ds : List PyData} {i : Nat} {d : PyData}, RqAll K Fz H vs ds → ds[i]? = some d → ∃ v, vs[i]? = some v ∧ Rq K Fz H v d
  | _, _, _, _, .nil, e => by simp at e
  | _, _, 0, _, .cons r _, e => by simp at e; subst e; exact ⟨_, rfl, r⟩
  | _, _, i + 1, _, .cons _ t, e => by
    obtain ⟨v, h1, h2⟩ := RqAll.get' (i := i) t (by simpa using e)
    exact ⟨v, by simpa using h1, h2⟩
theorem RpAll.q {K : PySem.W.Frag} {Fz : Addr → Prop} {H : Hp} : ∀ {vs : List V} {ds : List PyData}, RpAll K Fz H vs ds → RqAll K Fz H vs ds
  | _, _, .nil => .nil
  | _, _, .cons r t => .cons (.pl r) (RpAll.q t)
theorem Rq.tupE {K : PySem.W.Frag} {Fz : Addr → Prop} {H : Hp} {v : V} {xs : List PyData} (h : Rq K Fz H v (.tuple xs)) : ∃ a vs, v = .ref a ∧ SqT K H a vs ∧ RqAll K Fz H vs xs := by
  cases h with
  | pl r =>
    obtain ⟨a, vs, e, h1, h2⟩ := r.tupE
    exact ⟨a, vs, e, h1, RpAll.q h2⟩
  | tup e r => exact ⟨_, _, rfl, .inl (.inl e), r⟩
/-- e[n] -/
def qIx (n : Nat) (f : Ms → Rz PyData) : Ms → Rz PyData := fun m => (f m).bind fun x => match x with
  | .tuple xs => ofO xs[n]?
  | _ => .st
theorem dq_ix {f : Ms → Rz PyData} {n : Nat} {kk} {p2 : Pos} (ha : DQ X ct Wx a f) : DQ X ct Wx (.Subscript a (.Constant (.int (n : Int)) kk p2) pos) (qIx n f) :=
  ⟨PE_imp (pe_ix ix_seq ha.pe pe_int (by exact fun _ _ => rfl)) fun σ H Q ⟨B, Fz, m, h, q⟩ => by
    unfold qIx at q
    refine tQ_then h ?_
    cases hf : f m with
    | st => rw [hf] at q; exact q
    | ex c => rw [hf] at q; exact q
    | ok x =>
      intro v H1 F1 x1 r1 l1 s1
      rw [hf, Rz.bind_ok] at q
      cases x with
      | tuple xs =>
        dsimp only at q
        obtain ⟨a, vs, rfl, h1, h2⟩ := s1.tupE
        cases hx : xs[n]? with
        | none => rw [hx] at q; exact q.elim
        | some y =>
          rw [hx] at q
          obtain ⟨u, h3, h4⟩ := h2.get' hx
          refine .inr (.inl ⟨a, vs, _, u, rfl, rfl, h1, ?_, q u H1 F1 x1 ⟨r1, h4⟩⟩)
          unfold atI ixN
          have hn := (List.getElem?_eq_some_iff.mp h3).1
          rw [if_pos (by omega), if_pos (by omega)]
          simpa using h3
      | _ => exact q.elim⟩
/-! ### targets -/
def gDq (K : PySem.W.Frag) (s : PyData → Ms → Option Ms) : TG := fun v σ H Q => ∃ B Fz m x, Rs K B Fz H σ m ∧ Rq K Fz H v x ∧
  match s x m with
  | some m' => ∀ σ', Rs K B Fz H σ' m' → Q σ' H
  | none => False
structure DGq (X : Cx) (tg : Expr) (s : PyData → Ms → Option Ms) : Prop where
  pg : PG X tg (gDq X.K s)
def gDqs (K : PySem.W.Frag) (s : List PyData → Ms → Option Ms) : TGs := fun v σ H Q => ∃ B Fz m x, Rs K B Fz H σ m ∧ RqAll K Fz H v x ∧
  match s x m with
  | some m' => ∀ σ', Rs K B Fz H σ' m' → Q σ' H
  | none => False
structure DGqs (X : Cx) (ts : List Expr) (s : List PyData → Ms → Option Ms) : Prop where
  pg : PGs X ts (gDqs X.K s)
def gSetQ (i : Nat) : PyData → Ms → Option Ms := fun x m => if i < m.length then some (m.set i (some (qW x))) else none
theorem dgq_name {x : Str} (i : Nat) (hN : X.N.Nodup) (hi : X.N[i]? = some x := by rfl) (hx : Loc X.env.scope x := by first | exact Or.inl rfl | exact Or.inr rfl) (hf : X.fn x = true ∨ X.env.scope.names.lookup x = some .local := by first | exact .inl rfl | exact .inr rfl) :
    DGq X (.Name x pos) (gSetQ i) := ⟨PG_imp (pg_name hN hi hx hf) fun v σ H Q ⟨B, Fz, m, x, h, r, q⟩ => by
  unfold gSetQ at q
  by_cases hl : i < m.length
  · rw [if_pos hl] at q
    exact q _ ((h.pushW r).put i hl)
  · rw [if_neg hl] at q
    exact q.elim⟩
theorem dgqs_nil : DGqs X [] gNil := ⟨PGs_imp pgs_nil fun v σ H Q ⟨B, Fz, m, x, h, r, q⟩ => by
  unfold gNil at q
  cases x with
  | nil => cases r; exact ⟨rfl, q σ h⟩
  | cons _ _ => exact q.elim⟩
theorem dgqs_cons {tg : Expr} {ts : List Expr} {s : PyData → Ms → Option Ms} {t : List PyData → Ms → Option Ms} (h1 : DGq X tg s) (h2 : DGqs X ts t)
    (hs : (assignEach (tg :: ts) X.env).map (·.2) = assign tg X.env :: (assignEach ts X.env).map (·.2) := by rfl) : DGqs X (tg :: ts) (gCons s t) := ⟨PGs_imp (pgs_cons h1.pg h2.pg hs) fun v σ H Q ⟨B, Fz, m, x, h, r, q⟩ => by
  unfold gCons at q
  cases x with
  | nil => exact q.elim
  | cons y ys =>
    cases r with
    | @cons u us _ _ r rs =>
      refine ⟨u, us, rfl, B, Fz, m, y, h, r, ?_⟩
      dsimp only at q
      cases hs : s y m with
      | none => rw [hs] at q; exact q
      | some m' =>
        rw [hs] at q
        intro σ' h'
        refine ⟨B, Fz, m', ys, h', rs, ?_⟩
        cases ht : t ys m' with
        | none => rw [Option.bind_some, ht] at q; exact q
        | some m2 =>
          rw [Option.bind_some, ht] at q
          exact fun σ2 h2 => q σ2 h2⟩
theorem dgq_tup {ts : List Expr} {k : Nat} {t : List PyData → Ms → Option Ms} {n : Nat} (h : DGqs X ts t) (hc : X.calm = true := by rfl) (hn : (assignEach ts X.env).length = n := by rfl)
    (hst : (assignEach ts X.env).findIdx? (·.1) = none := by rfl) : DGq X (.Tuple ts k pos) (gTup' n t) := ⟨PG_imp (pg_tup hc h.pg hn hst) fun v σ H Q ⟨B, Fz, m, x, h, r, q⟩ => by
  unfold gTup' at q
  cases x with
  | tuple xs =>
    dsimp only at q
    obtain ⟨a, us, rfl, s, r⟩ := r.tupE
    by_cases hl : xs.length = n
    · rw [if_pos hl] at q
      exact ⟨a, us, rfl, s, r.length.trans hl, B, Fz, m, xs, h, r, q⟩
    · rw [if_neg hl] at q
      exact q.elim
  | _ => exact q.elim⟩
theorem ds_asgQ {tg : Expr} {s : PyData → Ms → Option Ms} {f : Ms → Rz PyData} (he : DQ X ct Wx e f) (hg : DGq X tg s) (hs : swapsWithSole [tg] e pos.line X.env = pure false := by rfl) (hw : swappedStores [tg] e X.env = pure none := by rfl)
    (h1 : (assignEach [tg] X.env).map (·.2) = [assign tg X.env] := by rfl) : DS X ct Wx (.Assign [tg] e pos) (sAsg f s) :=
  ds_of (ps_asg he.pe hg.pg hs hw h1) fun D σ H B Fz m h q => by
    unfold sAsg at q
    refine tQ_end h q fun x v H' F' hf x1 r p q => ?_
    cases hs : s x m with
    | none => rw [hs] at q; exact q.elim
    | some m' =>
      rw [hs] at q
      exact ⟨B, F', m, x, r, p, by rw [hs]; exact fun σ' r' => q σ' H' F' .refl r'⟩
/-! ### name = e[xs.pop()] -/
def sPopIx (j i : Nat) (f : Ms → Rz PyData) : Ms → Fl := flE f fun x m => match lAt i m with
  | some ys => match ys.getLast? with
    | some (.int k) => match (itemsD x).bind fun xs => atI xs k with
      | some z => if j < m.length then .nx ((m.set i (some (.l ys.dropLast))).set j (some (.d z))) else .st
      | none => .st
    | _ => .st
  | none => .st
theorem ds_popIx {y z : Str} {p2 p3 p4 apos cpos : Pos} {f : Ms → Rz PyData} (j i : Nat) (hN : X.N.Nodup) (he : DV X ct Wx e f) (hNi : X.N[i]? = some y := by rfl) (hNj : X.N[j]? = some z := by rfl)
    (hv : Vis X.env.scope y := by first | exact Or.inl rfl | exact Or.inr (Or.inl rfl) | exact Or.inr (Or.inr rfl)) (hd : (y == ("__debug__" : Str)) = false := by decide) (hcd : (y == ("__classdict__" : Str)) = false := by decide)
    (hbase : attributeBase (.Name y p2) "pop" X.env (eval (.Name y p2) X.env) = eval (.Name y p2) X.env := by rfl) (hline : (apos.endLine == cpos.line) = true := by rfl)
    (hx : Loc X.env.scope z := by first | exact Or.inl rfl | exact Or.inr rfl) (hsl : PlainIx (.Call (.Attribute (.Name y p2) "pop" apos) [] [] cpos) := by exact fun _ _ => rfl)
    (hs : swapsWith (.Subscript e (.Call (.Attribute (.Name y p2) "pop" apos) [] [] cpos) p3) (some (.Name z p4)) pos.line X.env = pure false := by rfl) (hf : X.fn z = true ∨ X.env.scope.names.lookup z = some .local := by first | exact .inl rfl | exact .inr rfl) :
    DS X ct Wx (.Assign [.Name z p4] (.Subscript e (.Call (.Attribute (.Name y p2) "pop" apos) [] [] cpos) p3) pos) (sPopIx j i f) :=
  ds_of (ps_set hN hNj hx (pe_ix ix_seq he.pe (pe_bm0 PySem.F.plainAttrs_list PySem.F.slot_list_pop PySem.F.type_list_pop mt_pop (pe_var hNi hv hd hcd) hbase hline) hsl) hs hf) fun D σ H B Fz m h q => by
    unfold sPopIx at q
    refine tV_then h ?_
    unfold flE at q
    cases hx : f m with
    | st => rw [hx] at q; exact q
    | ex c => rw [hx] at q; exact fun H' F' x r => q σ H' F' x r
    | ok x =>
      rw [hx] at q
      intro v H1 F1 x1 r1 l1 p1
      dsimp only at q
      cases e1 : lAt i m with
      | none => rw [e1] at q; exact q.elim
      | some ys =>
        rw [e1] at q
        dsimp only at q
        obtain ⟨a, vs, g1, g2, g3, gw⟩ := r1.write i (lAt_some e1)
        refine ⟨_, g1, .inl ⟨rfl, vs, .inl (.inl g2)⟩, a, vs, ?_⟩
        split at q
        · rename_i k hk
          rw [List.getLast?_eq_getElem?] at hk
          obtain ⟨u, k1, k2⟩ := g3.get' hk
          cases k2
          split at q
          · rename_i w hw
            obtain ⟨xs, hi, hat⟩ := Option.bind_eq_some_iff.mp hw
            split at q
            · rename_i hj
              refine ⟨.int k, rfl, rfl, g2, by rw [g3.length]; exact k1, ?_⟩
              have dl : RpAll X.K F1 H1 vs.dropLast ys.dropLast := by
                rw [List.dropLast_eq_take, List.dropLast_eq_take, g3.length]
                exact g3.take _
              have r2 := gw _ _ dl
              obtain ⟨_, _, _, _, _, g5, g6⟩ := r1.getL (lAt_some e1)
              have na : ¬ F1 a := by
                obtain ⟨a', _, q1, _, _, _, q2⟩ := r1.getL (lAt_some e1)
                rw [g1] at q1; cases q1
                exact q2
              have l2 := le_own (us := vs.dropLast) g2 na
              have p2' := p1.mono l2
              have fin : ∀ (p : Addr) (us : List V), RpAll X.K F1 (upd H1 a (.lst vs.dropLast)) us xs → ∃ v', atI us k = some v' ∧ D.nx (σ.set j (some v')) (upd H1 a (.lst vs.dropLast)) := fun p us ru => by
                obtain ⟨v', e2, r'⟩ := rp_atI ru hat
                refine ⟨v', e2, q _ _ F1 x1 ?_⟩
                exact Rs.put j (r2.push r') (by simpa using hj)
              cases p2' with
              | lst f' eh ra =>
                cases hi
                obtain ⟨v', e2, nx⟩ := fin 0 _ ra
                exact .inl ⟨_, _, k, v', rfl, rfl, .inl (.inl eh), e2, nx⟩
              | tup eh ra =>
                cases hi
                obtain ⟨v', e2, nx⟩ := fin 0 _ ra
                exact .inr (.inl ⟨_, _, k, v', rfl, rfl, .inl (.inl eh), e2, nx⟩)
              | tupK eh _ ra =>
                cases hi
                obtain ⟨v', e2, nx⟩ := fin 0 _ ra
                exact .inr (.inl ⟨_, _, k, v', rfl, rfl, eh _, e2, nx⟩)
              | _ => cases hi
            · exact q.elim
          · exact q.elim
        · exact q.elim
end
end Dl
set_option Elab.async false
set_option linter.all false
set_option maxRecDepth 100000
/-! D26: several except clauses, the last one perhaps by a name. -/
namespace Dl
open PySem PySem.Spec PyProof.Rows L2
inductive Hm where
  | un (c : Value) (ts : Addr → Value → Option Addr → TS)
  | nm (c : Value) (i : Nat) (ts : Addr → Value → Option Addr → TS)
def mMany (K : PySem.W.Frag) (Wout : WX) (D : Ends) : List Hm → WX
  | [] => Wout
  | .un c ts :: r => fun cl d σ H => ∃ b, PySem.W.exmOne K cl c = some b ∧ (b = true → ∀ a, H a = none → ts a cl d D σ H) ∧ (b = false → mMany K Wout D r cl d σ H)
  | .nm c i ts :: r => fun cl d σ H => ∃ b, PySem.W.exmOne K cl c = some b ∧ (b = true → ∀ a, H a = none → ts a cl d { nx := fun σ' H' => D.nx (σ'.set i none) H', rt := D.rt, bk := fun σ' H' => D.bk (σ'.set i none) H', ct := fun σ' H' => D.ct (σ'.set i none) H' } (σ.set i (some (.ref a))) H) ∧ (b = false → mMany K Wout D r cl d σ H)
inductive HdsMix (X : Cx) : List ExceptHandler → List Hm → Prop
  | nil : HdsMix X [] []
  | last {x n : Str} {c : Value} {i : Nat} {ts : Addr → Value → Option Addr → TS} {b₀ : Stmt} {suite : List Stmt} {np pos' : Pos} (hN : X.N.Nodup) (hi : X.N[i]? = some n) (hln : X.env.kindOf n = some .local) (hc : Names X x c)
      (hsu : ∀ (a : Addr) (oe : Obj) (cl : Value) (d : Option Addr) (pn : List (Addr × Obj)), Zc cl d oe → (∃ vs, oe.data = .fields vs) → PSs (X.suite a ((a, oe) :: pn)) (b₀ :: suite) (ts a cl d)) : HdsMix X [.ExceptHandler (some (.Name x np)) (some n) (b₀ :: suite) pos'] [.nm c i ts]
  | cons {x : Str} {c : Value} {ts : Addr → Value → Option Addr → TS} {b₀ : Stmt} {suite : List Stmt} {np pos' : Pos} {hds : List ExceptHandler} {l : List Hm} (hc : Names X x c)
      (hsu : ∀ (a : Addr) (oe : Obj) (cl : Value) (d : Option Addr) (pn : List (Addr × Obj)), Zc cl d oe → (∃ vs, oe.data = .fields vs) → PSs (X.suite a ((a, oe) :: pn)) (b₀ :: suite) (ts a cl d)) (r : HdsMix X hds l) :
      HdsMix X (.ExceptHandler (some (.Name x np)) none (b₀ :: suite) pos' :: hds) (.un c ts :: l)
section
variable {X : Cx} {body : List Stmt} {h₀ : ExceptHandler} {hds : List ExceptHandler} {l : List Hm} {pos : Pos} {tb : WX → TS} {Wout : WX}
theorem ps_try_mix (hs : X.stack = X.env :: X.outer) (hf : X.env.frame = some X.env.locals) (tk : Takes X Wout)
    (hb : ∀ (W : WX) (pn : List (Addr × Obj)) (xe : Value → Shared → Prop), Takes (X.tr pn xe) W → PassesOwn (model X.prog X.w) X.A X.env xe → PSs (X.tr pn xe) body (tb W))
    (hh : HdsMix X (h₀ :: hds) l) : PS X (.Try body (h₀ :: hds) [] [] pos) (fun D σ H => tb (mMany X.K Wout D l) D σ H) := by
  refine ⟨fun pins s σ H D I h => ?_⟩
  have okI := I.ok
  have hfx : X.A.frames = some (X.env :: X.outer) := by rw [okI.frames, hs]
  refine wpAny_Try_except ?_
  refine wpAny_mono ((hb (mMany X.K Wout D l) (X.pn ++ pins) (fun e s₁ => wpAny (model X.prog X.w) X.A (noteFrame e X.env) (fun _ s₂ => wpAny (model X.prog X.w) X.A (setFlight e none) (fun _ s₃ =>
    wpAny (model X.prog X.w) X.A (handleBy e X.env (h₀ :: hds)) (SP X pins D) X.xe s₃) X.xe s₂) X.xe s₁) (fun u s' xz => ?_) PassesOwn.looking).run [] s σ H D (I.toTry _) h) (fun f s1 hq1 => ?_) (fun e s1 he => he)
  · -- the catch
    obtain ⟨a, B, sa, pins', σ', H', cl, d, rfl, Jz, nb, u0, sk, nn, os, ga, w⟩ := xz
    have Ja : Inv X pins σ' H' sa := Jz.ofTry okI
    have sky' : Sky B (X.env :: X.outer) a (Zc cl d) X.env.locals s'.heap := by rw [← hs]; exact sk
    show wpAny (model X.prog X.w) X.A (noteFrame (.ref a) X.env) _ _ _
    refine Sky.land Zc.steady hfx hf sky' fun h3 fa3 u3 => ?_
    have Jb : Inv X pins σ' H' { s' with heap := h3 } := Ja.landed nb fa3.1 (u0.trans u3) os ga
    obtain ⟨ob3, vb3, hb3, hc3, hx3⟩ := fa3.there
    have notQ : ∀ {h : Heap} {o : Obj} {vs : Array Value}, h.FunFrames B (X.env :: X.outer) → h.get? a = some o → o.data = .fields vs → a ∉ frs (X.env :: X.outer) := fun {h o vs} ff e dd hm => by
      obtain ⟨_, o', e', hnf⟩ := ff.mem hm
      rw [e] at e'; cases e'
      exact hnf _ dd
    have nq := notQ fa3.2.2.1 hb3 hx3
    have nl : a ≠ X.env.locals := fun z => nq (List.mem_filterMap.mpr ⟨X.env, List.mem_cons_self, by rw [hf, z]⟩)
    have nf2 : a ∉ X.fs := fun hm => by
      obtain ⟨e, he, q⟩ := List.mem_filterMap.mp hm
      exact nq (List.mem_filterMap.mpr ⟨e, List.mem_cons_of_mem _ he, q⟩)
    have Sa3 := Jb.suite hb3 hx3 nn nl nf2
    have goH : ∀ {hds' : List ExceptHandler} {l' : List Hm}, HdsMix X hds' l' → mMany X.K Wout D l' cl d σ' H' →
        wpAny (model X.prog X.w) X.A (handleBy (.ref a) X.env hds') (SP X pins D) X.xe { s' with heap := h3 } := by
      intro hds' l' hk
      induction hk with
      | nil =>
        intro w
        refine wpAny_handleBy_nil ?_
        obtain ⟨k1, k2, k3, oe, vs, T, oT, ts', he, hz, hd, h1, hr⟩ := id fa3
        unfold PySem.passOn
        refine wpAny_bind (wpAny_field he hd h1 ?_)
        rw [if_neg (show ¬ ((Value.ref T == Value.none) = true) from by simp)]
        have fin1 : wpAny (model X.prog X.w) X.A (setFlight (.ref a) X.env.frame) (fun _ s4 => wpAny (model X.prog X.w) X.A (throw (.ref a) : Sem Flow) (SP X pins D) X.xe s4) X.xe { s' with heap := h3 } := by
          rw [hf]
          refine HandSPX.setFlight_upZ fa3 fun h4 hh4 u4 => wpAny_throw (tk _ _ ?_)
          exact ⟨a, B, sa, pins, σ', H', cl, d, rfl, Ja, nb, (u0.trans u3).trans u4, .inr (.inr (by rw [hs]; exact hh4)), nn, os, ga, w⟩
        first
          | exact wpAny_bind (wpAny_pure (wpAny_bind fin1))
          | exact wpAny_bind fin1
      | @last x n c i ts b₀ suite np pos' hN hi hln hc hsu =>
        intro w
        have hloc : Loc X.env.scope n := .inl hln
        obtain ⟨b, hbb, hy1, hn1⟩ := w
        refine wpAny_handleBy_cons (codeAny_handlers_test ?_) (by intro q; cases q)
        have Lt : PySem.W.Looks (model X.prog X.w) h3 (typeOf (.ref a)) cl := fun A Q E s k q => wpAny_typeOf_ref (k _ _ hb3) (by rw [hc3.1]; exact q)
        have Lm := PySem.W.exm_one (M := model X.prog X.w) (Jb.kIn) Lt hbb
        have tst : ∀ {Q : Value → Shared → Prop} {E : Value → Shared → Prop}, Q c { s' with heap := h3 } → wpAny (model X.prog X.w) (X.A.mark (some (.ref a))) (eval (.Name x np) X.env) Q E { s' with heap := h3 } := fun {Q E} q => by
          obtain ⟨hg, hdg, hm | ⟨hm, hv, hno1⟩⟩ := hc
          · exact ld_glob (X := X.suite a ((a, ob3) :: (X.pn ++ pins))) Sa3 hg hm q hdg
          · exact ld_blt (X := X.suite a ((a, ob3) :: (X.pn ++ pins))) Sa3 hg hm hv q hno1 hdg
        refine tst (Lm.here ?_)
        cases b with
        | true =>
          refine codeAny_handlers_suite_as ?_
          refine HandSPX.lands_againZ fa3 fun h4 fa4 u4 => ?_
          have Jc : Inv X pins σ' H' { s' with heap := h4 } := Ja.landed nb fa4.1 ((u0.trans u3).trans u4) os ga
          obtain ⟨ob4, vb4, hb4, hc4, hx4⟩ := fa4.there
          have Sa4 := Jc.suite hb4 hx4 nn nl nf2
          refine store_ok (X := X.suite a ((a, ob4) :: (X.pn ++ pins))) (v := .ref a) Sa4 hN hi hloc rfl (fun s5 Sa5 => ?_) (.inr hln)
          refine wpAny_mono ((hsu a ob4 cl d (X.pn ++ pins) hc4 ⟨_, hx4⟩).run [] s5 _ H' _ Sa5 (hy1 rfl a nn)) (fun f se hq1 => ?_) (fun _ _ z => False.elim z)
          have endO : ∀ {σe : L2.St} {He : Hp} {Q : Shared → Prop}, Inv (X.suite a ((a, ob4) :: (X.pn ++ pins))) [] σe He se → (∀ s9, Inv X pins (σe.set i none) He s9 → Q s9) →
              wpAny (model X.prog X.w) X.A (do bindName X.env n .none; unbindBehindTheSuite X.env n pos') (fun _ s9 => Q s9) X.xe se := fun {σe He Q} Sa6 hq => gone_ok (Sa6.unsuite okI) hN hi hln hq
          cases f with
          | next =>
            obtain ⟨σe, He, Sa6, qe⟩ := hq1
            exact endO Sa6 fun s9 J9 => ⟨_, _, J9, qe⟩
          | brk =>
            obtain ⟨σe, He, Sa6, qe⟩ := hq1
            exact endO Sa6 fun s9 J9 => ⟨_, _, J9, qe⟩
          | cont =>
            obtain ⟨σe, He, Sa6, qe⟩ := hq1
            exact endO Sa6 fun s9 J9 => ⟨_, _, J9, qe⟩
          | ret u =>
            obtain ⟨v6, σe, He, Sa6, re, qe⟩ := hq1
            exact endO Sa6 fun s9 J9 => ⟨_, _, _, J9, re, qe⟩
        | false =>
          show wpAny _ X.A (handleBy (.ref a) X.env []) _ _ _
          refine wpAny_handleBy_nil ?_
          obtain ⟨k1, k2, k3, oe, vs, T, oT, ts', he, hz, hd, h1, hr⟩ := id fa3
          unfold PySem.passOn
          refine wpAny_bind (wpAny_field he hd h1 ?_)
          rw [if_neg (show ¬ ((Value.ref T == Value.none) = true) from by simp)]
          have fin1 : wpAny (model X.prog X.w) X.A (setFlight (.ref a) X.env.frame) (fun _ s4 => wpAny (model X.prog X.w) X.A (throw (.ref a) : Sem Flow) (SP X pins D) X.xe s4) X.xe { s' with heap := h3 } := by
            rw [hf]
            refine HandSPX.setFlight_upZ fa3 fun h4 hh4 u4 => wpAny_throw (tk _ _ ?_)
            exact ⟨a, B, sa, pins, σ', H', cl, d, rfl, Ja, nb, (u0.trans u3).trans u4, .inr (.inr (by rw [hs]; exact hh4)), nn, os, ga, hn1 rfl⟩
          first
            | exact wpAny_bind (wpAny_pure (wpAny_bind fin1))
            | exact wpAny_bind fin1
      | @cons x c ts b₀ suite np pos' hds2 l2 hc hsu r iha =>
        intro w
        obtain ⟨b, hbb, hy1, hn1⟩ := w
        refine wpAny_handleBy_cons (codeAny_handlers_test ?_) (by intro q; cases q)
        have Lt : PySem.W.Looks (model X.prog X.w) h3 (typeOf (.ref a)) cl := fun A Q E s k q => wpAny_typeOf_ref (k _ _ hb3) (by rw [hc3.1]; exact q)
        have Lm := PySem.W.exm_one (M := model X.prog X.w) (Jb.kIn) Lt hbb
        have tst : ∀ {Q : Value → Shared → Prop} {E : Value → Shared → Prop}, Q c { s' with heap := h3 } → wpAny (model X.prog X.w) (X.A.mark (some (.ref a))) (eval (.Name x np) X.env) Q E { s' with heap := h3 } := fun {Q E} q => by
          obtain ⟨hg, hdg, hm | ⟨hm, hv, hno1⟩⟩ := hc
          · exact ld_glob (X := X.suite a ((a, ob3) :: (X.pn ++ pins))) Sa3 hg hm q hdg
          · exact ld_blt (X := X.suite a ((a, ob3) :: (X.pn ++ pins))) Sa3 hg hm hv q hno1 hdg
        refine tst (Lm.here ?_)
        cases b with
        | true =>
          refine codeAny_handlers_suite ?_
          refine HandSPX.lands_againZ fa3 fun h4 fa4 u4 => ?_
          have Jc : Inv X pins σ' H' { s' with heap := h4 } := Ja.landed nb fa4.1 ((u0.trans u3).trans u4) os ga
          obtain ⟨ob4, vb4, hb4, hc4, hx4⟩ := fa4.there
          have Sa4 := Jc.suite hb4 hx4 nn nl nf2
          refine wpAny_mono ((hsu a ob4 cl d (X.pn ++ pins) hc4 ⟨_, hx4⟩).run [] _ _ H' _ Sa4 (hy1 rfl a nn)) (fun f se hq1 => ?_) (fun _ _ z => False.elim z)
          cases f with
          | next =>
            obtain ⟨σe, He, Sa6, qe⟩ := hq1
            exact ⟨_, _, Sa6.unsuite okI, qe⟩
          | brk =>
            obtain ⟨σe, He, Sa6, qe⟩ := hq1
            exact ⟨_, _, Sa6.unsuite okI, qe⟩
          | cont =>
            obtain ⟨σe, He, Sa6, qe⟩ := hq1
            exact ⟨_, _, Sa6.unsuite okI, qe⟩
          | ret u =>
            obtain ⟨v6, σe, He, Sa6, re, qe⟩ := hq1
            exact ⟨_, _, _, Sa6.unsuite okI, re, qe⟩
        | false =>
          show wpAny _ X.A (handleBy (.ref a) X.env hds2) _ _ _
          exact iha (hn1 rfl)
    exact goH hh w
  · cases f with
    | next =>
      obtain ⟨σ', H', Jz, q⟩ := hq1
      exact wpAny_execs_nil ⟨σ', H', Jz.ofTry okI, q⟩
    | brk =>
      obtain ⟨σ', H', Jz, q⟩ := hq1
      exact ⟨σ', H', Jz.ofTry okI, q⟩
    | cont =>
      obtain ⟨σ', H', Jz, q⟩ := hq1
      exact ⟨σ', H', Jz.ofTry okI, q⟩
    | ret u =>
      obtain ⟨v, σ', H', Jz, r, q⟩ := hq1
      exact ⟨v, σ', H', Jz.ofTry okI, r, q⟩
end
end Dl
set_option Elab.async false
set_option linter.all false
set_option maxRecDepth 100000
/-! D27: try with several clauses, the last one perhaps by a name; e if isinstance(..) else e; {k: v}. -/
namespace Dl
open PySem PySem.Spec PyProof.Rows L2
section
variable {X : Cx} {ct : CT} {Wx : WX} {x : Str} {p p2 pos pos' : Pos}
theorem dis_if {i : Nat} {c : Expr} {isT : Nat → Option Bool} {s1 s2 : Str} {j1 j2 q1 q2} (h : DIs X ct i c (fun k => (isT k).map .bool)) (he : ∀ (a : Addr) (oe : Obj) (pn : List (Addr × Obj)) whole, isTrue c (X.suite a ((a, oe) :: pn)).env whole = (do let v ← whole; standAt c.pos; holding [v] (truthy v)) := by intros; rfl) :
    DIs X ct i (.IfExp c (.Constant (.str s1) j1 q1) (.Constant (.str s2) j2 q2) pos) (fun k => (isT k).map fun b => .str (if b = true then s1 else s2)) := ⟨fun a oe cls d pn hz hf => PE_imp (pe_ifExp (pt_val (h.pe a oe cls d pn hz hf) (he a oe pn)) pe_str pe_str) fun σ H Q ⟨e1, k, y, u, e2, e3, e4, e5, q⟩ => by
  cases hb : isT k with
  | none => rw [hb] at e4; cases e4
  | some b =>
    rw [hb] at e4
    cases e4
    cases e5
    refine ⟨e1, k, _, _, e2, e3, by rw [hb]; rfl, rfl, b, rfl, ?_⟩
    cases b <;> exact q⟩
/-- the clauses, each with its class -/
inductive Hc where
  | un (c : Value) (p : Nat → Option Bool) (s : Ms → Fl)
  | nm (c : Value) (p : Nat → Option Bool) (i : Nat) (v : Nat → Option PyData)
inductive Hz where
  | un (p : Nat → Option Bool) (s : Ms → Fl)
  | nm (p : Nat → Option Bool) (i : Nat) (v : Nat → Option PyData)
def Hc.z : Hc → Hz
  | .un _ p s => .un p s
  | .nm _ p i v => .nm p i v
def goTryM : List Hz → Nat → Ms → Fl
  | [], c, m => .ex c m
  | .un p s :: r, c, m => match p c with
    | some true => noEx (s m)
    | some false => goTryM r c m
    | none => .st
  | .nm p i v :: r, c, m => match p c with
    | some true => match v c with
      | some y => if i < m.length ∧ (constV y).isSome = true then .rt y else .st
      | none => .st
    | some false => goTryM r c m
    | none => .st
def sTryM (g : Ms → Fl) (hs : List Hz) : Ms → Fl := fun m => match g m with
  | .ex c m' => goTryM hs c m'
  | o => o
inductive DHm (X : Cx) (ct : CT) : List ExceptHandler → List Hc → Prop
  | nil : DHm X ct [] []
  | cons {x : Str} {c : Value} {pt : Nat → Option Bool} {s : Ms → Fl} {b₀ : Stmt} {suite : List Stmt} {np pos' : Pos} {hds : List ExceptHandler} {l : List Hc} (hc : Names X x c)
      (hp : ∀ n b, pt n = some b → PySem.W.exmOne X.K (ct n) c = some b) (hs : ∀ (a : Addr) (oe : Obj) (pn : List (Addr × Obj)), DSs (X.suite a ((a, oe) :: pn)) ct W0 (b₀ :: suite) s) (r : DHm X ct hds l) :
      DHm X ct (.ExceptHandler (some (.Name x np)) none (b₀ :: suite) pos' :: hds) (.un c pt s :: l)
  | last {x n : Str} {c : Value} {pt : Nat → Option Bool} {i : Nat} {v : Nat → Option PyData} {ex : Expr} {np pos' rpos : Pos} (hN : X.N.Nodup) (hc : Names X x c) (hp : ∀ n b, pt n = some b → PySem.W.exmOne X.K (ct n) c = some b)
      (hx : DIs X ct i ex v) (hi : X.N[i]? = some n) (hln : X.env.kindOf n = some .local) : DHm X ct [.ExceptHandler (some (.Name x np)) (some n) [.Return (some ex) rpos] pos'] [.nm c pt i v]
def hmT (K : PySem.W.Frag) (ct : CT) : List Hc → List Hm
  | [] => []
  | .un c _ s :: l => .un c (fun _ _ _ => tS K ct W0 s) :: hmT K ct l
  | .nm c _ i v :: l => .nm c i (fun a cls d D σ H => d = none ∧ ∃ k y u, cls = ct k ∧ σ[i]? = some (some (V.ref a)) ∧ v k = some y ∧ constV y = some u ∧ D.rt u H) :: hmT K ct l
theorem DHm.ok {hds : List ExceptHandler} {l : List Hc} (h : DHm X ct hds l) : HdsMix X hds (hmT X.K ct l) := by
  induction h with
  | nil => exact .nil
  | cons hc hp hs r ih => exact .cons hc (fun a oe cls d pn _ _ => (hs a oe pn).ps) ih
  | last hN hc hp hx hi hln => exact .last hN hi hln hc fun a oe cls d pn hz hf => pss_one (ps_ret (hx.pe a oe cls d pn hz hf))
theorem DHm.many {hds : List ExceptHandler} {l : List Hc} (h : DHm X ct hds l) {c : Nat} {m : Ms} {D : Ends} {σ : L2.St} {H B : Hp} {Fz : Addr → Prop} (r : Rs X.K B Fz H σ m)
    (q : EndS X.K ct Wx B Fz D (goTryM (l.map Hc.z) c m)) : mMany X.K Wx D (hmT X.K ct l) (ct c) none σ H := by
  induction h with
  | nil => exact q σ H Fz .refl r
  | @cons x cv pt s b₀ suite np pos' hds l hc hp hs r' ih =>
    rw [List.map_cons] at q
    unfold Hc.z goTryM at q
    cases hb : pt c with
    | none => rw [hb] at q; exact q.elim
    | some b =>
      rw [hb] at q
      refine ⟨b, hp c b hb, fun e a na => ?_, fun e => ?_⟩
      · subst e
        exact tS_iff.mpr ⟨B, Fz, m, r, noEx_end q⟩
      · subst e
        exact ih q
  | @last x n cv pt i v ex np pos' rpos hN hc hp hx hi hln =>
    rw [List.map_cons, List.map_nil] at q
    unfold Hc.z goTryM at q
    cases hb : pt c with
    | none => rw [hb] at q; exact q.elim
    | some b =>
      rw [hb] at q
      refine ⟨b, hp c b hb, fun e a na => ?_, fun e => ?_⟩
      · subst e
        dsimp only at q
        cases hv : v c with
        | none => rw [hv] at q; exact q.elim
        | some y =>
          rw [hv] at q
          dsimp only at q
          split at q
          · rename_i hl
            have q : ∀ v H' Fz', Ext B Fz Fz' → (∃ σ' m', Rs X.K B Fz' H' σ' m') → Rp X.K Fz' H' v y → D.rt v H' := q
            obtain ⟨hl, hy⟩ := hl
            cases hcu : constV y with
            | none => rw [hcu] at hy; cases hy
            | some u =>
              refine ⟨rfl, c, y, u, rfl, ?_, hv, hcu, q u H Fz .refl ⟨σ, m, r⟩ (constV_rp hcu)⟩
              rw [List.getElem?_set_self (by rw [r.lsz]; exact hl)]
          · exact q.elim
      · subst e
        exact q σ H Fz .refl r
theorem ds_tryM {body : List Stmt} {h₀ : ExceptHandler} {hds : List ExceptHandler} {l : List Hc} {zs : List Hz} {g : Ms → Fl} (tk : Takes X Wx)
    (hb : ∀ (W : WX) (pn : List (Addr × Obj)) (xe : Value → Shared → Prop), Takes (X.tr pn xe) W → PassesOwn (model X.prog X.w) X.A X.env xe → DSs (X.tr pn xe) ct W body g)
    (hh : DHm X ct (h₀ :: hds) l) (hz : l.map Hc.z = zs := by rfl) (hs : X.stack = X.env :: X.outer := by rfl) (hf : X.env.frame = some X.env.locals := by rfl) : DS X ct Wx (.Try body (h₀ :: hds) [] [] pos) (sTryM g zs) := by
  subst hz
  exact ds_of (ps_try_mix (tb := fun W => tS X.K ct W g) hs hf tk (fun W pn xe tk hp => (hb W pn xe tk hp).ps) hh.ok) fun D σ H B Fz m h q => by
    refine tS_iff.mpr ⟨B, Fz, m, h, ?_⟩
    unfold sTryM at q
    cases hg : g m with
    | ex c m' =>
      rw [hg] at q
      exact fun σ' H' F' x r => hh.many r (EndS.ext x q)
    | _ => rw [hg] at q; exact q
/-! ### {k: v}, k an int -/
def eDisp1 (f g : Ms → Rz PyData) : Ms → Rz W := fun m => (f m).bind fun k => (g m).bind fun x => match k with
  | .int i => .ok (.m false [(.int i, x)])
  | _ => .st
theorem de_disp1 {k v : Expr} {f g : Ms → Rz PyData} (hf : DV X ct Wx k f) (hg : DV X ct Wx v g) (hall : ([some k] : List (Option Expr)).all (·.isSome) = true := by rfl) :
    DE X ct Wx (.Dict [some k] [v] pos) (eDisp1 f g) := ⟨PE_imp (pe_disp (pps_cons hf.pe hg.pe pps_nil) hall rfl (by simp) (by simp)) fun σ H Q ⟨B, Fz, m, h, q⟩ p hp => by
  unfold eDisp1 at q
  have h0 : Rs X.K B Fz (upd H p (.dK [])) (some (.ref p) :: σ) (some (.m false []) :: m) := h.newOwn hp (.mK upd_same .nil)
  obtain ⟨B2, r0, hB, hE, hK⟩ := Rs.hold (τ := [some (.ref p)]) (n := [some (.m false [])]) (by simpa using h0) rfl
  have hp0 : B2 p = some (.dK []) ∨ True := .inr trivial
  refine tV_then r0 ?_
  cases hx : f m with
  | st => rw [hx] at q; exact q
  | ex c =>
    rw [hx] at q
    intro H' F' x r
    have z := hK (ρ := []) (r := []) x (by simpa using r) rfl
    exact q H' F' (hE _ x) (by simpa using Rs.pop (by simpa using z.1))
  | ok kd =>
    rw [hx, Rz.bind_ok] at q
    intro u H1 F1 x1 r1 l1 p1
    refine tV_then r1 ?_
    cases hy : g m with
    | st => rw [hy] at q; exact q
    | ex c =>
      rw [hy] at q
      intro H' F' x r
      have z := hK (ρ := []) (r := []) (x1.trans x) (by simpa using r) rfl
      exact q H' F' (hE _ (x1.trans x)) (by simpa using Rs.pop (by simpa using z.1))
    | ok xd =>
      rw [hy, Rz.bind_ok] at q
      intro w H2 F2 x2 r2 l2 p2
      have z := (hK (ρ := []) (r := []) (x1.trans x2) (by simpa using r2) rfl).1
      have z : Rs X.K B F2 H2 (some (.ref p) :: σ) (some (.m false []) :: m) := by simpa using z
      cases kd with
      | int i =>
        obtain ⟨a, o, g1, g2, g3, g4, g5, g6⟩ := z.writeM 0 (T := false) (kvs := []) rfl
        cases g1
        obtain ⟨a', g1', _, hh⟩ := z.getM (i := 0) (T := false) (kvs := []) rfl
        cases g1'
        rcases hh with ⟨_, ks, hd, en⟩ | ⟨hh, _⟩
        · rw [g2] at hd; cases hd
          rcases en.cases with ⟨rfl, _⟩ | ⟨_, _, _, _, _, _, e, _⟩
          · cases p1
            refine ⟨g2, [(.inl i, w)], rfl, by simp, ?_⟩
            have en' : DEnt X.K F2 (upd H2 p (.dK [(Sum.inl i, w)])) keyD [(Sum.inl i, w)] [(.int i, xd)] := DEnt.cons (kd := keyD) (k := .inl i) (p2.mono (le_ownG g2 g3 g4)) .nil
            have := g6 _ _ (.mK upd_same en')
            exact q _ _ F2 (hE _ (x1.trans x2)) this
          · cases e
        · cases hh
      | _ => exact q.elim⟩
end
end Dl
set_option Elab.async false
set_option linter.all false
set_option maxRecDepth 100000
/-! D28: reckoning with the mirror, more. -/
namespace Dl
open PySem PySem.Spec PyProof.Rows L2
section
variable {m : Ms} {f g h : Ms → Rz PyData} {s : Ms → Fl} {i j : Int} {x y z : PyData} {xs ys : List PyData} {n : Nat} {vs : List Nat}
@[simp] theorem wipeM_nil : wipeM m [] = m := rfl
@[simp] theorem wipeM_cons : wipeM m (n :: vs) = (wipeM m vs).set n none := rfl
@[simp] theorem sCut_s : sCut vs s m = match s m with | .nx m' => .nx (wipeM m' vs) | .ct m' => .ct (wipeM m' vs) | .bk m' => .bk (wipeM m' vs) | o => o := by simp only [sCut] <;> cases s m <;> rfl
@[simp] theorem sPre_s : sPre vs s m = s (wipeM m vs) := rfl
@[simp] theorem sGive_s : sGive n s m = s (giveAt n m) := rfl
theorem giveAt_m {T : Bool} {kvs : List (PyData × PyData)} (h : m[n]? = some (some (.m T kvs))) : giveAt n m = m.set n (some (.q (.dict kvs))) := by unfold giveAt; rw [h]
theorem giveAt_no (h : ∀ T kvs, m[n]? ≠ some (some (.m T kvs))) : giveAt n m = m := by
  unfold giveAt
  split
  · rename_i e; exact absurd e (h _ _)
  · rfl
@[simp] theorem eDnew_s {T : Bool} : eDnew T m = .ok (.m T []) := rfl
@[simp] theorem eDisp1_s : eDisp1 f g m = (f m).bind fun k => (g m).bind fun x => match k with | .int i => .ok (.m false [(.int i, x)]) | _ => .st := rfl
@[simp] theorem sDput_s : sDput n g f m = match f m with | .st => .st | .ok x => (match mAt n m with | some (T, kvs) => (match g m with | .st => .st | .ok k => (match dputD T kvs k x with | some kvs' => if kvs.length < 10000000 then .nx (m.set n (some (.m T kvs'))) else .st | none => .st) | .ex c => .ex c m) | none => .st) | .ex c => .ex c m := by
  simp only [sDput, flE]
  cases f m with
  | ok x => dsimp only; cases mAt n m with
    | none => rfl
    | some Tk => obtain ⟨T, k⟩ := Tk; dsimp only; cases g m <;> rfl
  | _ => rfl
@[simp] theorem eDget_s : eDget n g m = match dAt n m with | some (T, kvs) => (g m).bind fun k => (match dgetD T kvs k with | some (some x) => .ok x | _ => .st) | none => .st := by
  simp only [eDget] <;> cases dAt n m <;> rfl
theorem tDin_s {b : Bool} {k : PyData} {T : Bool} {kvs : List (PyData × PyData)} {o : Option PyData} (h1 : g m = .ok k) (h2 : dAt n m = some (T, kvs)) (h3 : dgetD T kvs k = some o) : tDin b n g m = .ok (if b = true then o.isSome else !o.isSome) := by
  unfold tDin
  rw [h1, Rz.bind_ok, h2]
  dsimp only
  rw [h3]
@[simp] theorem vDin_s {b : Bool} : vDin b n g m = (tDin b n g m).map .bool := rfl
@[simp] theorem qVar_s : qVar n m = match m[n]? with | some (some (.q x)) => .ok x | some (some (.d x)) => .ok x | _ => .st := rfl
@[simp] theorem vFnM_s {F : Ms → Rz PyData} {fs : List (Ms → Rz PyData)} : vFnM F fs m = (evalAllD fs m).bind fun xs => F (xs.map fun x => some (qW x)) := rfl
@[simp] theorem sRetQ_s : sRetQ f m = match f m with | .st => .st | .ok x => .rq x | .ex c => .ex c m := by simp only [sRetQ, flE] <;> cases f m <;> rfl
@[simp] theorem fnQ_s {N : Nat} : fnQ N s m = match s (m ++ List.replicate (N - m.length) none) with | .nx _ => .ok .none | .rt x => .ok x | .rq x => .ok x | .ex c _ => .ex c | _ => .st := by simp only [fnQ] <;> cases s (m ++ List.replicate (N - m.length) none) <;> rfl
@[simp] theorem qIx_s : qIx n f m = (f m).bind fun x => match x with | .tuple xs => ofO xs[n]? | _ => .st := rfl
@[simp] theorem gSetQ_s : gSetQ n x m = if n < m.length then some (m.set n (some (qW x))) else none := rfl
@[simp] theorem eSsetG_s : eSsetG f m = (f m).bind fun x => ofO (ssetG x) := rfl
@[simp] theorem eML_s {k : List PyData → PyData → Option Int} : eML k f g m = (f m).bind fun x => match x with | .list ds => (g m).bind fun y => ofO ((k ds y).map fun i => .d (.int i)) | _ => .st := rfl
@[simp] theorem sLput_s : sLput n g f m = match f m with | .st => .st | .ok x => (match lAt n m with | some ys => (match g m with | .st => .st | .ok k => putLK n x ys k m | .ex c => .ex c m) | none => .st) | .ex c => .ex c m := by
  simp only [sLput, putL, flE]
  cases f m with
  | ok x => dsimp only; cases lAt n m with
    | none => rfl
    | some ys => dsimp only; cases g m <;> rfl
  | _ => rfl
@[simp] theorem sLaug_s {o : Int → Int → Int} : sLaug n g o f m = match lAt n m with | some ys => (match g m with | .st => .st | .ok k => augK n o f ys k m | .ex c => .ex c m) | none => .st := by
  simp only [sLaug, flE]
  cases lAt n m with
  | none => rfl
  | some ys => dsimp only; cases g m <;> rfl
@[simp] theorem augK_s {o : Int → Int → Int} : augK n o f ys (.int i) m = match ixN ys.length i with | some j => (match ys[j]? with | some x => (match f m with | .st => .st | .ok y => (match ipD o x y with | some z => .nx (m.set n (some (.l (ys.set j z)))) | none => .st) | .ex c => .ex c m) | none => .st) | none => .st := by
  simp only [augK, flE]
  cases ixN ys.length i with
  | none => rfl
  | some j => dsimp only; cases ys[j]? with
    | none => rfl
    | some x => dsimp only; cases f m <;> rfl
theorem putLK_s {j : Nat} (h : ixN ys.length i = some j) : putLK n x ys (.int i) m = .nx (m.set n (some (.l (ys.set j x)))) := by
  unfold putLK
  dsimp only
  rw [h]
@[simp] theorem sAug_s {o : Int → Int → Int} : sAug n o f m = match vVar n m with | .ok x => (match f m with | .st => .st | .ok y => (match ipD o x y with | some z => if n < m.length then .nx (m.set n (some (.d z))) else .st | none => .st) | .ex c => .ex c m) | _ => .st := by
  simp only [sAug, flE]
  cases vVar n m with
  | ok x => dsimp only; cases f m <;> rfl
  | _ => rfl
@[simp] theorem ipD_i {o : Int → Int → Int} : ipD o (.int i) (.int j) = some (.int (o i j)) := rfl
theorem sTryM_s {hs : List Hz} : sTryM s hs m = match s m with | .ex c m' => goTryM hs c m' | o => o := rfl
theorem ixN_nat {n k : Nat} (h : k < n) : ixN n (k : Int) = some k := by
  unfold ixN
  rw [if_pos (by omega), if_pos (by omega)]
  simp
end
/-! ### comprehensions -/
theorem eLc_s {vs : List Nat} {f : Ms → Rz (List PyData)} {s : PyData → Ms → Option Ms} {t : Ms → Rz Bool} {e : Ms → Rz PyData} {m : Ms} : eLc vs f s t e m = if wipeOk vs m = true then (f m).bind fun xs => (goLc s t e (wipeM m vs) xs).map .l else .st := rfl
theorem goLc_t {s : PyData → Ms → Option Ms} {t : Ms → Rz Bool} {e : Ms → Rz PyData} {m m1 : Ms} {x z : PyData} {r : List PyData} (h1 : s x m = some m1) (h2 : t m1 = .ok true) (h3 : e m1 = .ok z) : goLc s t e m (x :: r) = (goLc s t e m r).map (z :: ·) := by
  rw [goLc, h1]; dsimp only; rw [h2]; dsimp only; rw [h3]
theorem goLc_f {s : PyData → Ms → Option Ms} {t : Ms → Rz Bool} {e : Ms → Rz PyData} {m m1 : Ms} {x : PyData} {r : List PyData} (h1 : s x m = some m1) (h2 : t m1 = .ok false) : goLc s t e m (x :: r) = goLc s t e m r := by
  rw [goLc, h1]; dsimp only; rw [h2]
theorem goLc_nil {s : PyData → Ms → Option Ms} {t : Ms → Rz Bool} {e : Ms → Rz PyData} {m : Ms} : goLc s t e m [] = .ok [] := rfl
/-- each of them -/
theorem lc_map {α : Type} {vs : List Nat} {f : Ms → Rz (List PyData)} {s : PyData → Ms → Option Ms} {e : Ms → Rz PyData} {m : Ms} (ys : List α) (ex : α → PyData) (g : α → PyData) (hw : wipeOk vs m = true) (hf : f m = .ok (ys.map ex))
    (h : ∀ y ∈ ys, ∃ m1, s (ex y) (wipeM m vs) = some m1 ∧ e m1 = .ok (g y)) : eLc vs f s (fun _ => .ok true) e m = .ok (.l (ys.map g)) := by
  refine eLc_ok hw hf ?_
  clear hf
  induction ys with
  | nil => rfl
  | cons y r ih =>
    obtain ⟨m1, h1, h2⟩ := h y (by simp)
    rw [List.map_cons, goLc_t h1 rfl h2, ih fun z hz => h z (List.mem_cons_of_mem _ hz)]
    rfl
theorem lc_fil {α : Type} {vs : List Nat} {f : Ms → Rz (List PyData)} {s : PyData → Ms → Option Ms} {t : Ms → Rz Bool} {e : Ms → Rz PyData} {m : Ms} (ys : List α) (ex : α → PyData) (p : α → Bool) (g : α → PyData) (hw : wipeOk vs m = true) (hf : f m = .ok (ys.map ex))
    (h : ∀ y ∈ ys, ∃ m1, s (ex y) (wipeM m vs) = some m1 ∧ t m1 = .ok (p y) ∧ (p y = true → e m1 = .ok (g y))) : eLc vs f s t e m = .ok (.l ((ys.filter p).map g)) := by
  refine eLc_ok hw hf ?_
  clear hf
  induction ys with
  | nil => rfl
  | cons y r ih =>
    obtain ⟨m1, h1, h2, h3⟩ := h y (by simp)
    have ih' := ih fun z hz => h z (List.mem_cons_of_mem _ hz)
    cases hp : p y with
    | false => rw [List.map_cons, goLc_f h1 (by rw [h2, hp]), List.filter_cons_of_neg (by simp [hp]), ih']
    | true => rw [List.map_cons, goLc_t h1 (by rw [h2, hp]) (h3 hp), List.filter_cons_of_pos hp, ih']; rfl
/-- some values, each with Q -/
theorem lc_ex {vs : List Nat} {f : Ms → Rz (List PyData)} {s : PyData → Ms → Option Ms} {t : Ms → Rz Bool} {e : Ms → Rz PyData} {m : Ms} {xs : List PyData} (Q : PyData → Prop) (hw : wipeOk vs m = true) (hf : f m = .ok xs)
    (h : ∀ x ∈ xs, ∃ m1 b, s x (wipeM m vs) = some m1 ∧ t m1 = .ok b ∧ (b = true → ∃ z, e m1 = .ok z ∧ Q z)) : ∃ L, eLc vs f s t e m = .ok (.l L) ∧ L.length ≤ xs.length ∧ ∀ z ∈ L, Q z := by
  suffices z : ∃ L, goLc s t e (wipeM m vs) xs = .ok L ∧ L.length ≤ xs.length ∧ ∀ z ∈ L, Q z by
    obtain ⟨L, h1, h2⟩ := z
    exact ⟨L, eLc_ok hw hf h1, h2⟩
  clear hf
  induction xs with
  | nil => exact ⟨[], rfl, Nat.le_refl _, fun _ h => absurd h List.not_mem_nil⟩
  | cons x r ih =>
    obtain ⟨m1, b, h1, h2, h3⟩ := h x (by simp)
    obtain ⟨L, h4, h5, h6⟩ := ih fun z hz => h z (List.mem_cons_of_mem _ hz)
    cases b with
    | false => exact ⟨L, (goLc_f h1 h2).trans h4, by rw [List.length_cons]; omega, h6⟩
    | true =>
      obtain ⟨z, h7, h8⟩ := h3 rfl
      refine ⟨z :: L, by rw [goLc_t h1 h2 h7, h4]; rfl, by rw [List.length_cons, List.length_cons]; omega, fun w hw => ?_⟩
      rcases List.mem_cons.mp hw with rfl | hw
      · exact h8
      · exact h6 w hw
/-! ### loops -/
theorem goFor_const {s : PyData → Ms → Option Ms} {b : Ms → Fl} {m : Ms} : ∀ {xs : List PyData}, (∀ x ∈ xs, ∃ m1, s x m = some m1 ∧ b m1 = .nx m) → goFor s b xs m = .nx m
  | [], _ => rfl
  | x :: r, h => by
    obtain ⟨m1, h1, h2⟩ := h x (by simp)
    rw [goFor, h1]
    dsimp only
    rw [h2]
    exact goFor_const fun z hz => h z (List.mem_cons_of_mem _ hz)
theorem goFor_P {s : PyData → Ms → Option Ms} {b : Ms → Fl} (P : Ms → Prop) : ∀ {xs : List PyData} {m : Ms}, P m → (∀ x ∈ xs, ∀ m, P m → ∃ m1, s x m = some m1 ∧ ∃ m2, b m1 = .nx m2 ∧ P m2) → ∃ m', goFor s b xs m = .nx m' ∧ P m'
  | [], m, h, _ => ⟨m, rfl, h⟩
  | x :: r, m, h, st => by
    obtain ⟨m1, h1, m2, h2, h3⟩ := st x (by simp) m h
    obtain ⟨m', h4, h5⟩ := goFor_P P (xs := r) h3 fun y hy => st y (List.mem_cons_of_mem _ hy)
    refine ⟨m', ?_, h5⟩
    rw [goFor, h1]
    dsimp only
    rw [h2]
    exact h4
theorem goWhile_P {t : Ms → Rz Bool} {b : Ms → Fl} (P : Ms → Prop) (μ : Ms → Nat) (st : ∀ m, P m → t m = .ok false ∨ (t m = .ok true ∧ ∃ m2, b m = .nx m2 ∧ P m2 ∧ μ m2 < μ m)) : ∀ (k : Nat) (m : Ms), P m → μ m < k → ∃ m', goWhile t b k m = .nx m' ∧ P m'
  | 0, _, _, h => by omega
  | k + 1, m, hP, h => by
    rcases st m hP with h1 | ⟨h1, m2, h2, h3, h4⟩
    · exact ⟨m, by rw [goWhile, h1], hP⟩
    · obtain ⟨m', h5, h6⟩ := goWhile_P P μ st k m2 h3 (by omega)
      exact ⟨m', by rw [goWhile, h1]; dsimp only; rw [h2]; exact h5, h6⟩
/-! ### rows of ints -/
theorem lt_rowT (xs ys : List Int) : ltD (rowT xs) (rowT ys) = some (decide (xs < ys)) := by
  have h : canLt (rowT xs) (rowT ys) = true := by
    have d := PySem.W.depth_ints xs
    unfold rowT canLt
    simp only [PySem.W.alike, PySem.W.alike_ints, isNoneD, PyData.depth, d, Bool.not_false, Bool.and_true, Bool.true_and, decide_eq_true_eq]
    omega
  unfold ltD
  rw [if_pos h]
  show some (PySem.W.dataLt (.tuple (xs.map .int)) (.tuple (ys.map .int))) = _
  rw [PySem.W.dataLt_tuple]
  exact congrArg some (PySem.W.dataLt_ints xs ys)
theorem code_cons (B d : Int) (r : List Int) : TS.code B (d :: r) = d * B ^ r.length + TS.code B r := rfl
theorem code_lt {B : Int} (hB : 0 < B) : ∀ {r t : List Int}, TS.Bd B r → TS.Bd B t → r.length = t.length → (TS.code B r < TS.code B t ↔ r < t)
  | [], [], _, _, _ => by simp [TS.code]
  | [], _ :: _, _, _, h => by simp at h
  | _ :: _, [], _, _, h => by simp at h
  | d :: r, e :: t, h1, h2, h => by
    have hl : r.length = t.length := by simpa using h
    have b1 : TS.Bd B r := fun m hm => h1 m (List.mem_cons_of_mem _ hm)
    have b2 : TS.Bd B t := fun m hm => h2 m (List.mem_cons_of_mem _ hm)
    have ih := code_lt hB b1 b2 hl
    have c1 := code_bd hB b1
    have c2 := code_bd hB b2
    rw [code_cons, code_cons, List.cons_lt_cons_iff, ← ih, hl]
    rw [hl] at c1
    have hp : 0 < B ^ t.length := Int.pow_pos hB
    constructor
    · intro z
      rcases Int.lt_trichotomy d e with w | w | w
      · exact .inl w
      · subst w; exact .inr ⟨rfl, by omega⟩
      · have : (e + 1) * B ^ t.length ≤ d * B ^ t.length := Int.mul_le_mul_of_nonneg_right (by omega) (by omega)
        rw [Int.add_mul] at this; omega
    · rintro (w | ⟨rfl, w⟩)
      · have : (d + 1) * B ^ t.length ≤ e * B ^ t.length := Int.mul_le_mul_of_nonneg_right (by omega) (by omega)
        rw [Int.add_mul] at this; omega
      · omega
def AllR (B : Int) (d : Nat) (R : List (List Int)) : Prop := ∀ r ∈ R, r.length = d ∧ TS.Bd B r
theorem ssort_iff {d : Nat} {R : List (List Int)} (h : AllR ssetB d R) : R = ssort ssetB R ↔ R.Pairwise (· < ·) := by
  have inj : ∀ x ∈ R, ∀ y ∈ R, TS.code ssetB x = TS.code ssetB y → x = y := fun x hx y hy e => code_inj (by decide) (h x hx).2 (h y hy).2 ((h x hx).1.trans (h y hy).1.symm) e
  constructor
  · intro e
    have p := ssort_pw inj
    rw [← e] at p
    exact p.imp_of_mem fun {a b} ha hb z => (code_lt (by decide) (h a ha).2 (h b hb).2 ((h a ha).1.trans (h b hb).1.symm)).mp z
  · intro p
    refine strict_uniq (f := TS.code ssetB) (p.imp_of_mem fun {a b} ha hb z => (code_lt (by decide) (h a ha).2 (h b hb).2 ((h a ha).1.trans (h b hb).1.symm)).mpr z) (ssort_pw inj) fun z => ssort_mem.symm
theorem rowsD_map' : ∀ R : List (List Int), rowsD (R.map rowT) = some R
  | [] => rfl
  | r :: R => by
    show (intsOf (r.map .int)).bind _ = _
    have : ∀ l : List Int, intsOf (l.map .int) = some l := fun l => by
      induction l with
      | nil => rfl
      | cons a l ih => rw [List.map_cons, intsOf, ih]; rfl
    rw [this, Option.bind_some, rowsD_map' R]; rfl
theorem ssetG_rows {d : Nat} {R : List (List Int)} {x : PyData} (hx : itemsD x = some (R.map rowT)) (hd : 1 ≤ d) (hl : R.length < 64) (h : AllR ssetB d R) : ssetG x = some (.l ((ssort ssetB R).map rowT)) := by
  have hD : ssetD x = some (.l ((ssort ssetB R).map rowT)) := by
    unfold ssetD
    rw [hx, Option.bind_some, rowsD_map', Option.bind_some, if_pos]
    unfold rowsOk
    rw [Bool.and_eq_true, decide_eq_true_eq, List.all_eq_true]
    refine ⟨hl, fun r hr => ?_⟩
    have hd' : (R.headD [0]).length = d := by
      cases R with
      | nil => simp at hr
      | cons y t => exact (h y (by simp)).1
    have z := h r hr
    simp only [Bool.and_eq_true, decide_eq_true_eq, List.all_eq_true]
    exact ⟨⟨by rw [z.1, hd'], by omega⟩, fun m hm => z.2 m hm⟩
  unfold ssetG
  cases R with
  | nil =>
    have : ssetI x = some (.l []) := by
      unfold ssetI
      rw [hx]; rfl
    rw [this]; rfl
  | cons y t =>
    have : ssetI x = none := by
      unfold ssetI
      rw [hx]; rfl
    rw [this, hD]
end Dl
set_option Elab.async false
set_option linter.all false
set_option maxRecDepth 100000
/-! D29: rows of ints and small things for the plain laws. -/
namespace Dl
open PySem PySem.Spec PyProof.Rows L2
theorem eqv_ints : ∀ xs ys : List Int, PyData.eqvAll (xs.map .int) (ys.map .int) = decide (xs = ys)
  | [], [] => by simp [PyData.eqvAll]
  | [], _ :: _ => by simp [PyData.eqvAll]
  | _ :: _, [] => by simp [PyData.eqvAll]
  | x :: xs, y :: ys => by
    simp only [List.map_cons, PyData.eqvAll, PyData.eqv, eqv_ints xs ys]
    by_cases h : x = y <;> by_cases h2 : xs = ys <;> simp [h, h2]
theorem eqv_rows : ∀ xs ys : List (List Int), PyData.eqvAll (xs.map rowT) (ys.map rowT) = decide (xs = ys)
  | [], [] => by simp [PyData.eqvAll]
  | [], _ :: _ => by simp [PyData.eqvAll]
  | _ :: _, [] => by simp [PyData.eqvAll]
  | x :: xs, y :: ys => by
    simp only [List.map_cons, PyData.eqvAll, rowT, PyData.eqv, eqv_ints]
    rw [eqv_rows xs ys]
    by_cases h : x = y <;> by_cases h2 : xs = ys <;> simp [h, h2]
theorem depth_rows : ∀ xs : List (List Int), PyData.depthAll (xs.map rowT) ≤ 1
  | [] => by simp [PyData.depthAll]
  | x :: xs => by
    have h1 := depth_rows xs
    have h2 := PySem.W.depth_ints x
    simp only [List.map_cons, PyData.depthAll, rowT, PyData.depth]
    omega
theorem eq_rows (xs ys : List (List Int)) : eqD (.list (xs.map rowT)) (.list (ys.map rowT)) = some (decide (xs = ys)) := by
  unfold eqD
  have h1 := depth_rows xs
  rw [if_pos (by simp only [PyData.depth]; omega)]
  simp only [PyData.eqv, eqv_rows]
theorem goFor_all {s : PyData → Ms → Option Ms} {b : Ms → Fl} (P : Ms → Prop) (p : PyData → Bool) (r : PyData) : ∀ (xs : List PyData) (m : Ms), P m → (∀ x ∈ xs, ∀ m, P m → ∃ m1, s x m = some m1 ∧ (p x = true → ∃ m2, b m1 = .nx m2 ∧ P m2) ∧ (p x = false → b m1 = .rt r)) →
    (xs.all p = true → ∃ m', goFor s b xs m = .nx m' ∧ P m') ∧ (xs.all p = false → goFor s b xs m = .rt r)
  | [], m, h, _ => ⟨fun _ => ⟨m, rfl, h⟩, fun z => by simp at z⟩
  | x :: t, m, h, st => by
    obtain ⟨m1, h1, h2, h3⟩ := st x (by simp) m h
    cases hp : p x with
    | true =>
      obtain ⟨m2, h4, h5⟩ := h2 hp
      have ih := goFor_all P p r t m2 h5 fun y hy => st y (List.mem_cons_of_mem _ hy)
      have e : goFor s b (x :: t) m = goFor s b t m2 := by
        rw [goFor, h1]
        dsimp only
        rw [h4]
      rw [e, List.all_cons, hp, Bool.true_and]
      exact ih
    | false =>
      refine ⟨fun z => by simp [hp] at z, fun _ => ?_⟩
      rw [goFor, h1]
      dsimp only
      rw [h3 hp]
theorem enumFrom_mem : ∀ {xs : List PyData} {i : Nat} {z : PyData}, z ∈ enumFrom i xs → ∃ j x, xs[j]? = some x ∧ z = .tuple [.int ((i + j : Nat) : Int), x]
  | [], _, z, h => by simp [enumFrom] at h
  | x :: r, i, z, h => by
    rw [enumFrom, List.mem_cons] at h
    rcases h with h | h
    · exact ⟨0, x, rfl, h⟩
    · obtain ⟨j, y, h1, h2⟩ := enumFrom_mem h
      refine ⟨j + 1, y, by simpa using h1, ?_⟩
      rw [h2]
      have : i + 1 + j = i + (j + 1) := by omega
      rw [this]
theorem rngN {n : Nat} (h : n ≤ 1000) : rng1 [.int (n : Nat)] = .ok (rngL 0 n) := by
  have ok : rngOk 0 n = true := by rw [rngOk_iff]; omega
  simp only [rng1, ok, if_true, Int.toNat_natCast]
theorem rngL_mem {n : Nat} {x : PyData} (h : x ∈ rngL 0 n) : ∃ i : Nat, i < n ∧ x = .int (i : Nat) := by
  unfold rngL at h
  obtain ⟨i, hi, rfl⟩ := List.mem_map.mp h
  exact ⟨i, List.mem_range.mp hi, by rw [Int.zero_add]⟩
theorem dropN {α : Type} (xs : List α) (n : Nat) : cutL xs (some (n : Int)) none = xs.drop n := by
  unfold cutL
  rw [show HT.sIx xs.length 0 (some (n : Int)) = min n xs.length from HT.sIx_nat _ _ n, HT.sIx_none]
  by_cases h : n ≤ xs.length
  · rw [Nat.min_eq_left h, List.take_of_length_le (by rw [List.length_drop]; omega)]
  · rw [Nat.min_eq_right (by omega), List.drop_of_length_le (Nat.le_refl _), List.drop_of_length_le (by omega)]
    simp
theorem takeN {α : Type} (xs : List α) (n : Nat) : cutL xs none (some (n : Int)) = xs.take n := by
  unfold cutL
  rw [HT.sIx_none, show HT.sIx xs.length xs.length (some (n : Int)) = min n xs.length from HT.sIx_nat _ _ n]
  by_cases h : n ≤ xs.length
  · rw [Nat.min_eq_left h, List.drop_zero, Nat.sub_zero]
  · rw [Nat.min_eq_right (by omega), List.drop_zero, Nat.sub_zero, List.take_of_length_le (Nat.le_refl _), List.take_of_length_le (by omega)]
theorem cutlen {α : Type} (xs : List α) (lo hi : Option Int) : (cutL xs lo hi).length ≤ xs.length := by
  unfold cutL
  rw [List.length_take, List.length_drop]
  omega
theorem cutL_map {α β : Type} (f : α → β) (xs : List α) (lo hi : Option Int) : cutL (xs.map f) lo hi = (cutL xs lo hi).map f := by
  unfold cutL
  rw [List.length_map, List.map_take, List.map_drop]
theorem seq_nx {s u : Ms → Fl} {m m' : Ms} (h : s m = .nx m') : sSeq s u m = u m' := by rw [sSeq_s, h]
section
variable {s t : Ms → Fl} {u : Ms → Rz Bool} {m m' : Ms} {c N : Nat} {x : PyData} {M : Ms}
theorem sIf_t (h : u m = .ok true) : sIf u s t m = s m := by rw [sIf_s, h]; rfl
theorem sIf_f (h : u m = .ok false) : sIf u s t m = t m := by rw [sIf_s, h]; rfl
theorem seq_ex (h : s m = .ex c m') : sSeq s t m = .ex c m' := by rw [sSeq_s, h]
theorem seq_rt (h : s m = .rt x) : sSeq s t m = .rt x := by rw [sSeq_s, h]
theorem fn_rt (e : m ++ List.replicate (N - m.length) none = M) (h : s M = .rt x) : fnW N s m = .ok x := by rw [fnW_s, e, h]
theorem fn_ex (e : m ++ List.replicate (N - m.length) none = M) (h : s M = .ex c m') : fnW N s m = .ex c := by rw [fnW_s, e, h]
theorem fn_nx (e : m ++ List.replicate (N - m.length) none = M) (h : s M = .nx m') : fnW N s m = .ok .none := by rw [fnW_s, e, h]
theorem cut_nx {vs : List Nat} (h : s m = .nx m') : sCut vs s m = .nx (wipeM m' vs) := by rw [sCut_s, h]
theorem cut_rt {vs : List Nat} (h : s m = .rt x) : sCut vs s m = .rt x := by rw [sCut_s, h]
theorem ret_rt {f : Ms → Rz PyData} (h : f m = .ok x) : sRet f m = .rt x := by rw [sRet_s, h]
theorem expr_nx {f : Ms → Rz PyData} (h : f m = .ok x) : sExpr f m = .nx m := by rw [sExpr_s, h]
theorem expr_ex {f : Ms → Rz PyData} (h : f m = .ex c) : sExpr f m = .ex c m := by rw [sExpr_s, h]
theorem set_nx {f : Ms → Rz W} {i : Nat} {w : W} (h : f m = .ok w) (hi : i < m.length) : sSet i f m = .nx (m.set i (some w)) := by rw [sSet_s, h]; exact if_pos hi
theorem or_f {v : Ms → Rz Bool} (h : u m = .ok false) : tOr' u v m = v m := by rw [tOr_s, h, Rz.bind_ok]; rfl
theorem or_t {v : Ms → Rz Bool} (h : u m = .ok true) : tOr' u v m = .ok true := by rw [tOr_s, h, Rz.bind_ok]; rfl
end
def nn (D : List Int) : Prop := ∀ d ∈ D, 0 ≤ d
structure Drw (E : List Int) : Prop where
  n : 60 ≤ E.length
  p : nn E
theorem at_map {E : List Int} {i : Nat} (h : i < E.length) (p : nn E) : ∃ x, atI (E.map PyData.int) ((i : Nat) : Int) = some (.int x) ∧ 0 ≤ x := by
  refine ⟨E[i], ?_, p _ (List.getElem_mem h)⟩
  rw [atI_nat, List.getElem?_map, List.getElem?_eq_getElem h]
  rfl
theorem len2 {α : Type} {xs : List α} (h : xs.length = 2) : ∃ x y, xs = [x, y] := by
  match xs, h with
  | [x, y], _ => exact ⟨x, y, rfl⟩
theorem len3 {α : Type} {xs : List α} (h : xs.length = 3) : ∃ x y z, xs = [x, y, z] := by
  match xs, h with
  | [x, y, z], _ => exact ⟨x, y, z, rfl⟩
theorem len4 {α : Type} {xs : List α} (h : xs.length = 4) : ∃ x y z w, xs = [x, y, z, w] := by
  match xs, h with
  | [x, y, z, w], _ => exact ⟨x, y, z, w, rfl⟩
def numB (v : PyData) (a b : Int) : Bool := match v with
  | .int i => !decide (i < a) && !decide (b < i)
  | _ => false
theorem numB_int {v : PyData} {a b : Int} (h : numB v a b = true) : ∃ i, v = .int i ∧ a ≤ i ∧ i ≤ b := by
  cases v <;> simp [numB] at h
  exact ⟨_, rfl, h.1, h.2⟩
theorem numB_of {i a b : Int} (h : a ≤ i) (h2 : i ≤ b) : numB (.int i) a b = true := by simp [numB, h, h2]
def isLen (n : Nat) (z : PyData) : Bool := match z with
  | .tuple xs => decide (xs.length = n)
  | _ => false
theorem isLen_eq {n : Nat} {z : PyData} (h : isLen n z = true) : ∃ xs, z = .tuple xs ∧ xs.length = n := by
  cases z with
  | tuple xs => exact ⟨xs, rfl, of_decide_eq_true h⟩
  | _ => cases h
/-! ### rows that ascend -/
def ascR (R : List (List Int)) : Bool := (R.zip R.tail).all fun p => decide (p.1 < p.2)
theorem ascR_iff : ∀ {R : List (List Int)}, ascR R = true ↔ R.Pairwise (· < ·)
  | [] => by simp [ascR]
  | [x] => by simp [ascR]
  | x :: y :: r => by
    have ih := ascR_iff (R := y :: r)
    have e : ascR (x :: y :: r) = (decide (x < y) && ascR (y :: r)) := rfl
    rw [e, Bool.and_eq_true, ih, decide_eq_true_eq]
    constructor
    · rintro ⟨h1, h2⟩
      refine List.pairwise_cons.mpr ⟨fun z hz => ?_, h2⟩
      rcases List.mem_cons.mp hz with rfl | hz
      · exact h1
      · exact List.lt_trans h1 ((List.pairwise_cons.mp h2).1 z hz)
    · intro h
      obtain ⟨h1, h2⟩ := List.pairwise_cons.mp h
      exact ⟨h1 y (by simp), h2⟩
theorem zip_rows : ∀ {R S : List (List Int)}, zipL (R.map rowT) (S.map rowT) = (R.zip S).map fun p => .tuple [rowT p.1, rowT p.2]
  | [], _ => by simp [zipL]
  | _ :: _, [] => by simp [zipL]
  | x :: R, y :: S => by rw [List.map_cons, List.map_cons, zipL, zip_rows]; rfl
theorem drop1 {α : Type} (xs : List α) : cutL xs (some 1) none = xs.tail := by
  rw [show (1 : Int) = ((1 : Nat) : Int) from rfl, dropN, List.drop_one]
theorem rowT_inj {r s : List Int} (h : rowT r = rowT s) : r = s := by
  have : r.map PyData.int = s.map PyData.int := by simpa [rowT] using h
  have e := congrArg intsOf this
  rw [intsOf_map, intsOf_map] at e
  exact Option.some.inj e
theorem sortD_rows {R : List (List Int)} {x : PyData} (hx : itemsD x = some (R.map rowT)) (hd : R.length < 64) (h : ∃ d, 1 ≤ d ∧ AllR ssetB d R) : ∃ S, ssetG x = some (.l (S.map rowT)) ∧ (R = S ↔ ascR R = true) := by
  obtain ⟨d, h1, h2⟩ := h
  exact ⟨_, ssetG_rows hx h1 hd h2, (ssort_iff h2).trans ascR_iff.symm⟩
end Dl
set_option Elab.async false
set_option linter.all false
set_option maxRecDepth 100000
/-! D30: sorted rows, numbered lists. -/
namespace Dl
open PySem PySem.Spec PyProof.Rows L2
def leR (x y : List Int) : Bool := !decide (y < x)
theorem dataLe_rowT (x y : List Int) : PySem.W.dataLe false id (rowT x) (rowT y) = leR x y := by
  show (!PySem.W.dataLt (rowT y) (rowT x)) = _
  unfold leR
  have : PySem.W.dataLt (rowT y) (rowT x) = decide (y < x) := by
    show PySem.W.dataLt (.tuple (y.map .int)) (.tuple (x.map .int)) = _
    rw [PySem.W.dataLt_tuple]
    exact PySem.W.dataLt_ints y x
  rw [this]
theorem dsort_rows (R : List (List Int)) : dsort (R.map rowT) = (R.mergeSort leR).map rowT := by
  unfold dsort
  exact (List.map_mergeSort fun a _ b _ => (dataLe_rowT a b).symm).symm
theorem alike_rowT (x y : List Int) : PySem.W.alike (rowT x) (rowT y) = true := by
  simp only [rowT, PySem.W.alike, PySem.W.alike_ints]
theorem sortD_rowsL {R : List (List Int)} (hl : R.length ≤ 10000000) (hne : ∀ r ∈ R, r ≠ []) : sortD (.list (R.map rowT)) = some (.l ((R.mergeSort leR).map rowT)) := by
  unfold sortD
  dsimp only
  rw [if_pos, dsort_rows]
  refine ⟨.of fun b b' => alike_rowT b b', .inl fun d hd => ?_, by rw [List.length_map]; exact hl, by have := depth_rows R; omega⟩
  obtain ⟨r, hr, rfl⟩ := List.mem_map.mp hd
  cases r with
  | nil => exact absurd rfl (hne _ hr)
  | cons a r => exact ⟨.int a, r.map .int, rfl⟩
def leI (x y : Int) : Bool := decide (x ≤ y)
theorem dsort_ints (l : List Int) : dsort (l.map .int) = (l.mergeSort leI).map .int := by
  unfold dsort
  refine (List.map_mergeSort fun a _ b _ => ?_).symm
  have := congrFun (congrFun (PySem.W.dataLe_int (fun x : Int => x)) a) b
  exact this.symm
theorem sortD_intsL {l : List Int} (hl : l.length ≤ 10000000) : sortD (.list (l.map .int)) = some (.l ((l.mergeSort leI).map .int)) := by
  unfold sortD
  dsimp only
  rw [if_pos, dsort_ints]
  refine ⟨.of fun b b' => by simp [PySem.W.alike], .inr fun d hd => ?_, by rw [List.length_map]; exact hl, by rw [PySem.W.depth_ints]; omega⟩
  obtain ⟨r, hr, rfl⟩ := List.mem_map.mp hd
  exact ⟨by simp, by simp⟩
theorem enum_zip {α : Type} (f : α → PyData) : ∀ (xs : List α) (i : Nat), enumFrom i (xs.map f) = (xs.zipIdx i).map fun p => .tuple [.int ((p.2 : Nat) : Int), f p.1]
  | [], _ => rfl
  | x :: r, i => by rw [List.map_cons, enumFrom, enum_zip f r (i + 1), List.zipIdx_cons, List.map_cons]
/-! ### dicts with pairs of numbers for keys -/
def kvP (M : List ((Nat × Nat) × Int)) : List (PyData × PyData) := M.map fun p => (.tuple [.int p.1.1, .int p.1.2], .int p.2)
theorem kP_eq {a b : Nat} {k : PyData × PyData} {p : (Nat × Nat) × Int} (h : k = (.tuple [.int p.1.1, .int p.1.2], .int p.2)) : (keysOfD k.1 = some [.inl (a : Int), .inl (b : Int)]) ↔ p.1 = (a, b) := by
  subst h
  obtain ⟨⟨x, y⟩, z⟩ := p
  simp only [keysOfD, keysOf, keyOfD, Option.bind_some, Option.map_some, Option.some.injEq, List.cons.injEq, Sum.inl.injEq, and_true, Prod.mk.injEq]
  omega
theorem dputP {M : List ((Nat × Nat) × Int)} {a b : Nat} {x : Int} (h : (a, b) ∉ M.map (·.1)) : dputD true (kvP M) (.tuple [.int (a : Nat), .int (b : Nat)]) (.int x) = some (kvP (M ++ [((a, b), x)])) := by
  unfold dputD
  rw [if_pos rfl]
  show (some [Sum.inl (a : Int), Sum.inl (b : Int)]).map _ = _
  rw [Option.map_some]
  unfold dset
  rw [if_neg]
  · unfold kvP; rw [List.map_append]; rfl
  · rw [Bool.not_eq_true, List.any_eq_false]
    intro k hk
    unfold kvP at hk
    obtain ⟨p, hp, rfl⟩ := List.mem_map.mp hk
    rw [decide_eq_true_eq]
    intro z
    have := (kP_eq (p := p) (a := a) (b := b) rfl).mp z
    exact h (this ▸ List.mem_map_of_mem hp)
theorem dgetP {M : List ((Nat × Nat) × Int)} {a b : Nat} {x : Int} (h : ((a, b), x) ∈ M) (nd : (M.map (·.1)).Nodup) : dgetD true (kvP M) (.tuple [.int (a : Nat), .int (b : Nat)]) = some (some (.int x)) := by
  unfold dgetD
  rw [if_pos rfl]
  show (some [Sum.inl (a : Int), Sum.inl (b : Int)]).map _ = _
  rw [Option.map_some]
  congr 1
  unfold dfind
  induction M with
  | nil => simp at h
  | cons p M ih =>
    rw [List.map_cons, List.nodup_cons] at nd
    unfold kvP
    rw [List.map_cons, List.find?_cons]
    by_cases hp : p.1 = (a, b)
    · have e : p = ((a, b), x) := by
        rcases List.mem_cons.mp h with e | h
        · exact e.symm
        · exact absurd (hp ▸ List.mem_map_of_mem (f := (·.1)) h) nd.1
      rw [decide_eq_true ((kP_eq (p := p) rfl).mpr hp)]
      rw [e]; rfl
    · rw [decide_eq_false fun z => hp ((kP_eq (p := p) rfl).mp z)]
      refine ih ?_ nd.2
      rcases List.mem_cons.mp h with e | h
      · rw [← e] at hp; exact absurd rfl hp
      · exact h
end Dl
set_option Elab.async false
set_option linter.all false
set_option maxRecDepth 100000
/-! D31: t[::2] of a tuple. -/
namespace Dl
open PySem PySem.Spec PyProof.Rows L2
def evens {α : Type} : List α → List α
  | [] => []
  | [a] => [a]
  | a :: _ :: r => a :: evens r
theorem evens_map {α β : Type} (f : α → β) : ∀ l : List α, evens (l.map f) = (evens l).map f
  | [] => rfl
  | [_] => rfl
  | a :: b :: r => by simp only [List.map_cons, evens]; rw [evens_map f r]
theorem evens_len {α : Type} : ∀ l : List α, (evens l).length ≤ l.length
  | [] => Nat.le_refl _
  | [_] => Nat.le_refl _
  | a :: b :: r => by
    have := evens_len r
    simp only [evens, List.length_cons]; omega
theorem evens_sub {α : Type} : ∀ l : List α, (evens l).Sublist l
  | [] => .slnil
  | [_] => List.Sublist.refl _
  | a :: b :: r => .cons_cons a (.cons b (evens_sub r))
theorem pick_ev {α : Type} : ∀ l : List α, (List.range ((l.length + 1) / 2)).filterMap (fun m => l[2 * m]?) = evens l
  | [] => by simp [evens]
  | [a] => by simp [evens, List.range_succ]
  | a :: b :: r => by
    have e : ((a :: b :: r).length + 1) / 2 = (r.length + 1) / 2 + 1 := by simp only [List.length_cons]; omega
    rw [e, List.range_succ_eq_map, List.filterMap_cons, List.filterMap_map]
    show a :: (List.range ((r.length + 1) / 2)).filterMap ((fun m => (a :: b :: r)[2 * m]?) ∘ Nat.succ) = a :: evens r
    rw [← pick_ev r]
    refine congrArg (a :: ·) (filterMap_eq fun m _ => ?_)
    show (a :: b :: r)[2 * (m + 1)]? = _
    rw [show 2 * (m + 1) = 2 * m + 1 + 1 by omega, List.getElem?_cons_succ, List.getElem?_cons_succ]
section
variable {prog : Program} {w : World} {A : Around} {E : Value → Shared → Prop} {s : Shared}
theorem adjust_2 (n : Nat) : Builtin.Slice.sliceAdjust none none 2 (n : Int) = (0, (n : Int)) := by
  unfold Builtin.Slice.sliceAdjust
  have h1 : ¬ ((2 : Int) < 0) := by omega
  simp only [h1, if_false]
  try rfl
theorem places_2 (n : Nat) : Builtin.Slice.slicePlaces 0 (n : Int) 2 = (n + 1) / 2 := by
  unfold Builtin.Slice.slicePlaces
  have h1 : ((2 : Int) > 0) := by omega
  simp only [h1, if_true]
  split <;> simp <;> omega
theorem sliceApplied_2 {sl : Addr} {vl vu vs : Value} {n : Nat} {Q : Int × Int × Nat → Shared → Prop} (hs : s.heap.IsSliceOf sl vl vu vs) (pl : IsPart vl none) (pu : IsPart vu none) (ps : IsPart vs (some 2))
    (h : Q (0, 2, (n + 1) / 2) s) : wpAny (model prog w) A (Builtin.Slice.sliceApplied (.ref sl) (pure (n : Int))) Q E s := by
  obtain ⟨os, hos, hcs, hds⟩ := id hs
  unfold Builtin.Slice.sliceApplied Builtin.Slice.sliceFields
  refine wpAny_bind (wpAny_bind (wpAny_field hos hds (x := vl) rfl (wpAny_bind (wpAny_field hos hds (x := vu) rfl (wpAny_bind (wpAny_field hos hds (x := vs) rfl (wpAny_pure ?_)))))))
  refine wpAny_bind (HT.slicePart_ ps ?_)
  show wpAny _ _ (if ((2 : Int) == 0) = true then _ else _) _ _ s
  rw [if_neg (by decide)]
  refine wpAny_bind (HT.slicePart_ pl (wpAny_bind (HT.slicePart_ pu (wpAny_bind (wpAny_pure ?_)))))
  show wpAny _ _ (match Builtin.Slice.sliceAdjust none none 2 (n : Int) with | (lo, hi) => pure (lo, (2 : Int), Builtin.Slice.slicePlaces lo hi 2)) _ _ s
  rw [adjust_2 n]
  show wpAny _ _ (pure ((0 : Int), (2 : Int), Builtin.Slice.slicePlaces 0 (n : Int) 2)) _ _ s
  rw [places_2]
  exact wpAny_pure h
theorem pick_2 (xs : Array Value) : ((List.range ((xs.size + 1) / 2)).filterMap fun (m : Nat) => xs[((0 : Int) + (m : Int) * 2).toNat]?).toArray = (evens xs.toList).toArray := by
  have h1 : ((List.range ((xs.size + 1) / 2)).filterMap fun (m : Nat) => xs[((0 : Int) + (m : Int) * 2).toNat]?) = (List.range ((xs.toList.length + 1) / 2)).filterMap fun m => xs.toList[2 * m]? := by
    rw [Array.length_toList]
    apply filterMap_eq
    intro m hm
    rw [Array.getElem?_toList]
    congr 1
    omega
  rw [h1, pick_ev]
theorem getItem_tuple_2 {t sl : Addr} {items : Array Value} {vl vu vs : Value} {Q : Value → Shared → Prop} (ht : IsTup s.heap t items) (hs : s.heap.IsSliceOf sl vl vu vs) (pl : IsPart vl none) (pu : IsPart vu none) (ps : IsPart vs (some 2))
    (h : Q (.ref s.heap.objs.size) { s with heap := s.heap.push { cls := .type "tuple", data := .seq (evens items.toList).toArray } }) (hsz : items.size ≤ sizeLine) : wpAny (model prog w) A (getItem (.ref t) (.ref sl)) Q E s := by
  have ok : sizeOk (.seq (evens items.toList).toArray) := by
    show (evens items.toList).toArray.size ≤ sizeLine
    rw [List.size_toArray]
    have := evens_len items.toList
    rw [Array.length_toList] at this
    exact Nat.le_trans this hsz
  obtain ⟨os, hos, hcs, hds⟩ := id hs
  have ty : s.TypeIs (.ref sl) "slice" := ⟨os, hos, hcs⟩
  unfold getItem
  try with_reducible refine wpAny_holding ?_
  first | refine wpAny_bind (wpAny_pure ?_) | skip
  refine wpAny_bind (wpAny_sequenceKey ht.typeIs (by decide) (wpAny_bind (wpAny_callSpecial?_slot (name := Str.ofString "__getitem__") ht.typeIs PyProof.Rows.slot_tuple_getitem (wpAny_call_entry PyProof.Rows.slot_tuple_getitem ht.typeIs entry_tuple_getitem ?_ (args_tuple_getitem _ _)))))
  show wpAny _ _ (Builtin.Tuple.tupleItemsOf (.ref t) >>= _) _ _ s
  refine wpAny_bind (tupleItemsOf_ ht (wpAny_bind (wpAny_typeOf ty ?_)))
  rw [if_pos (by decide)]
  refine wpAny_bind (sliceApplied_2 hs pl pu ps ?_)
  show wpAny _ _ (if ((0 : Int) == 0 && (2 : Int) == 1 && (items.size + 1) / 2 == items.size) = true then _ else _) _ _ s
  rw [if_neg (by simp), pick_2]
  first
    | exact wpAny_bind (m := Builtin.Tuple.tupleExact _) (wpAny_newObj_type (wpAny_pure ⟨_, rfl, wpAny_pure h⟩) ok)
    | exact wpAny_bind (m := Builtin.Tuple.tupleExact _) (wpAny_newObj_type (wpAny_bind (wpAny_pure (wpAny_pure ⟨_, rfl, wpAny_pure h⟩))) ok)
    | exact wpAny_bind (wpAny_bind (m := Builtin.Tuple.tupleExact _) (wpAny_newObj_type (wpAny_pure (wpAny_pure ⟨_, rfl, wpAny_pure h⟩)) ok))
    | exact wpAny_bind (wpAny_bind (m := Builtin.Tuple.tupleExact _) (wpAny_newObj_type (wpAny_pure ⟨_, rfl, wpAny_pure h⟩) ok))
end
theorem vals_evens : ∀ {vs : List V} {its : List Value}, Vals vs its → Vals (evens vs) (evens its)
  | [], [], .nil => .nil
  | [_], [_], .cons a .nil => .cons a .nil
  | _ :: _ :: _, _ :: _ :: _, .cons a (.cons _ r) => .cons a (vals_evens r)
theorem rp_evens {K : PySem.W.Frag} {Fz : Addr → Prop} {H : Hp} : ∀ {vs : List V} {ds : List PyData}, RpAll K Fz H vs ds → RpAll K Fz H (evens vs) (evens ds)
  | [], [], .nil => .nil
  | [_], [_], .cons a .nil => .cons a .nil
  | _ :: _ :: _, _ :: _ :: _, .cons a (.cons _ r) => .cons a (rp_evens r)
section
variable {X : Cx} {ct : CT} {Wx : WX} {e a b : Expr} {p p2 pos pos2 : Pos}
/-- e[::2] -/
def tEvA (K : PySem.W.Frag) (te : TE) : TE := fun σ H Q => te σ H fun x H1 => ∃ a xs, x = .ref a ∧ (SqT K H1 a xs ∧ ∀ p, H1 p = none → Q (.ref p) (upd H1 p (.tup (evens xs))))
theorem pe_evA {te : TE} {k : Nat} {p1 p3 : Pos} (he : PE X e te) : PE X (.Subscript e (.Slice none none (some (.Constant (.int 2) k p1)) p3) pos) (tEvA X.K te) := by
  refine ⟨fun pins s σ H Q I h => ?_⟩
  refine Subscript_ (thn (he.run pins s σ H _ I h) fun v s1 ⟨x, H1, I1, r1, a, xs, ex, q⟩ => ?_)
  subst ex
  cases r1
  refine wpAny_Slice (thn (po_none.run pins s1 σ H1 (fun o H2 => o = none ∧ H2 = H1) I1 ⟨rfl, rfl⟩) fun vl s2 ⟨l, H2, I2, pl, el, e2⟩ => ?_)
  subst el e2
  refine thn (po_none.run pins s2 σ H2 (fun o H3 => o = none ∧ H3 = H2) I2 ⟨rfl, rfl⟩) fun vu s3 ⟨u, H3, I3, pu, eu, e3⟩ => ?_
  subst eu e3
  refine thn ((po_some pe_int).run pins s3 σ H3 (fun o H4 => o = some 2 ∧ H4 = H3) I3 ⟨2, rfl, rfl, rfl⟩) fun vs s4 ⟨o, H4, I4, ps, eo, e4⟩ => ?_
  subst eo e4
  have I5 : Inv X pins σ H4 { s4 with heap := s4.heap.push { cls := .type "slice", data := .fields #[vl, vu, vs] } } := I4.kept (t' := s4.toks) fun b ob q => Heap.get?_push_of_some _ q
  show wpAny (model X.prog X.w) X.A (subscriptTail e (.Slice none none (some (.Constant (.int 2) k p1)) p3) (.ref a) (.ref s4.heap.objs.size)) (EP X pins σ Q) X.xe { s4 with heap := s4.heap.push { cls := .type "slice", data := .fields #[vl, vu, vs] } }
  obtain ⟨hx, q⟩ := q
  obtain ⟨its, r, ht, hz⟩ := I5.tuple hx
  have hlen := r.length
  refine tail_any (ops := [.ref a, .ref s4.heap.objs.size]) ht.typeIs (PyProof.Rows.slot_tuple_getitem.lookup) ?_ (by with_unfolding_all rfl)
  refine getItem_tuple_2 ht (Heap.IsSliceOf.new _ vl vu vs) pl pu ps ?_ (by rw [List.size_toArray]; omega)
  exact ⟨.ref _, _, I5.laid (t' := s4.toks) (o := .tup (evens xs)) (fun b ob q => Heap.get?_push_of_some _ q) (Nat.le_refl _) ⟨Nat.le_trans (evens_len xs) hz, _, vals_evens r, ⟨_, Heap.get?_push_size _ rfl, rfl, _, rfl⟩⟩, rfl, q _ (I5.hok.fresh (Nat.le_refl _))⟩
def evD (x : PyData) : Option W := match x with
  | .tuple xs => some (.d (.tuple (evens xs)))
  | _ => none
def eEv (f : Ms → Rz PyData) : Ms → Rz W := fun m => (f m).bind fun x => ofO (evD x)
theorem de_ev {f : Ms → Rz PyData} {k : Nat} {p1 p3 : Pos} (he : DR X ct Wx e f) : DE X ct Wx (.Subscript e (.Slice none none (some (.Constant (.int 2) k p1)) p3) pos) (eEv f) := ⟨PE_imp (pe_evA he.pe) fun σ H Q ⟨B, Fz, m, h, q⟩ => by
  unfold eEv at q
  refine tR_then h ?_
  cases hf : f m with
  | st => rw [hf] at q; exact q
  | ex c => rw [hf] at q; exact q
  | ok x =>
    intro v H1 F1 x1 r1 l1 s1
    rw [hf, Rz.bind_ok] at q
    have vw := s1.vw r1
    cases x with
    | tuple xs =>
      obtain ⟨a, vs, rfl, h1, h2⟩ := vw.tup
      exact ⟨a, vs, rfl, h1, fun p hp => q _ _ F1 x1 (r1.newTup hp (rp_evens h2))⟩
    | _ => exact q.elim⟩
end
@[simp] theorem eEv_s {f : Ms → Rz PyData} {m : Ms} : eEv f m = (f m).bind fun x => ofO (evD x) := rfl
@[simp] theorem evD_t {xs : List PyData} : evD (.tuple xs) = some (.d (.tuple (evens xs))) := rfl
end Dl
set_option Elab.async false
set_option linter.all false
set_option maxRecDepth 100000
/-! D32: name *= e. -/
namespace Dl
open PySem PySem.Spec PyProof.Rows L2
section
variable {X : Cx} {ct : CT} {Wx : WX} {e a b : Expr} {p p2 pos pos2 : Pos}
def ipMG : TIp := fun x y H Q => ∃ i j, x = .int i ∧ y = .int j ∧ CMul i j ∧ Q (.int (i * j)) H
theorem ip_mulG : PIp X .Mult ipMG := by
  intro pins s σ H x y v u Q I r1 r2 h
  obtain ⟨i, j, e1, e2, hc, q⟩ := h
  subst e1; subst e2
  obtain ⟨t, rfl⟩ := r1
  obtain ⟨t', rfl⟩ := r2
  exact imul_int ⟨.int _, H, I.tok _, ⟨_, rfl⟩, q⟩ hc.ok
noncomputable def ipMD : PyData → PyData → Option PyData
  | .int i, .int j => if smallI i ∨ smallI j then some (.int (i * j)) else none
  | _, _ => none
noncomputable def sMulAug (i : Nat) (f : Ms → Rz PyData) : Ms → Fl := fun m => match vVar i m with
  | .ok x => flE f (fun y m => match ipMD x y with
    | some z => if i < m.length then .nx (m.set i (some (.d z))) else .st
    | none => .st) m
  | _ => .st
theorem ds_mulaug {i : Nat} {x : Str} {f : Ms → Rz PyData} {pos' : Pos} (hN : X.N.Nodup) (he : DV X ct Wx e f) (hi : X.N[i]? = some x := by rfl) (hx : Loc X.env.scope x := by first | exact Or.inl rfl | exact Or.inr rfl)
    (hf : X.fn x = true ∨ X.env.scope.names.lookup x = some .local := by first | exact .inl rfl | exact .inr rfl) : DS X ct Wx (.AugAssign (.Name x pos') .Mult e pos) (sMulAug i f) :=
  ds_of (ps_aug hN hi hx he.pe ip_mulG hf) fun D σ H B Fz m h q => by
    unfold sMulAug at q
    cases hv : vVar i m with
    | st => rw [hv] at q; exact q.elim
    | ex c => exact absurd hv vVar_ex
    | ok y =>
      rw [hv] at q
      obtain ⟨v, h1, h2⟩ := h.get (vVar_ok hv)
      refine ⟨v, h1, ?_⟩
      obtain ⟨B2, hB, he', ht⟩ := h.step
      refine ⟨B2, Fz, m, hB, ?_⟩
      have q : EndS X.K ct Wx B Fz D (flE f (fun y' m => match ipMD y y' with | some z => if i < m.length then .nx (m.set i (some (.d z))) else .st | none => .st) m) := q
      unfold flE at q
      cases hf : f m with
      | st => rw [hf] at q; exact q
      | ex c => rw [hf] at q; exact fun H' F' x r => q σ H' F' (he' _ x) (ht (ρ := []) (r := []) x r rfl).1
      | ok z =>
        rw [hf] at q
        intro u H' F' x r
        obtain ⟨r', l⟩ := ht (ρ := []) (r := []) x r.1 rfl
        have q : EndS X.K ct Wx B Fz D (match ipMD y z with | some z => if i < m.length then .nx (m.set i (some (.d z))) else .st | none => .st) := q
        unfold ipMD at q
        cases y with
        | int iy =>
          cases z with
          | int iz =>
            dsimp only at q
            by_cases hc : smallI iy ∨ smallI iz
            · rw [if_pos hc] at q
              dsimp only at q
              cases h2
              cases r.2
              refine ⟨iy, iz, rfl, rfl, hc, ?_⟩
              split at q
              · rename_i hl
                exact q _ _ F' (he' _ x) ((Rs.push r' (Rp.int (iy * iz))).put i hl)
              · exact q.elim
            · rw [if_neg hc] at q; exact q.elim
          | _ => exact q.elim
        | _ => exact q.elim
end
end Dl
set_option Elab.async false
set_option linter.all false
set_option maxRecDepth 100000
/-! D33: zip of lists and tuples in any mix; min of two data; name[i], name = e. -/
namespace Dl
open PySem PySem.Spec PyProof.Rows L2
/-- a list (false), a tuple (true) -/
def SqG (K : PySem.W.Frag) (H : Hp) (T : Bool) (a : Addr) (xs : List V) : Prop := match T with
  | true => SqT K H a xs
  | false => SqL K H a xs
def ItA (T : Bool) (h : Heap) (i a : Addr) (k : Nat) : Prop := match T with
  | true => h.IsTupleIter i a k
  | false => h.IsListIter i a k
def SeqA (T : Bool) (h : Heap) (a : Addr) (js : Array Value) : Prop := match T with
  | true => h.IsTuple a js
  | false => h.IsList a js
def oA (T : Bool) (a : Addr) : Obj := match T with
  | true => { cls := .type "tuple_iterator", data := .fields #[.ref a, .int 0 0] }
  | false => { cls := .type "list_iterator", data := .fields #[.ref a, .int 0 0] }
theorem drA {P : Program} {w : World} {A : Around} (T : Bool) (hh : A.handled = none) (i a : Addr) (ne : a ≠ i) (js : Array Value) :
    Draws P w A i [i, a] js.size (fun k v => js[k]? = some v) (fun k h => ItA T h i a k ∧ SeqA T h a js) := by
  cases T with
  | true => exact Draws.tuple hh i a ne js
  | false => exact Draws.list hh i a ne js
theorem begA (T : Bool) (a : Addr) (js : Array Value) : Begins (.ref a) (oA T a) fun h => SeqA T h a js := by
  cases T with
  | true => exact begins_tuple a js
  | false => exact begins_list a js
theorem itA_new {T : Bool} {h : Heap} {i a : Addr} (e : h.get? i = some (oA T a)) : ItA T h i a 0 := by
  cases T with
  | true => exact ⟨_, e, rfl, rfl⟩
  | false => exact ⟨_, e, rfl, rfl⟩
theorem itA_at {T : Bool} {h h' : Heap} {i a : Addr} {k : Nat} (x : ItA T h i a k) (f : ∀ o, h.get? i = some o → h'.get? i = some o) : ItA T h' i a k := by
  cases T with
  | true => exact Heap.IsTupleIter.at x f
  | false => exact Heap.IsListIter.at x f
theorem itA_obj {T : Bool} {h : Heap} {i a : Addr} {k : Nat} (x : ItA T h i a k) : ∃ o, h.get? i = some o ∧ ∀ v, o.data ≠ .cell v := by
  cases T with
  | true => exact let ⟨o, e, _, d⟩ := x; ⟨o, e, fun v q => by rw [d] at q; cases q⟩
  | false => exact let ⟨o, e, _, d⟩ := x; ⟨o, e, fun v q => by rw [d] at q; cases q⟩
theorem seqA_lt {T : Bool} {h : Heap} {a : Addr} {js : Array Value} (x : SeqA T h a js) : a < h.objs.size := by
  cases T with
  | true => exact let ⟨_, e, _⟩ := x; Heap.lt_size e
  | false => exact let ⟨_, e, _⟩ := x; Heap.lt_size e
theorem invA {X : Cx} {pins : List (Addr × Obj)} {σ : L2.St} {H : Hp} {s : Shared} {T : Bool} {a : Addr} {xs : List V} (I : Inv X pins σ H s) (h : SqG X.K H T a xs) :
    ∃ js : List Value, Vals xs js ∧ SeqA T s.heap a js.toArray ∧ xs.length ≤ sizeLine := by
  cases T with
  | true =>
    obtain ⟨js, r, p, z⟩ := I.tuple h
    exact ⟨js, r, p, z⟩
  | false =>
    obtain ⟨js, r, p, z⟩ := I.list h
    exact ⟨js, r, p.isList, z⟩
theorem injA {X : Cx} {pins : List (Addr × Obj)} {σ : L2.St} {H : Hp} {s : Shared} {T : Bool} {a : Addr} {xs ys : List V} (I : Inv X pins σ H s) (h : SqG X.K H T a xs) (h' : SqG X.K H T a ys) : xs = ys := by
  cases T with
  | true => exact I.tuple_inj h h'
  | false => exact I.list_inj h h'
/-- both at each turn, the items in new pairs -/
def Itw (K : PySem.W.Frag) (T1 T2 : Bool) (a b : Addr) : It :=
  ⟨fun i H => ∃ (xs ys : List V) (x y : V), SqG K H T1 a xs ∧ SqG K H T2 b ys ∧ xs[i]? = some x ∧ ys[i]? = some y,
    fun i H v H' => ∃ N x y, v = .ref N ∧ H N = none ∧ H' = upd H N (.tup [x, y]) ∧ (∀ us, SqG K H T1 a us → us[i]? = some x) ∧ ∀ us, SqG K H T2 b us → us[i]? = some y,
    fun i H => ∃ xs ys : List V, SqG K H T1 a xs ∧ SqG K H T2 b ys ∧ i ≤ xs.length ∧ i ≤ ys.length ∧ (i = xs.length ∨ i = ys.length)⟩
theorem sepOf {z TI TO i1 i2 a b : Addr} (D : ZipApart z TI TO i1 i2 a b) : ZipSep2 z TI TO i1 i2 [i1, a] [i2, b] := by
  obtain ⟨d1, d2, d3, d4, d5, d6, d7, d8, d9, d10, d11, d12, d13, d14, d15, d16, d17, d18⟩ := D
  refine ⟨d1, d2, d5, d6, by simp, ?_, ?_, d7, by simp, ?_, ?_, ?_, ?_⟩
  · simp only [List.mem_cons, List.not_mem_nil, or_false, not_or]; exact ⟨Ne.symm d3, Ne.symm d11⟩
  · simp only [List.mem_cons, List.not_mem_nil, or_false, not_or]; exact ⟨d8, Ne.symm d12⟩
  · simp only [List.mem_cons, List.not_mem_nil, or_false, not_or]; exact ⟨Ne.symm d4, Ne.symm d15⟩
  · simp only [List.mem_cons, List.not_mem_nil, or_false, not_or]; exact ⟨d9, Ne.symm d16⟩
  · simp only [List.mem_cons, List.not_mem_nil, or_false, not_or]; exact ⟨d10, Ne.symm d17⟩
  · simp only [List.mem_cons, List.not_mem_nil, or_false, not_or]; exact ⟨Ne.symm d10, Ne.symm d14⟩
theorem five {α : Type} {x a b c d e : α} : x ∈ [a, b, c, d, e] ↔ x = a ∨ x = b ∨ x = c ∨ x = d ∨ x = e := by simp
theorem turn_w {P : Program} {w : World} {K : PySem.W.Frag} {elts : List Expr} {kk : Nat} {tpos : Pos} {T1 T2 : Bool} {a b z TI TO i1 i2 : Addr} (D : ZipApart z TI TO i1 i2 a b) :
    Turn P w K (.Tuple elts kk tpos) (Itw K T1 T2 a b) [z, TI, TO, i1, i2] z (fun i h => IsZip h z TI TO .none ∧ IsTupOf2 h TI (.ref i1) (.ref i2) ∧ (∃ x y, IsTupOf2 h TO x y) ∧ ItA T1 h i1 a i ∧ ItA T2 h i2 b i) where
  mem := by simp
  obj := fun i h st c hc => by
    obtain ⟨hz, hI, ⟨x, y, hO⟩, g1, g2⟩ := st
    rcases five.mp hc with rfl | rfl | rfl | rfl | rfl
    · exact ⟨_, hz, fun v q => nomatch q⟩
    · exact ⟨_, hI, fun v q => nomatch q⟩
    · exact ⟨_, hO, fun v q => nomatch q⟩
    · exact itA_obj g1
    · exact itA_obj g2
  keep := fun i h h' st k => by
    obtain ⟨hz, hI, ⟨x, y, hO⟩, g1, g2⟩ := st
    exact ⟨k _ (five.mpr (.inl rfl)) _ hz, k _ (five.mpr (.inr (.inl rfl))) _ hI, ⟨x, y, k _ (five.mpr (.inr (.inr (.inl rfl)))) _ hO⟩, itA_at g1 (k _ (five.mpr (.inr (.inr (.inr (.inl rfl)))))), itA_at g2 (k _ (five.mpr (.inr (.inr (.inr (.inr rfl))))))⟩
  item := by
    intro X eP ew eK hc i pins s σ H E I hf st hg
    subst eP ew eK
    obtain ⟨hz, hI, ⟨x0, y0, hO⟩, g1, g2⟩ := st
    obtain ⟨xs, ys, x, y, qx, qy, hx, hy⟩ := hg
    obtain ⟨js, rv, p1, _⟩ := invA I qx
    obtain ⟨ks, rw2, p2, _⟩ := invA I qy
    obtain ⟨u, hu, ru⟩ := rv.get hx
    obtain ⟨t, ht, rt⟩ := rw2.get hy
    have zl : z < s.heap.objs.size := Heap.lt_size hz
    have l1 : i < js.toArray.size := by have := (List.getElem?_eq_some_iff.mp hu).1; simpa using this
    have l2 : i < ks.toArray.size := by have := (List.getElem?_eq_some_iff.mp ht).1; simpa using this
    refine wpAny_pyNext_zipD2_item (sepOf D) (drA (P := X.prog) (w := X.w) (A := X.A.in1) T1 (I.ok.hd hc) i1 a D.l1i1 js.toArray) (drA (P := X.prog) (w := X.w) (A := X.A.in1) T2 (I.ok.hd hc) i2 b D.l2i2 ks.toArray) hz hI hO ⟨g1, p1⟩ ⟨g2, p2⟩ l1 l2
      fun x1 x2 h' tk e1 e2 z' O' s1 s2 hN hsz hk => ?_
    have e1 : x1 = u := by
      have e1 : js.toArray[i]? = some x1 := e1
      rw [List.getElem?_toArray, hu] at e1
      exact (Option.some.inj e1).symm
    have e2 : x2 = t := by
      have e2 : ks.toArray[i]? = some x2 := e2
      rw [List.getElem?_toArray, ht] at e2
      exact (Option.some.inj e2).symm
    subst e1 e2
    refine ⟨_, rfl, wpAny_letOwnedTupleGo_zip (s := { s with heap := h', toks := tk }) z' fun h2 z2 sb => ?_⟩
    have up : ∀ c o, c ∉ [z, TI, TO, i1, i2] → s.heap.get? c = some o → h2.get? c = some o := fun c o hb q => by
      rw [five, not_or, not_or, not_or, not_or] at hb
      exact (sb.2 c hb.1).trans (hk c o hb.1 hb.2.2.1 hb.2.2.2.1 hb.2.2.2.2 q)
    have hN2 : h2.get? s.heap.objs.size = some { cls := .type "tuple", data := .seq #[x1, x2] } := (sb.2 _ (Nat.ne_of_gt zl)).trans hN
    have new : ObjOk X.prog X.w (upd H s.heap.objs.size (.tup [x, y])) h2 s.heap.objs.size (.tup [x, y]) := ⟨by show 2 ≤ sizeLine; decide, [x1, x2], .cons ru (.cons rt .nil), _, hN2, rfl, _, rfl⟩
    have I1 : Inv X pins σ (upd H s.heap.objs.size (.tup [x, y])) { s with heap := h2, toks := tk } := I.turnedNew up hf (Nat.le_refl _) new
    refine ⟨.ref s.heap.objs.size, _, I1, rfl, ⟨_, x, y, rfl, I.hok.fresh (Nat.le_refl _), rfl, fun us h => by rw [injA I h qx]; exact hx, fun us h => by rw [injA I h qy]; exact hy⟩,
      ⟨z2, (sb.2 _ D.TIz).trans (hk _ _ D.TIz D.TITO D.TIi1 D.TIi2 hI), ⟨x1, x2, (sb.2 _ D.TOz).trans O'⟩, itA_at s1.1 fun o q => (sb.2 _ D.i1z).trans q, itA_at s2.1 fun o q => (sb.2 _ D.i2z).trans q⟩, fun c hcm => ?_⟩
    have lt : c < s.heap.objs.size := by
      rcases five.mp hcm with rfl | rfl | rfl | rfl | rfl
      · exact zl
      · exact Heap.lt_size hI
      · exact Heap.lt_size hO
      · obtain ⟨_, e, _⟩ := itA_obj g1; exact Heap.lt_size e
      · obtain ⟨_, e, _⟩ := itA_obj g2; exact Heap.lt_size e
    rw [upd_ne (Nat.ne_of_lt lt)]
    exact (hf c hcm).1
  done := by
    intro X eP ew eK hc i pins s σ H E I hf st hg
    subst eP ew eK
    obtain ⟨hz, hI, ⟨x0, y0, hO⟩, g1, g2⟩ := st
    obtain ⟨xs, ys, qx, qy, hi, hj, he⟩ := hg
    obtain ⟨js, rv, p1, _⟩ := invA I qx
    obtain ⟨ks, rw2, p2, _⟩ := invA I qy
    have n1 := rv.length
    have n2 := rw2.length
    refine wpAny_pyNext_zipD2_end (sepOf D) (drA (P := X.prog) (w := X.w) (A := X.A.in1) T1 (I.ok.hd hc) i1 a D.l1i1 js.toArray) (drA (P := X.prog) (w := X.w) (A := X.A.in1) T2 (I.ok.hd hc) i2 b D.l2i2 ks.toArray) hz hI hO ⟨g1, p1⟩ ⟨g2, p2⟩ (by rw [List.size_toArray]; omega) (by rw [List.size_toArray]; omega) (by rw [List.size_toArray, List.size_toArray]; omega) fun h' tk hk => ⟨rfl, ?_⟩
    exact I.turnedL (fun c o hb q => by
      rw [five, not_or, not_or, not_or, not_or] at hb
      exact hk c o hb.1 hb.2.2.1 hb.2.2.2.1 hb.2.2.2.2 q) hf
  self := fun A i s Q E st h => wpAny_pyIter_zip st.1 h
def iZipW (K : PySem.W.Frag) (ta : TA) : TI := fun σ H R => ta σ H fun vs H1 => ∃ a b T1 T2 xs ys, vs = [.ref a, .ref b] ∧ SqG K H1 T1 a xs ∧ SqG K H1 T2 b ys ∧ (xs.length ≤ sizeLine → R (Itw K T1 T2 a b) H1)
section
variable {X : Cx} {ct : CT} {Wx : WX} {e e2 a b c : Expr} {p p2 pos pos2 tpos : Pos} {elts : List Expr} {kk : Nat} {K : PySem.W.Frag} {Fz : Addr → Prop} {H : Hp} {tg : Expr}
theorem pi_zipW {ta : TA} (hg : Gl X "zip") (hm : X.mg "zip" = none) (ha : PA X [e, e2] ta)
    (hs : starEach [e, e2] X.env = (false, eval e X.env) :: starEach [e2] X.env) (hpl : (backTo pos (starEach [e2] X.env)).any (·.1) = false) :
    PI X (.Tuple elts kk tpos) (.Call (.Name "zip" p) [e, e2] [] pos) (iZipW X.K ta) := ⟨fun pins s σ H R I h => by
  refine Call_ (ld_blt I hg hm PyProof.Rows.boot_zip (PyProof.Rows.callWith_type1 (thn (ha.run pos pins s σ H _ I h) fun us t ⟨vs, H1, I1, rr, q⟩ => ?_) hs hpl))
  obtain ⟨a, b, T1, T2, xs, ys, rfl, qx, qy, q⟩ := q
  cases rr with
  | cons r1 rr => cases rr with
  | cons r2 rr =>
    cases rr
    cases r1
    cases r2
    obtain ⟨js, rv, p1, sz⟩ := invA I1 qx
    obtain ⟨ks, rw2, p2, _⟩ := invA I1 qy
    refine zip_begins2 (begA T1 a js.toArray) (begA T2 b ks.toArray) p1 p2 fun h' hz hI hO g1 g2 hsz hk => wpAny_pyIter_zip hz ?_
    refine ⟨t.heap.objs.size + 4, [t.heap.objs.size + 4, t.heap.objs.size + 2, t.heap.objs.size + 3, t.heap.objs.size, t.heap.objs.size + 1], _, _, H1, rfl, I1.kept (t' := t.toks) hk,
      turn_w (T1 := T1) (T2 := T2) (PySem.W.ktu_apart t.heap.objs.size a b (seqA_lt p1) (seqA_lt p2)), ⟨hz, hI, ⟨_, _, hO⟩, itA_new g1, itA_new g2⟩, fun c hc => ?_, q sz⟩
    have le : t.heap.objs.size ≤ c := by
      rcases five.mp hc with q | q | q | q | q
      · rw [q]; exact Nat.le_add_right _ _
      · rw [q]; exact Nat.le_add_right _ _
      · rw [q]; exact Nat.le_add_right _ _
      · rw [q]; exact Nat.le_refl _
      · rw [q]; exact Nat.le_add_right _ _
    exact (I1.fpOk le (I1.hok.fresh le))⟩
theorem sqG_le {Fz Fz' : Addr → Prop} {H H' : Hp} {T : Bool} {a : Addr} {xs : List V} (l : Le Fz H Fz' H') (f : T = false → Fz a) (h : SqG K H T a xs) : SqG K H' T a xs := by
  cases T with
  | true => exact sqT_le l h
  | false => exact sqL_le l (f rfl) h
theorem rp_seqG {v : V} {x : PyData} {xs : List PyData} (h : Rp K Fz H v x) (e : itemsD x = some xs) : ∃ a T us, v = .ref a ∧ SqG K H T a us ∧ (T = false → Fz a) ∧ RpAll K Fz H us xs := by
  unfold itemsD at e
  split at e
  · cases e
    cases h with
    | @lst a vs _ f hq ra => exact ⟨a, false, vs, rfl, .inl (.inl hq), fun _ => f, ra⟩
  · cases e
    obtain ⟨a, vs, rfl, hq, ra⟩ := h.tupE
    exact ⟨a, true, vs, rfl, hq, (fun z => by cases z), ra⟩
  · cases e
def zipG : List PyData → Rz (List PyData)
  | [x, y] => match itemsD x, itemsD y with
    | some xs, some ys => .ok (zipL xs ys)
    | _, _ => .st
  | _ => .st
theorem zipG_ok {x : List PyData} {xs : List PyData} (h : zipG x = .ok xs) : ∃ y z ys zs, x = [y, z] ∧ itemsD y = some ys ∧ itemsD z = some zs ∧ xs = zipL ys zs := by
  unfold zipG at h
  split at h
  · rename_i y z
    split at h
    · rename_i ys zs e1 e2
      cases h
      exact ⟨y, z, ys, zs, rfl, e1, e2, rfl⟩
    · cases h
  · cases h
theorem zipG_ex (x : List PyData) (c : Nat) : zipG x ≠ .ex c := by
  unfold zipG
  split
  · split
    · exact fun h => nomatch h
    · exact fun h => nomatch h
  · exact fun h => nomatch h
theorem itw_ok {T1 T2 : Bool} {a b : Addr} {us vs : List V} {xs ys : List PyData} (q1 : SqG K H T1 a us) (q2 : SqG K H T2 b vs) (f1 : T1 = false → Fz a) (f2 : T2 = false → Fz b) (r1 : RpAll K Fz H us xs) (r2 : RpAll K Fz H vs ys) :
    ItOk K Fz H (Itw K T1 T2 a b) (zipL xs ys) := fun F' H' l => by
  have k1 := sqG_le l f1 q1
  have k2 := sqG_le l f2 q2
  have s1 := r1.mono l
  have s2 := r2.mono l
  rw [zipL_len, ← s1.length, ← s2.length]
  refine ⟨fun i hi => ⟨us, vs, us[i]'(by omega), vs[i]'(by omega), k1, k2, List.getElem?_eq_getElem _, List.getElem?_eq_getElem _⟩, ⟨us, vs, k1, k2, by omega, by omega, by omega⟩, fun i x v H2 hx hy => ?_⟩
  obtain ⟨N, y, z, rfl, hN, rfl, e1, e2⟩ := hy
  obtain ⟨d1, h1, t1⟩ := s1.get (e1 us k1)
  obtain ⟨d2, h2, t2⟩ := s2.get (e2 vs k2)
  rw [zipL_get, h1, h2] at hx
  cases hx
  have lt : Le F' H' F' (upd H' N (.tup [y, z])) := ⟨fun _ z => z, fun a o q _ => same_new hN a o q⟩
  exact ⟨.inr ⟨N, _, hN, rfl⟩, .tup upd_same (.cons (t1.mono lt) (.cons (t2.mono lt) .nil))⟩
theorem di_zipG {f g : Ms → Rz PyData} (ha : DA X ct Wx [e, e2] [f, g]) (hm : X.mg "zip" = none) (hg : Gl X "zip" := by rfl)
    (hs : starEach [e, e2] X.env = (false, eval e X.env) :: starEach [e2] X.env := by rfl) (hpl : (backTo pos (starEach [e2] X.env)).any (·.1) = false := by rfl) : DI X ct Wx (.Tuple elts kk tpos) (.Call (.Name "zip" p) [e, e2] [] pos) (iArg zipG [f, g]) :=
  ⟨PI_imp (pi_zipW hg hm ha.pa hs hpl) fun σ H R w => tAv_to (g := zipG) w (fun B Fz m x xs v H' r hx rv hk => by
    obtain ⟨y, z, ys, zs, rfl, i1, i2, rfl⟩ := zipG_ok hx
    obtain ⟨u, u2, rfl, ru, ru2⟩ := rv.two
    obtain ⟨a, T1, us, rfl, q1, f1, r1⟩ := rp_seqG ru i1
    obtain ⟨b, T2, vs, rfl, q2, f2, r2⟩ := rp_seqG ru2 i2
    exact ⟨a, b, T1, T2, us, vs, rfl, q1, q2, fun hz => hk _ (itw_ok q1 q2 f1 f2 r1 r2) (by rw [zipL_len]; have := r1.length; omega)⟩) zipG_ex⟩
@[simp] theorem zipG_s {x y : PyData} {xs ys : List PyData} (h1 : itemsD x = some xs) (h2 : itemsD y = some ys) : zipG [x, y] = .ok (zipL xs ys) := by
  simp only [zipG, h1, h2]

/-! ### min of two data -/
theorem call_min_2H {P : Program} {w : World} {A : Around} {E : Value → Shared → Prop} {s : Shared} {x y : Value} {Q : Value → Shared → Prop}
    (h : wpAny (model P w) A.in1 (pyIter (.ref s.heap.objs.size)) (fun it t => ∃ I fp wr G n R St H bt, it = .ref I ∧ WalksS P w A.in1 I fp wr G n R St ∧ St 0 t ∧ (∀ b ∈ fp, b < t.heap.objs.size) ∧ 0 < n ∧
      (∀ b o, H.get? b = some o → b ∉ wr) ∧ (∀ b o, H.get? b = some o → t.heap.get? b = some o) ∧ CmpIn P w A.in1 .Lt H R bt ∧ ∀ v s', R (argBest bt (n - 1)) v → Moved wr G t s' → Q v s') E
      { s with heap := s.heap.push { cls := .type "tuple", data := .seq #[x, y] } }) :
    wpAny (model P w) A (call (.builtin "min") [x, y]) Q E s := by
  have hn : (toString "min" ++ toString ".loop" : String) = "min.loop" := by decide
  refine call_function_tree F.kind_min F.plain_min F.entry_min (F.args_min2 _ _) ?_
  refine wpAny_bind (wpAny_of_eq (show Builtin.Builtins.bindParams "min" ["key", "default"] 0 ⟨[], []⟩ = pure [none, none] from rfl) ?_)
  refine wpAny_bind (wpAny_newObj_type (wpAny_bind (wpAny_mono h (fun it t ht => ?_) fun _ _ e => e)))
  obtain ⟨I, fp, wr, G, n, R, St, H, bt, rfl, W, hst, hfp, h0, hw, hk, hcmp, hQ⟩ := ht
  refine wpAny_bind (wpAny_newObj_type ?_)
  have hSf : t.heap.objs.size ∉ fp := fun hm => Nat.lt_irrefl _ (hfp _ hm)
  rw [hn]
  exact wpAny_pure ⟨plainId_quiet F.plain_min_loop _, PySem.codeAny_min_loop_firstH W H hw bt hcmp t.heap.objs.size hSf (PySem.fresh_in hk) _ h0 (fun b o e => Heap.get?_push_of_some _ (hk b o e))
    (W.frame 0 t _ t.toks hst (Nat.le_refl _) fun b _ o e => Heap.get?_push_of_some _ e) (Heap.get?_push_size _ rfl) fun v s' hP hm => hQ v s' hP (Moved.drop_new (tk := t.toks) hm (Nat.le_refl _))⟩
theorem min_two_data {P : Program} {w : World} {A : Around} {E : Value → Shared → Prop} {s : Shared} {u v : Value} {x y : PyData} {as : List Addr} {Q : Value → Shared → Prop} (hh : A.handled = none) (hr : ReadsAll s.heap [u, v] [x, y] as) (ha : PySem.W.AlikeAll [x, y]) (hu : A.units + 1 + PyData.depthAll [x, y] < cLine)
    (h : ∀ z h' tk bs, (z = u ∨ z = v) → Reads h' z (PySem.W.minD x [y]) bs → (∀ b o, s.heap.get? b = some o → h'.get? b = some o) → Q z { s with heap := h', toks := tk }) :
    wpAny (model P w) A (call (.builtin "min") [u, v]) Q E s := by
  refine call_min_2H ?_
  have k0 : ∀ b o, s.heap.get? b = some o → (s.heap.push { cls := .type "tuple", data := .seq #[u, v] }).get? b = some o := fun b o e => Heap.get?_push_of_some _ e
  have ht : (s.heap.push { cls := .type "tuple", data := .seq #[u, v] }).IsTuple s.heap.objs.size #[u, v] := ⟨_, Heap.get?_push_size _ rfl, rfl, 0, rfl⟩
  have hr' : ReadsAll (s.heap.push { cls := .type "tuple", data := .seq #[u, v] }) (#[u, v] : Array Value).toList [x, y] as := ReadsAll.keeps k0 hr
  refine PySem.W.iter_tupleW (A := A.in1) (s := { s with heap := s.heap.push { cls := .type "tuple", data := .seq #[u, v] } }) hh ht fun t e W st hfp hw hk => ?_
  refine ⟨_, _, _, _, _, _, _, s.heap.push { cls := .type "tuple", data := .seq #[u, v] }, _, rfl, W, st, hfp, (by show 0 < 2; decide), hw, hk, PySem.W.cmpIn_lt (A := A.in1) (s := { s with heap := s.heap.push { cls := .type "tuple", data := .seq #[u, v] } }) hr' ha (by show A.units + 1 + _ < _; exact hu), fun z s' hP m => ?_⟩
  obtain ⟨h', tk, rfl, hk'⟩ := PySem.W.moved_old e rfl m
  obtain ⟨bs, r, _, _, _⟩ := PySem.W.readsAll_atA hr' _ z hP
  have e2 := (PySem.W.argBest_fold PySem.W.dataLt PyData.none x [y] 1 (Nat.le_refl _)).2
  refine h z h' tk bs ?_ (PySem.W.reads_keeps hk' (by unfold PySem.W.minD; exact e2 ▸ r)) fun b o q => hk' b o (k0 b o q)
  have hm : z ∈ (#[u, v] : Array Value) := Array.mem_of_getElem? hP
  simpa using hm
def rMinT (K : PySem.W.Frag) : List V → Hp → VK → Prop := fun vs H Q => ∃ (u v : V) (Fz : Addr → Prop) (x y : PyData), vs = [u, v] ∧ Rp K Fz H u x ∧ Rp K Fz H v y ∧ alikeB [x, y] = true ∧ ∀ z, Rp K Fz H z (PySem.W.minD x [y]) → Q z H
theorem cr_minT (hc : X.calm = true) (hu : X.A.units + 105 < cLine) : CallR X (.builtin "min") (rMinT X.K) := by
  intro pins s σ H xs us Q I r h
  obtain ⟨u, v, Fz, x, y, rfl, hx, hy, hk, q⟩ := h
  match us, r with
  | [u', v'], .cons ru (.cons rv .nil) =>
    have ra : RpAll X.K Fz H [u, v] [x, y] := .cons hx (.cons hy .nil)
    obtain ⟨as, rd⟩ := Dp.readsAll I [x, y] [u, v] [u', v'] ra.dp (.cons ru (.cons rv .nil))
    obtain ⟨k1, k2⟩ := alikeB_ok hk
    refine min_two_data (I.ok.hd hc) rd k1 (by omega) fun z h' tk bs hz hrd hkp => ?_
    have hz' : ∃ i : Nat, [u', v'][i]? = some z := by
      rcases hz with rfl | rfl
      · exact ⟨0, rfl⟩
      · exact ⟨1, rfl⟩
    obtain ⟨i, hi⟩ := hz'
    obtain ⟨w, r1, r2⟩ := rp_of_reads I ra (.cons ru (.cons rv .nil)) hi hkp hrd
    exact ⟨w, H, I.kept hkp, r1, q w r2⟩
def minT2 : PyData → PyData → Option W
  | .int i, .int j => some (.d (.int (min i j)))
  | .tuple a, .tuple b => if alikeB [.tuple a, .tuple b] = true then some (.d (PySem.W.minD (.tuple a) [.tuple b])) else none
  | _, _ => none
theorem cr_minB (hc : X.calm = true) (hu : X.A.units + 105 < cLine) : CallR X (.builtin "min") (fun xs H Q => (rBest X.K PySem.W.minD xs H Q ∨ rMin2 xs H Q) ∨ rMinT X.K xs H Q) := (cr_minA hc hu).or (cr_minT hc hu)
theorem ok_minB {K : PySem.W.Frag} : CallOk K (fun xs H Q => (rBest K PySem.W.minD xs H Q ∨ rMin2 xs H Q) ∨ rMinT K xs H Q) (g12 minD1 minT2) := by
  refine ⟨?_⟩
  intro B Fz H σ m vs xs w Q hr hp e q
  match xs, hp, e with
  | [x], hp, e => exact .inl (ok_minA.run (xs := [x]) hr hp e q)
  | [x, y], hp, e =>
    have e2 : minT2 x y = some w := e
    unfold minT2 at e2
    split at e2
    · rename_i i j
      exact .inl (ok_minA.run (xs := [.int i, .int j]) hr hp e2 q)
    · rename_i a b
      split at e2
      · rename_i hk
        cases e2
        obtain ⟨v, u, rfl, hv, hu⟩ := pair2 hp
        exact .inr ⟨v, u, Fz, _, _, rfl, hv.tupR, hu.tupR, hk, fun z r => q z H (hr.push r)⟩
      · cases e2
    · cases e2
  | [], _, e => cases e
  | _ :: _ :: _ :: _, _, e => cases e

/-! ### name[i], name = e -/
def putParK (i j : Nat) (g : Ms → Rz PyData) (z : PyData) (m : Ms) : Fl := match z with
  | .tuple [x, y] => (match lAt i m with
    | some ys => (match g m with
      | .st => .st
      | .ex c => .ex c m
      | .ok (.int n) => (match ixN ys.length n with
        | some n' => if j < m.length then .nx ((m.set i (some (.l (ys.set n' x)))).set j (some (.d y))) else .st
        | none => .st)
      | .ok _ => .st)
    | none => .st)
  | _ => .st
def sPutPar (i j : Nat) (g f : Ms → Rz PyData) : Ms → Fl := flE f fun z m => putParK i j g z m
theorem putPar_inv {i j : Nat} {g : Ms → Rz PyData} {z : PyData} {m : Ms} {r : Fl} (h : putParK i j g z m = r) (hr : r ≠ .st) : ∃ x y ys, z = .tuple [x, y] ∧ lAt i m = some ys ∧
    ((∃ c, g m = .ex c ∧ r = .ex c m) ∨ ∃ n n', g m = .ok (.int n) ∧ ixN ys.length n = some n' ∧ j < m.length ∧ r = .nx ((m.set i (some (.l (ys.set n' x)))).set j (some (.d y)))) := by
  unfold putParK at h
  split at h
  · rename_i x y
    split at h
    · rename_i ys e1
      split at h
      · exact absurd h.symm hr
      · rename_i c e2
        exact ⟨x, y, ys, rfl, e1, .inl ⟨c, e2, h.symm⟩⟩
      · rename_i n e2
        split at h
        · rename_i n' e3
          split at h
          · rename_i hl
            exact ⟨x, y, ys, rfl, e1, .inr ⟨n, n', e2, e3, hl, h.symm⟩⟩
          · exact absurd h.symm hr
        · exact absurd h.symm hr
      · exact absurd h.symm hr
    · exact absurd h.symm hr
  · exact absurd h.symm hr
theorem ds_putPar {y z : Str} {p3 p4 pt : Pos} {kt : Nat} {ix : Expr} {f g : Ms → Rz PyData} (i j : Nat) (hN : X.N.Nodup) (hf : DV X ct Wx e f) (hg : DV X ct Wx ix g) (hi : X.N[i]? = some y := by rfl) (hj : X.N[j]? = some z := by rfl)
    (hv : Vis X.env.scope y := by first | exact Or.inl rfl | exact Or.inr (Or.inl rfl) | exact Or.inr (Or.inr rfl)) (hd : (y == ("__debug__" : Str)) = false := by decide) (hcd : (y == ("__classdict__" : Str)) = false := by decide)
    (hx : Loc X.env.scope z := by first | exact Or.inl rfl | exact Or.inr rfl) (hl : X.fn z = true ∨ X.env.scope.names.lookup z = some .local := by first | exact .inl rfl | exact .inr rfl) (hc : X.calm = true := by rfl)
    (ha : ∀ v, assign (.Subscript (.Name y p2) ix p3) X.env v = (do
      let ov ← holding [v] (eval (.Name y p2) X.env); let iv ← holding [v, ov] (eval ix X.env)
      standAt p3; holding [v, ov, iv] (setItem ov iv v); release [v, ov, iv] []) := by intro _; rfl)
    (h2 : (assignEach [.Subscript (.Name y p2) ix p3, .Name z p4] X.env).map (·.2) = assign (.Subscript (.Name y p2) ix p3) X.env :: (assignEach [.Name z p4] X.env).map (·.2) := by rfl)
    (h3 : (assignEach [.Name z p4] X.env).map (·.2) = assign (.Name z p4) X.env :: (assignEach [] X.env).map (·.2) := by rfl)
    (hn : (assignEach [.Subscript (.Name y p2) ix p3, .Name z p4] X.env).length = 2 := by rfl) (hst : (assignEach [.Subscript (.Name y p2) ix p3, .Name z p4] X.env).findIdx? (·.1) = none := by rfl)
    (hs : swapsWithSole [.Tuple [.Subscript (.Name y p2) ix p3, .Name z p4] kt pt] e pos.line X.env = pure false := by rfl) (hw : swappedStores [.Tuple [.Subscript (.Name y p2) ix p3, .Name z p4] kt pt] e X.env = pure none := by rfl)
    (h1 : (assignEach [.Tuple [.Subscript (.Name y p2) ix p3, .Name z p4] kt pt] X.env).map (·.2) = [assign (.Tuple [.Subscript (.Name y p2) ix p3, .Name z p4] kt pt) X.env] := by rfl) :
    DS X ct Wx (.Assign [.Tuple [.Subscript (.Name y p2) ix p3, .Name z p4] kt pt] e pos) (sPutPar i j g f) :=
  ds_of (ps_asg hf.pe (pg_tup hc (pgs_cons (pg_sub (pe_var hi hv hd hcd) hg.pe set_list ha) (pgs_cons (pg_name hN hj hx hl) pgs_nil h3) h2) hn hst) hs hw h1) fun D σ H B Fz m h q => by
    refine tV_end h q fun z v H1 F1 _ x1 r1 p1 q => ?_
    obtain ⟨r, hr⟩ : ∃ r, putParK i j g z m = r := ⟨_, rfl⟩
    rw [hr] at q
    obtain ⟨x, y, ys, rfl, e1, hk⟩ := putPar_inv hr (fun z => by subst z; exact q)
    obtain ⟨a, vs, rfl, s1, ra⟩ := p1.tupE
    obtain ⟨u, t, rfl, ru, rt⟩ := ra.two
    obtain ⟨b, ws, g1, g2, g3, _⟩ := r1.getL (lAt_some e1)
    refine ⟨a, [u, t], rfl, s1, rfl, u, [t], rfl, _, g1, tV_then r1 ?_⟩
    rcases hk with ⟨c, e2, rfl⟩ | ⟨n, n', e2, e3, hl, rfl⟩
    · rw [e2]
      exact fun H' F' x r => q σ H' F' x r
    · rw [e2]
      intro kv H2 F2 x2 r2 l2 p2
      obtain ⟨b', ws', k1, k2, k3, k4⟩ := r2.write i (lAt_some e1)
      obtain ⟨b2, w2, n1, n2, _, _, n5⟩ := r2.getL (lAt_some e1)
      rw [g1] at k1 n1
      cases k1
      cases n1
      cases p2
      have r3 := k4 _ _ (RpAll.set (ru.mono l2) n' k3)
      have l3 : Le F2 H2 F2 (upd H2 b (.lst (ws'.set n' u))) := le_ownG n2 (fun z => z) n5
      exact ⟨b, ws', n, n', rfl, rfl, k2, by rw [k3.length]; exact e3, t, [], rfl, rfl, q _ _ F2 x2 ((r3.push ((rt.mono l2).mono l3)).put j (by simpa using hl))⟩
@[simp] theorem sPutPar_s {n j : Nat} {g f : Ms → Rz PyData} {m : Ms} : sPutPar n j g f m = match f m with | .st => .st | .ex c => .ex c m | .ok z => putParK n j g z m := by
  simp only [sPutPar, flE] <;> cases f m <;> rfl
theorem putParK_s {n j : Nat} {g : Ms → Rz PyData} {m : Ms} {x y : PyData} {ys : List PyData} {i : Int} {i' : Nat} (h1 : lAt n m = some ys) (h2 : g m = .ok (.int i)) (h3 : ixN ys.length i = some i') (h4 : j < m.length) :
    putParK n j g (.tuple [x, y]) m = .nx ((m.set n (some (.l (ys.set i' x)))).set j (some (.d y))) := by
  simp only [putParK, h1, h2, h3, h4, if_true]
end
end Dl
set_option Elab.async false
set_option linter.all false
set_option maxRecDepth 100000
/-! D34: words for reckoning with the mirror; loops; pairs of a number and a row; tables of least values. -/
namespace Dl
open PySem PySem.Spec PyProof.Rows L2
section
variable {X : Cx} {ct : CT} {Wx : WX} {p pos : Pos} {x : Str}
/-- f() -/
theorem pe_callS0 {CX : CXT} {k : Nat} {f : Addr} {fd : FuncData} {ps : List Str} {sp : Sp} {E : L2.St → XK} (F : FnOk X.prog X.w X.K X.mg X.base CX k f fd ps sp) (hr : Room k X.A) (hg : Gl X x) (hm : X.mg x = some (.ref f)) (hk : PySem.W.keepIn X.K (.ref f) = true) (hb : Binds X.K fd ps []) (hx : ∀ σ, PassesAt CX X σ (E σ))
    (hdb : (x == ("__debug__" : Str)) = false) : PE X (.Call (.Name x p) [] [] pos) (fun σ H Q => sp [] H Q (E σ)) :=
  ⟨fun pins s σ H Q I h => wpAny_Call_Name_kw (ld_glob I hg hm (PySem.W.callWith_K0 I.kIn hk (run_fnS (us := []) F hr hb (hx σ) I .nil h)) hdb)⟩
theorem dv_call0 {k j : Nat} {F : Ms → Rz PyData} (c : CallW X.prog X.w X.K X.mg X.base ct k x 0 F) (hr : Room j X.A) (hk : k ≤ j) (tk : Takes X Wx) (hg : Gl X x := by rfl) (hdb : (x == ("__debug__" : Str)) = false := by decide) :
    DV X ct Wx (.Call (.Name x p) [] [] pos) (vFn F []) := by
  obtain ⟨f, fd, ps, hf, hm, hkp, hb⟩ := c.ex
  refine ⟨PE_imp (pe_callS0 hf (hr.mono hk) hg hm hkp hb (fun σ => passAt tk σ) hdb) fun σ H Q ⟨B, Fz, m, r, q⟩ => ?_⟩
  refine fn_end (B := B) (m := m) rfl r (RL.ofAll .nil) ?_
  have e0 : vFn F [] m = F [] := rfl
  rw [e0] at q
  show match F [] with
    | .st => False
    | .ok a => ∀ v H' Fz', Ext B Fz Fz' → Rs X.K B Fz' H' σ m → Rp X.K Fz' H' v a → Q v H'
    | .ex c => ∀ H' Fz', Ext B Fz Fz' → Rs X.K B Fz' H' σ m → Wx (ct c) Option.none σ H'
  cases hF : F [] with
  | st => rw [hF] at q; exact q
  | ok y => rw [hF] at q; exact fun v H' F' x r p => q v H' F' x ⟨r, p⟩
  | ex c => rw [hF] at q; exact q
end
theorem ms_get1 (a : Option W) (l : Ms) (n : Nat) : (a :: l)[n + 1]? = l[n]? := rfl
theorem ms_get0 (a : Option W) (l : Ms) : (a :: l)[0]? = some a := rfl
theorem ms_set1 (a b : Option W) (l : Ms) (n : Nat) : (a :: l).set (n + 1) b = a :: l.set n b := rfl
theorem ms_set0 (a b : Option W) (l : Ms) : (a :: l).set 0 b = b :: l := rfl
/-- the mirror's own steps, in one -/
theorem EV : (type_of% @ms_get1) ∧ (type_of% @ms_get0) ∧ (type_of% @ms_set1) ∧ (type_of% @ms_set0) ∧ (type_of% @Rz.bind_ok) ∧ (type_of% @Rz.bind_ex) ∧ (type_of% @Rz.map_ex) ∧ (type_of% @wipeM_cons) ∧ (type_of% @wipeM_nil) ∧ (type_of% @toV_s) ∧ (type_of% @ofV_s) ∧ (type_of% @vVar_s) ∧ (type_of% @rVar_s) ∧ (type_of% @vC_s) ∧ (type_of% @e2_s) ∧ (type_of% @e1_s) ∧ (type_of% @ofO_some') ∧ (type_of% @ofO_some) ∧ (type_of% @eCall_s) ∧ (type_of% @evalAll_nil) ∧ (type_of% @evalAll_cons) ∧ (type_of% @g1_s) ∧ (type_of% @g12_1) ∧ (type_of% @g12_2) ∧ (type_of% @boolD_s) ∧ (type_of% @vNot_s) ∧ (type_of% @vAnd_s) ∧ (type_of% @vOr_s) ∧ (type_of% @vIf_s) ∧ (type_of% @v2_s) ∧ (type_of% @t2_s) ∧ (type_of% @v3_s) ∧ (type_of% @t3_s) ∧ (type_of% @tNot_s) ∧ (type_of% @tAnd_s) ∧ (type_of% @tOr_s) ∧ (type_of% @tV_s) ∧ (type_of% @vIsi_s) ∧ (type_of% @eTup_s) ∧ (type_of% @eLst_s) ∧ (type_of% @eSl_s) ∧ (type_of% @oNone_s) ∧ (type_of% @oSome_s) ∧ (type_of% @intD_s) ∧ (type_of% @slD_l) ∧ (type_of% @slD_t) ∧ (type_of% @eRev_s) ∧ (type_of% @revD_l) ∧ (type_of% @revD_t) ∧ (type_of% @iSeq_s) ∧ (type_of% @itemsOf_l) ∧ (type_of% @itemsOf_t) ∧ (type_of% @iArg_s) ∧ (type_of% @enumD_l) ∧ (type_of% @enumD_t) ∧ (type_of% @lenD_l) ∧ (type_of% @lenD_t) ∧ (type_of% @isInt_i) ∧ (type_of% @isInt_b) ∧ (type_of% @isInt_n) ∧ (type_of% @isInt_s) ∧ (type_of% @isInt_l) ∧ (type_of% @isInt_t) ∧ (type_of% @isBool_i) ∧ (type_of% @isBool_b) ∧ (type_of% @isTup_i) ∧ (type_of% @isTup_b) ∧ (type_of% @isTup_n) ∧ (type_of% @isTup_s) ∧ (type_of% @isTup_l) ∧ (type_of% @isTup_t) ∧ (type_of% @tupleD_l) ∧ (type_of% @tupleD_t) ∧ (type_of% @listD_l) ∧ (type_of% @listD_t) ∧ (type_of% @toIntD_i) ∧ (type_of% @neg_i) ∧ (type_of% @add_i) ∧ (type_of% @sub_i) ∧ (type_of% @lt_i) ∧ (type_of% @gt_i) ∧ (type_of% @le_i) ∧ (type_of% @ge_i) ∧ (type_of% @eq_i) ∧ (type_of% @ne_i) ∧ (type_of% @eq_b) ∧ (type_of% @ne_b) ∧ (type_of% @ix_t) ∧ (type_of% @ix_l) ∧ (type_of% @isN_n) ∧ (type_of% @vFn_s) ∧ (type_of% @rz_map_ok) ∧ (type_of% @sNil_s) ∧ (type_of% @sSet_s) ∧ (type_of% @sRet_s) ∧ (type_of% @sExpr_s) ∧ (type_of% @sRaise_s) ∧ (type_of% @sAsg_s) ∧ (type_of% @gSet_s) ∧ (type_of% @gCons_s) ∧ (type_of% @gNil_s) ∧ (type_of% @gTup_s) ∧ (type_of% @sApp_s) ∧ (type_of% @sPost_s) ∧ (type_of% @sGive_s) ∧ (type_of% @sAug_s) ∧ (type_of% @sLaug_s) ∧ (type_of% @sLput_s) ∧ (type_of% @ipD_i) ∧ (type_of% @vDin_s) ∧ (type_of% @qVar_s) ∧ (type_of% @vFnM_s) ∧ (type_of% @sRetQ_s) ∧ (type_of% @qIx_s) ∧ (type_of% @eSsetG_s) :=
  ⟨@ms_get1, @ms_get0, @ms_set1, @ms_set0, @Rz.bind_ok, @Rz.bind_ex, @Rz.map_ex, @wipeM_cons, @wipeM_nil, @toV_s, @ofV_s, @vVar_s, @rVar_s, @vC_s, @e2_s, @e1_s, @ofO_some', @ofO_some, @eCall_s, @evalAll_nil, @evalAll_cons, @g1_s, @g12_1, @g12_2, @boolD_s, @vNot_s, @vAnd_s, @vOr_s, @vIf_s, @v2_s, @t2_s, @v3_s, @t3_s, @tNot_s, @tAnd_s, @tOr_s, @tV_s, @vIsi_s, @eTup_s, @eLst_s, @eSl_s, @oNone_s, @oSome_s, @intD_s, @slD_l, @slD_t, @eRev_s, @revD_l, @revD_t, @iSeq_s, @itemsOf_l, @itemsOf_t, @iArg_s, @enumD_l, @enumD_t, @lenD_l, @lenD_t, @isInt_i, @isInt_b, @isInt_n, @isInt_s, @isInt_l, @isInt_t, @isBool_i, @isBool_b, @isTup_i, @isTup_b, @isTup_n, @isTup_s, @isTup_l, @isTup_t, @tupleD_l, @tupleD_t, @listD_l, @listD_t, @toIntD_i, @neg_i, @add_i, @sub_i, @lt_i, @gt_i, @le_i, @ge_i, @eq_i, @ne_i, @eq_b, @ne_b, @ix_t, @ix_l, @isN_n, @vFn_s, @rz_map_ok, @sNil_s, @sSet_s, @sRet_s, @sExpr_s, @sRaise_s, @sAsg_s, @gSet_s, @gCons_s, @gNil_s, @gTup_s, @sApp_s, @sPost_s, @sGive_s, @sAug_s, @sLaug_s, @sLput_s, @ipD_i, @vDin_s, @qVar_s, @vFnM_s, @sRetQ_s, @qIx_s, @eSsetG_s⟩
theorem seq_go {s u : Ms → Fl} {m m' : Ms} {r : Fl} (h : s m = .nx m') (h2 : u m' = r) : sSeq s u m = r := (seq_nx h).trans h2
theorem seq_out {s u : Ms → Fl} {m : Ms} {r : Fl} (h : s m = r) (hr : ∀ m', r ≠ .nx m') : sSeq s u m = r := by
  subst h
  unfold sSeq
  cases h : s m with
  | nx m' => exact absurd h (hr m')
  | _ => rfl
theorem ifT_go {t : Ms → Rz Bool} {f g : Ms → Fl} {m : Ms} {r : Fl} (h : t m = .ok true) (h2 : f m = r) : sIf t f g m = r := (sIf_t h).trans h2
theorem ifF_go {t : Ms → Rz Bool} {f g : Ms → Fl} {m : Ms} {r : Fl} (h : t m = .ok false) (h2 : g m = r) : sIf t f g m = r := (sIf_f h).trans h2
theorem cut_go {vs : List Nat} {f : Ms → Fl} {m m' m2 : Ms} (h : f m = .nx m') (h2 : wipeM m' vs = m2) : sCut vs f m = .nx m2 := by rw [← h2]; exact cut_nx h
theorem cut_ct {vs : List Nat} {f : Ms → Fl} {m m' m2 : Ms} (h : f m = .ct m') (h2 : wipeM m' vs = m2) : sCut vs f m = .ct m2 := by rw [← h2]; unfold sCut; rw [h]
theorem cut_out {vs : List Nat} {f : Ms → Fl} {m : Ms} {r : Fl} (h : f m = r) (hr : (∃ x, r = .rt x) ∨ ∃ c m', r = .ex c m') : sCut vs f m = r := by
  unfold sCut
  rcases hr with ⟨x, rfl⟩ | ⟨c, m', rfl⟩ <;> rw [h]
theorem for_go {k : Ms → Rz (List PyData)} {l : PyData → Ms → Option Ms} {b : Ms → Fl} {m : Ms} {xs : List PyData} {r : Fl} (h : k m = .ok xs) (h2 : goFor l b xs m = r) : sFor k l b m = r := by rw [sFor_s, h]; exact h2
theorem pre_go {vs : List Nat} {f : Ms → Fl} {m m2 : Ms} {r : Fl} (h : wipeM m vs = m2) (h2 : f m2 = r) : sPre vs f m = r := by rw [sPre_s, h]; exact h2
/-! ### loops -/
/-- each turn goes on; what was walked is known -/
theorem goFor_pre {α : Type} {s : PyData → Ms → Option Ms} {b : Ms → Fl} (ex : α → PyData) (P : List α → Ms → Prop) : ∀ (ys pre : List α) (m : Ms), P pre m →
    (∀ l y r m, pre ++ ys = l ++ y :: r → P l m → ∃ m1, s (ex y) m = some m1 ∧ ∃ m2, (b m1 = .nx m2 ∨ b m1 = .ct m2) ∧ P (l ++ [y]) m2) → ∃ m', goFor s b (ys.map ex) m = .nx m' ∧ P (pre ++ ys) m'
  | [], pre, m, h, _ => ⟨m, rfl, by rw [List.append_nil]; exact h⟩
  | y :: ys, pre, m, h, st => by
    obtain ⟨m1, h1, m2, h2, h3⟩ := st pre y ys m rfl h
    obtain ⟨m', h4, h5⟩ := goFor_pre ex P ys (pre ++ [y]) m2 h3 fun l z r m e hp => st l z r m (by rw [← e]; simp) hp
    refine ⟨m', ?_, by simpa using h5⟩
    rw [List.map_cons]
    unfold goFor
    rw [h1]
    rcases h2 with h2 | h2
    · dsimp only; rw [h2]; exact h4
    · dsimp only; rw [h2]; exact h4
theorem for_pre {α : Type} {s : PyData → Ms → Option Ms} {b : Ms → Fl} (ex : α → PyData) (P : List α → Ms → Prop) (ys : List α) {xs : List PyData} {m : Ms} (hx : xs = ys.map ex) (h0 : P [] m)
    (st : ∀ l y r m, ys = l ++ y :: r → P l m → ∃ m1, s (ex y) m = some m1 ∧ ∃ m2, (b m1 = .nx m2 ∨ b m1 = .ct m2) ∧ P (l ++ [y]) m2) : ∃ m', goFor s b xs m = .nx m' ∧ P ys m' := by
  subst hx
  exact goFor_pre ex P ys [] m h0 st
/-- a fold -/
theorem for_fold {α σ : Type} {s : PyData → Ms → Option Ms} {b : Ms → Fl} (ex : α → PyData) (S : σ → Ms) (f : σ → α → σ) (Q : σ → Prop) : ∀ (ys : List α) {st : σ}, Q st →
    (∀ y ∈ ys, ∀ st, Q st → ∃ m1, s (ex y) (S st) = some m1 ∧ b m1 = .nx (S (f st y)) ∧ Q (f st y)) → goFor s b (ys.map ex) (S st) = .nx (S (ys.foldl f st)) ∧ Q (ys.foldl f st)
  | [], st, h, _ => ⟨rfl, h⟩
  | y :: ys, st, h, hs => by
    obtain ⟨m1, h1, h2, h3⟩ := hs y (by simp) st h
    have ih := for_fold ex S f Q ys h3 fun z hz => hs z (List.mem_cons_of_mem _ hz)
    refine ⟨?_, ih.2⟩
    rw [List.map_cons]
    unfold goFor
    rw [h1]
    dsimp only
    rw [h2]
    exact ih.1
/-- all turns pass, or the first that does not returns -/
theorem for_all {α : Type} {s : PyData → Ms → Option Ms} {b : Ms → Fl} {m : Ms} (ex : α → PyData) (p : α → Bool) (o : α → PyData) : ∀ (ys : List α),
    (∀ y ∈ ys, ∃ m1, s (ex y) m = some m1 ∧ b m1 = if p y = true then .nx m else .rt (o y)) → goFor s b (ys.map ex) m = match ys.find? (fun y => !p y) with | none => .nx m | some y => .rt (o y)
  | [], _ => rfl
  | y :: ys, hs => by
    obtain ⟨m1, h1, h2⟩ := hs y (by simp)
    have ih := for_all ex p o ys fun z hz => hs z (List.mem_cons_of_mem _ hz)
    rw [List.map_cons]
    unfold goFor
    rw [h1]
    dsimp only
    rw [h2, List.find?_cons]
    cases p y with
    | true => exact ih
    | false => rfl
theorem rng_map {n : Nat} (h : n ≤ 1000000) : rng1 [.int (n : Nat)] = .ok ((List.range n).map fun (i : Nat) => PyData.int (i : Nat)) := by
  have e : rngL 0 n = (List.range n).map fun (i : Nat) => PyData.int (i : Nat) := by
    unfold rngL
    refine List.map_congr_left fun i _ => ?_
    simp
  rw [← e]
  show (if rngOk 0 (n : Nat) = true then _ else _) = _
  rw [if_pos (rngOk_iff.mpr (by constructor <;> omega))]
  simp
end Dl
set_option Elab.async false
set_option linter.all false
set_option maxRecDepth 100000
/-! D35: ranges; pairs of a number and a row; dicts as lists of pairs; tables of least values. -/
namespace Dl
open PySem PySem.Spec PyProof.Rows L2
theorem rng_mapI {i : Int} (h : i ≤ 1000000) (h0 : -1000000 ≤ i) : rng1 [.int i] = .ok ((List.range i.toNat).map fun (i : Nat) => PyData.int (i : Nat)) := by
  have e : rngL 0 i.toNat = (List.range i.toNat).map fun (i : Nat) => PyData.int (i : Nat) := by
    unfold rngL
    refine List.map_congr_left fun i _ => ?_
    simp
  rw [← e]
  show (if rngOk 0 i = true then _ else _) = _
  rw [if_pos (rngOk_iff.mpr (by omega))]
theorem rng2_mapI {a b : Int} (h : b ≤ 1000000) (h0 : -1000000 ≤ a) (h1 : a ≤ 1000000) (h2 : -1000000 ≤ b) : rng2 [.int a, .int b] = .ok ((List.range (b - a).toNat).map fun (i : Nat) => PyData.int (a + (i : Nat))) := by
  show (if rngOk a b = true then _ else _) = _
  rw [if_pos (rngOk_iff.mpr (by omega))]
  rfl
/-! ### pairs of a number and a row -/
abbrev Pr := Int × List Int
def Pr.k (p : Pr) : List Int := p.1 :: p.2
def prT (p : Pr) : PyData := .tuple [.int p.1, rowT p.2]
theorem dataLt_pr (p q : Pr) : PySem.W.dataLt (prT p) (prT q) = decide (p.k < q.k) := by
  obtain ⟨a, r⟩ := p
  obtain ⟨b, t⟩ := q
  have h : PySem.W.dataLt (rowT r) (rowT t) = decide (r < t) := by
    unfold rowT
    rw [PySem.W.dataLt_tuple]
    exact PySem.W.dataLt_ints r t
  show PySem.W.dataLt (.tuple [.int a, rowT r]) (.tuple [.int b, rowT t]) = decide (a :: r < b :: t)
  rw [PySem.W.dataLt_pair (by simp [PySem.W.alike]) (alike_rowT r t), PySem.W.dataLt_int, h]
  have e : PyData.eqv (rowT r) (rowT t) = decide (r = t) := by
    unfold rowT
    simp only [PyData.eqv]
    exact eqv_ints r t
  rw [e]
  simp only [PyData.eqv, beq_iff_eq, decide_eq_true_eq]
  have e3 : decide (a :: r < b :: t) = decide (a < b ∨ a = b ∧ r < t) := decide_eq_decide.mpr List.cons_lt_cons_iff
  rw [e3]
  by_cases h1 : a = b
  · subst h1
    by_cases h2 : r = t
    · subst h2; simp [List.lt_irrefl]
    · simp [h2]
  · simp [h1]
theorem alike_pr (p q : Pr) : PySem.W.alike (prT p) (prT q) = true := by
  unfold prT
  simp [PySem.W.alike, PySem.W.alikeAll, alike_rowT]
theorem depth_pr (p : Pr) : (prT p).depth ≤ 2 := by
  have h := PySem.W.depth_ints p.2
  unfold prT rowT
  simp only [PyData.depth, PyData.depthAll, h]
  omega
theorem depth_prs : ∀ L : List Pr, PyData.depthAll (L.map prT) ≤ 2
  | [] => by simp [PyData.depthAll]
  | p :: L => by
    rw [List.map_cons, PyData.depthAll]
    have h1 := depth_pr p
    have h2 := depth_prs L
    omega
theorem intsOf_pr (p : Pr) (L : List Pr) : intsOf ((p :: L).map prT) = none := rfl
theorem alikeB_prs (p : Pr) (L : List Pr) : alikeB ((p :: L).map prT) = true := by
  unfold alikeB
  rw [intsOf_pr]
  have h := depth_prs (p :: L)
  simp only [Bool.and_eq_true, List.all_eq_true, decide_eq_true_eq, List.mem_map]
  refine ⟨⟨?_, ?_⟩, by omega⟩
  · rintro x ⟨a, _, rfl⟩ y ⟨b, _, rfl⟩
    exact alike_pr a b
  · rintro x ⟨a, _, rfl⟩
    rfl
def minP (p : Pr) (L : List Pr) : Pr := L.foldl (fun a y => if y.k < a.k then y else a) p
theorem minD_prs : ∀ (L : List Pr) (p : Pr), PySem.W.minD (prT p) (L.map prT) = prT (minP p L)
  | [], p => rfl
  | q :: L, p => by
    have ih := minD_prs L (if q.k < p.k then q else p)
    unfold PySem.W.minD minP at ih ⊢
    rw [List.map_cons, List.foldl_cons, List.foldl_cons, ← ih, dataLt_pr]
    by_cases h : q.k < p.k <;> simp [h]
theorem lt_tri {r t : List Int} (h : ¬ r < t) (h2 : ¬ t < r) : r = t := List.le_antisymm h2 h
theorem le_tr {r t u : List Int} (h : ¬ t < r) (h2 : ¬ u < t) : ¬ u < r := List.le_trans (l₁ := r) (l₂ := t) (l₃ := u) h h2
theorem Pr.k_inj {p q : Pr} (h : p.k = q.k) : p = q := by
  obtain ⟨a, r⟩ := p
  obtain ⟨b, t⟩ := q
  unfold Pr.k at h
  cases h
  rfl
/-- the least -/
structure Least (L : List Pr) (p : Pr) : Prop where
  mem : p ∈ L
  le : ∀ q ∈ L, ¬ q.k < p.k
theorem Least.uniq {L M : List Pr} {p q : Pr} (h : Least L p) (h2 : Least M q) (s1 : p ∈ M) (s2 : q ∈ L) : p = q := Pr.k_inj (lt_tri (h2.le p s1) (h.le q s2))
theorem minP_least : ∀ (L : List Pr) (p : Pr), Least (p :: L) (minP p L)
  | [], p => ⟨by simp [minP], fun q hq => by rw [List.mem_singleton.mp hq]; exact List.lt_irrefl _⟩
  | q :: L, p => by
    have e : minP p (q :: L) = minP (if q.k < p.k then q else p) L := rfl
    rw [e]
    have ih := minP_least L (if q.k < p.k then q else p)
    refine ⟨?_, fun x hx => ?_⟩
    · rcases List.mem_cons.mp ih.mem with h | h
      · rw [h]; split <;> simp
      · exact List.mem_cons_of_mem _ (List.mem_cons_of_mem _ h)
    · have h0 := ih.le _ (List.mem_cons_self ..)
      rcases List.mem_cons.mp hx with rfl | hx
      · by_cases h : q.k < x.k
        · rw [if_pos h] at h0 ih ⊢
          exact le_tr h0 (List.lt_asymm h)
        · rw [if_neg h] at h0 ⊢; exact h0
      · rcases List.mem_cons.mp hx with rfl | hx
        · by_cases h : x.k < p.k
          · rw [if_pos h] at h0 ⊢; exact h0
          · rw [if_neg h] at h0 ⊢; exact le_tr h0 h
        · exact ih.le x (List.mem_cons_of_mem _ hx)
theorem minT2_pr (p q : Pr) : minT2 (prT p) (prT q) = some (.d (prT (if q.k < p.k then q else p))) := by
  have h : alikeB [prT p, prT q] = true := alikeB_prs p [q]
  show (if alikeB [prT p, prT q] = true then some (W.d (PySem.W.minD (prT p) [prT q])) else none) = _
  rw [if_pos h, show [prT q] = [q].map prT from rfl, minD_prs]
  rfl
theorem minD1_prs (p : Pr) (L : List Pr) {x : PyData} (h : itemsD x = some ((p :: L).map prT)) : minD1 x = some (.d (prT (minP p L))) := by
  unfold minD1
  rw [h, Option.bind_some, List.map_cons]
  dsimp only
  rw [if_pos (by simpa using alikeB_prs p L), minD_prs]
/-! ### dicts as lists of pairs -/
section
variable {κ ν : Type} [DecidableEq κ]
def alook (T : List (κ × ν)) (k : κ) : Option ν := (T.find? fun p => decide (p.1 = k)).map (·.2)
def aset (T : List (κ × ν)) (k : κ) (v : ν) : List (κ × ν) := if (T.any fun p => decide (p.1 = k)) = true then T.map (fun p => if p.1 = k then (p.1, v) else p) else T ++ [(k, v)]
theorem alook_none {T : List (κ × ν)} {k : κ} : alook T k = none ↔ k ∉ T.map (·.1) := by
  unfold alook
  rw [Option.map_eq_none_iff, List.find?_eq_none]
  simp only [decide_eq_true_eq, List.mem_map, not_exists, not_and]
theorem alook_mem {T : List (κ × ν)} {k : κ} {v : ν} (h : alook T k = some v) : (k, v) ∈ T := by
  unfold alook at h
  obtain ⟨p, hp, rfl⟩ := Option.map_eq_some_iff.mp h
  have h1 := List.find?_some hp
  have h2 := List.mem_of_find?_eq_some hp
  have e : p.1 = k := by simpa using h1
  subst e
  exact h2
theorem alook_of {T : List (κ × ν)} {k : κ} {v : ν} (nd : (T.map (·.1)).Nodup) (h : (k, v) ∈ T) : alook T k = some v := by
  cases e : alook T k with
  | none => exact absurd (List.mem_map.mpr ⟨_, h, rfl⟩) (alook_none.mp e)
  | some u =>
    have h2 := alook_mem e
    have : ∀ T : List (κ × ν), (T.map (·.1)).Nodup → (k, v) ∈ T → (k, u) ∈ T → u = v := fun T => by
      induction T with
      | nil => intro _ h _; cases h
      | cons p T ih =>
        intro nd h1 h2
        rw [List.map_cons, List.nodup_cons] at nd
        rcases List.mem_cons.mp h1 with e1 | e1
        · rcases List.mem_cons.mp h2 with e2 | e2
          · rw [← e1] at e2; cases e2; rfl
          · exact absurd (List.mem_map.mpr ⟨_, e2, by rw [← e1]⟩) nd.1
        · rcases List.mem_cons.mp h2 with e2 | e2
          · exact absurd (List.mem_map.mpr ⟨_, e1, by rw [← e2]⟩) nd.1
          · exact ih nd.2 e1 e2
    rw [this T nd h h2]
theorem aset_keys {T : List (κ × ν)} {k : κ} {v : ν} : (aset T k v).map (·.1) = if k ∈ T.map (·.1) then T.map (·.1) else T.map (·.1) ++ [k] := by
  unfold aset
  have e : ((T.any fun p => decide (p.1 = k)) = true) ↔ k ∈ T.map (·.1) := by simp
  by_cases h : k ∈ T.map (·.1)
  · rw [if_pos (e.mpr h), if_pos h, List.map_map]
    refine List.map_congr_left fun p _ => ?_
    by_cases hp : p.1 = k <;> simp [hp]
  · rw [if_neg (fun z => h (e.mp z)), if_neg h]
    simp
theorem aset_nd {T : List (κ × ν)} {k : κ} {v : ν} (nd : (T.map (·.1)).Nodup) : ((aset T k v).map (·.1)).Nodup := by
  rw [aset_keys]
  split
  · exact nd
  · rename_i h
    rw [List.nodup_append]
    exact ⟨nd, by simp, fun a ha b hb e => by rw [List.mem_singleton.mp hb] at e; subst e; exact h ha⟩
theorem aset_mem {T : List (κ × ν)} {k : κ} {v : ν} {p : κ × ν} (h : p ∈ aset T k v) : p = (k, v) ∨ (p ∈ T ∧ p.1 ≠ k) := by
  unfold aset at h
  split at h
  · obtain ⟨q, hq, rfl⟩ := List.mem_map.mp h
    by_cases hk : q.1 = k
    · rw [if_pos hk]; left; rw [hk]
    · rw [if_neg hk]; exact .inr ⟨hq, hk⟩
  · rename_i hn
    rcases List.mem_append.mp h with h | h
    · refine .inr ⟨h, fun e => hn ?_⟩
      rw [List.any_eq_true]
      exact ⟨p, h, decide_eq_true e⟩
    · exact .inl (List.mem_singleton.mp h)
theorem aset_self {T : List (κ × ν)} {k : κ} {v : ν} : (k, v) ∈ aset T k v := by
  unfold aset
  split
  · rename_i h
    obtain ⟨p, hp, e⟩ := List.any_eq_true.mp h
    have e : p.1 = k := by simpa using e
    exact List.mem_map.mpr ⟨p, hp, by rw [if_pos e, e]⟩
  · simp
theorem aset_keep {T : List (κ × ν)} {k : κ} {v : ν} {p : κ × ν} (h : p ∈ T) (hk : p.1 ≠ k) : p ∈ aset T k v := by
  unfold aset
  split
  · exact List.mem_map.mpr ⟨p, h, by rw [if_neg hk]⟩
  · exact List.mem_append_left _ h
theorem aset_len {T : List (κ × ν)} {k : κ} {v : ν} : (aset T k v).length ≤ T.length + 1 := by
  unfold aset
  split <;> simp
/-- a dict in the mirror -/
def enc (kd : κ → PyData) (vd : ν → PyData) (T : List (κ × ν)) : List (PyData × PyData) := T.map fun p => (kd p.1, vd p.2)
theorem dfind_enc {μ : Type} [DecidableEq μ] {kO : PyData → Option μ} {kd : κ → PyData} {vd : ν → PyData} {kk : κ → μ} (h : ∀ k, kO (kd k) = some (kk k)) (inj : ∀ a b, kk a = kk b → a = b) (k : κ) : ∀ T : List (κ × ν), dfind kO (enc kd vd T) (kk k) = (alook T k).map vd
  | [] => rfl
  | p :: T => by
    have ih := dfind_enc (vd := vd) h inj k T
    unfold dfind alook enc at ih ⊢
    rw [List.map_cons, List.find?_cons, List.find?_cons]
    by_cases e : p.1 = k
    · have e2 : decide (kO (kd p.1) = some (kk k)) = true := by rw [e, h]; simp
      rw [e2, decide_eq_true e]
      rfl
    · have e2 : decide (kO (kd p.1) = some (kk k)) = false := by
        rw [h, decide_eq_false_iff_not]
        exact fun z => e (inj _ _ (Option.some.inj z))
      rw [e2, decide_eq_false e]
      exact ih
theorem dset_enc {μ : Type} [DecidableEq μ] {kO : PyData → Option μ} {kd : κ → PyData} {vd : ν → PyData} {kk : κ → μ} (h : ∀ k, kO (kd k) = some (kk k)) (inj : ∀ a b, kk a = kk b → a = b) (k : κ) (v : ν) (T : List (κ × ν)) : dset kO (enc kd vd T) (kk k) (kd k) (vd v) = enc kd vd (aset T k v) := by
  have e : ∀ p : κ × ν, (kO (kd p.1) = some (kk k)) ↔ p.1 = k := fun p => by
    rw [h]
    exact ⟨fun z => inj _ _ (Option.some.inj z), fun z => by rw [z]⟩
  unfold dset aset enc
  have e1 : ((T.map fun p => (kd p.1, vd p.2)).any fun p => decide (kO p.1 = some (kk k))) = T.any fun p => decide (p.1 = k) := by
    rw [List.any_map]
    congr 1
    funext p
    exact Bool.eq_iff_iff.mpr (by simp [e p])
  rw [e1]
  split
  · rw [List.map_map, List.map_map]
    refine List.map_congr_left fun p _ => ?_
    by_cases hp : p.1 = k
    · simp [hp, h]
    · have : ¬ kO (kd p.1) = some (kk k) := fun z => hp ((e p).mp z)
      simp [hp, this]
  · simp
end
theorem get_encI {ν : Type} {vd : ν → PyData} (T : List (Int × ν)) (k : Int) : dgetD false (enc .int vd T) (.int k) = some ((alook T k).map vd) := by
  show some (dfind keyOfD (enc .int vd T) (.inl k)) = _
  rw [dfind_enc (kO := keyOfD) (kd := PyData.int) (kk := fun k : Int => (.inl k : Key)) (fun k => rfl) (fun a b h => by cases h; rfl)]
theorem put_encI {ν : Type} {vd : ν → PyData} (T : List (Int × ν)) (k : Int) (v : ν) : dputD false (enc .int vd T) (.int k) (vd v) = some (enc .int vd (aset T k v)) := by
  show some (dset keyOfD (enc .int vd T) (.inl k) (.int k) (vd v)) = _
  rw [dset_enc (kO := keyOfD) (kd := PyData.int) (kk := fun k : Int => (.inl k : Key)) (fun k => rfl) (fun a b h => by cases h; rfl)]
theorem dAt_q {i : Nat} {m : Ms} {ν : Type} {vd : ν → PyData} {T : List (Int × ν)} (h : m[i]? = some (some (.q (.dict (enc .int vd T))))) (ne : T ≠ []) : dAt i m = some (false, enc .int vd T) := by
  unfold dAt
  rw [h]
  cases T with
  | nil => exact absurd rfl ne
  | cons p T => rfl
/-! ### a table of least values -/
/-- of all that was put, S, the least for each key -/
structure Tab {κ : Type} (T S : List (κ × Pr)) : Prop where
  nd : (T.map (·.1)).Nodup
  mem : ∀ p ∈ T, p ∈ S
  le : ∀ p ∈ S, ∃ q ∈ T, q.1 = p.1 ∧ ¬ p.2.k < q.2.k
def tput {κ : Type} [DecidableEq κ] (T : List (κ × Pr)) (k : κ) (v : Pr) : List (κ × Pr) := aset T k (if v.k < ((alook T k).getD v).k then v else (alook T k).getD v)
theorem Tab.nil {κ : Type} : Tab ([] : List (κ × Pr)) [] := ⟨by simp, fun _ h => h, fun _ h => by cases h⟩
theorem Tab.put {κ : Type} [DecidableEq κ] {T S : List (κ × Pr)} {k : κ} {v : Pr} (h : Tab T S) : Tab (tput T k v) (S ++ [(k, v)]) := by
  refine ⟨aset_nd h.nd, fun p hp => ?_, fun p hp => ?_⟩
  · rcases aset_mem hp with rfl | ⟨hp, _⟩
    · split
      · simp
      · cases e : alook T k with
        | none => simp
        | some u => exact List.mem_append_left _ (h.mem _ (alook_mem e))
    · exact List.mem_append_left _ (h.mem p hp)
  · have key : ∀ u : Pr, alook T k = some u → ¬ u.k < (if v.k < ((alook T k).getD v).k then v else (alook T k).getD v).k := fun u e => by
      rw [e]
      show ¬ u.k < (if v.k < u.k then v else u).k
      split
      · rename_i z; exact List.lt_asymm z
      · exact List.lt_irrefl _
    rcases List.mem_append.mp hp with hp | hp
    · obtain ⟨q, hq, e1, e2⟩ := h.le p hp
      by_cases hk : q.1 = k
      · refine ⟨_, aset_self, by rw [← hk, e1], ?_⟩
        have : alook T k = some q.2 := alook_of h.nd (by rw [← hk]; exact hq)
        exact le_tr (key _ this) e2
      · exact ⟨q, aset_keep hq hk, e1, e2⟩
    · rw [List.mem_singleton.mp hp]
      refine ⟨_, aset_self, rfl, ?_⟩
      show ¬ v.k < _
      split
      · exact List.lt_irrefl _
      · rename_i z; exact z
theorem Tab.look {κ : Type} [DecidableEq κ] {T S : List (κ × Pr)} (h : Tab T S) (k : κ) : (alook T k = none ∧ ∀ v, (k, v) ∉ S) ∨ ∃ v, alook T k = some v ∧ (k, v) ∈ S ∧ ∀ u, (k, u) ∈ S → ¬ u.k < v.k := by
  cases e : alook T k with
  | none =>
    refine .inl ⟨rfl, fun v hv => ?_⟩
    obtain ⟨q, hq, e1, _⟩ := h.le _ hv
    exact alook_none.mp e (List.mem_map.mpr ⟨q, hq, e1⟩)
  | some v =>
    refine .inr ⟨v, rfl, h.mem _ (alook_mem e), fun u hu => ?_⟩
    obtain ⟨q, hq, e1, e2⟩ := h.le _ hu
    have := alook_of h.nd (show (k, q.2) ∈ T by rw [← show q.1 = k from e1]; exact hq)
    rw [e] at this
    cases this
    exact e2
/-- what is put may be more, if nothing of it is less -/
theorem Tab.more {κ : Type} {T S S' : List (κ × Pr)} (h : Tab T S) (s : ∀ p ∈ S, p ∈ S') (l : ∀ p ∈ S', ∃ q ∈ S, q.1 = p.1 ∧ ¬ p.2.k < q.2.k) : Tab T S' :=
  ⟨h.nd, fun p hp => s p (h.mem p hp), fun p hp => by
    obtain ⟨q, hq, e1, e2⟩ := l p hp
    obtain ⟨r, hr, e3, e4⟩ := h.le q hq
    exact ⟨r, hr, e3.trans e1, le_tr e4 e2⟩⟩
/-- a number behind both -/
theorem snoc_lt : ∀ {r t : List Int} {c : Int}, r.length = t.length → (r ++ [c] < t ++ [c] ↔ r < t)
  | [], [], c, _ => by simp [List.lt_irrefl]
  | x :: r, y :: t, c, h => by
    have ih := snoc_lt (r := r) (t := t) (c := c) (by simpa using h)
    rw [List.cons_append, List.cons_append, List.cons_lt_cons_iff, List.cons_lt_cons_iff, ih]
theorem pr_snoc {p q : Pr} {c d : Int} (hl : p.2.length = q.2.length) (h : ¬ p.k < q.k) : ¬ (p.1 + d) :: (p.2 ++ [c]) < (q.1 + d) :: (q.2 ++ [c]) := by
  obtain ⟨a, r⟩ := p
  obtain ⟨b, t⟩ := q
  unfold Pr.k at h
  rw [List.cons_lt_cons_iff] at h ⊢
  rw [snoc_lt hl]
  dsimp only at h ⊢
  intro z
  apply h
  rcases z with z | ⟨z, z2⟩
  · left; omega
  · right; exact ⟨by omega, z2⟩
end Dl
set_option Elab.async false
set_option linter.all false
set_option maxRecDepth 100000
/-! D36: name, name, .. = e, e, .. with own lists and dicts among the values. -/
namespace Dl
open PySem PySem.Spec PyProof.Rows L2
def evalAllW : List (Ms → Rz W) → Ms → Rz (List W)
  | [], _ => .ok []
  | f :: fs, m => (f m).bind fun x => (evalAllW fs m).bind fun xs => .ok (x :: xs)
theorem evalAllW_len : ∀ {fs : List (Ms → Rz W)} {m : Ms} {ws : List W}, evalAllW fs m = .ok ws → ws.length = fs.length
  | [], m, ws, h => by cases h; rfl
  | f :: fs, m, ws, h => by
    unfold evalAllW at h
    cases hf : f m with
    | st => rw [hf] at h; cases h
    | ex c => rw [hf] at h; cases h
    | ok x =>
      rw [hf, Rz.bind_ok] at h
      cases hs : evalAllW fs m with
      | st => rw [hs] at h; cases h
      | ex c => rw [hs] at h; cases h
      | ok xs =>
        rw [hs] at h
        cases h
        rw [List.length_cons, List.length_cons, evalAllW_len hs]
def tAw (K : PySem.W.Frag) (ct : CT) (Wx : WX) (fs : List (Ms → Rz W)) : TA := fun σ H Q => ∃ B Fz m, Rs K B Fz H σ m ∧
  match evalAllW fs m with
  | .st => False
  | .ok ws => ∀ vs H' Fz', Ext B Fz Fz' → vs.length = ws.length → Rs K B Fz' H' (vs.reverse.map some ++ σ) (ws.reverse.map some ++ m) → Q vs H'
  | .ex c => ∀ H' Fz', Ext B Fz Fz' → Rs K B Fz' H' σ m → Wx (ct c) Option.none σ H'
structure DAw (X : Cx) (ct : CT) (Wx : WX) (es : List Expr) (fs : List (Ms → Rz W)) : Prop where
  pa : PA X es (tAw X.K ct Wx fs)
section
variable {X : Cx} {ct : CT} {Wx : WX} {e a b : Expr} {p p2 pos pos2 : Pos}
theorem daw_nil : DAw X ct Wx [] [] := ⟨PA_imp pa_nil fun σ H Q ⟨B, Fz, m, h, q⟩ => q [] H Fz .refl rfl (by simpa using h)⟩
theorem daw_cons {es : List Expr} {f : Ms → Rz W} {fs : List (Ms → Rz W)} (ha : DE X ct Wx e f) (hs : DAw X ct Wx es fs) (hst : starEach (e :: es) X.env = (false, eval e X.env) :: starEach es X.env := by rfl) : DAw X ct Wx (e :: es) (f :: fs) :=
  ⟨PA_imp (pa_cons ha.pe hs.pa hst) fun σ H Q ⟨B, Fz, m, h, q⟩ => by
    refine ⟨B, Fz, m, h, ?_⟩
    cases hf : f m with
    | st => simp only [evalAllW, hf, Rz.bind_st] at q
    | ex c => simp only [evalAllW, hf, Rz.bind_ex] at q; exact q
    | ok w =>
      intro v H1 F1 x1 r1
      have r1 : Rs X.K B F1 H1 ([some v] ++ σ) ([some w] ++ m) := r1
      simp only [evalAllW, hf, Rz.bind_ok] at q
      obtain ⟨B2, h1, h2, h3, h4⟩ := r1.hold rfl
      refine ⟨B2, F1, m, h1, ?_⟩
      cases hg : evalAllW fs m with
      | st => rw [hg] at q; exact q
      | ex c =>
        rw [hg] at q
        intro H2 F2 x2 r2
        have := (h4 (ρ := []) (r := []) x2 r2 rfl).1
        exact q H2 F2 (x1.trans (h3 _ x2)) this.pop
      | ok ws =>
        rw [hg] at q
        intro vs H2 F2 x2 hl r2
        refine q (v :: vs) H2 F2 (x1.trans (h3 _ x2)) (by rw [List.length_cons, List.length_cons, hl]) ?_
        have := (h4 (ρ := vs.reverse.map some) (r := ws.reverse.map some) x2 r2 (by simp [hl])).1
        rw [List.reverse_cons, List.reverse_cons, List.map_append, List.map_append, List.append_assoc, List.append_assoc]
        exact this⟩
/-- stored in order -/
def sets {α : Type} : List Nat → List α → List (Option α) → List (Option α)
  | i :: is, x :: xs, l => sets is xs (l.set i (some x))
  | _, _, l => l
theorem sets_len {α : Type} : ∀ (is : List Nat) (xs : List α) (l : List (Option α)), (sets is xs l).length = l.length
  | [], _, _ => rfl
  | _ :: _, [], _ => rfl
  | i :: is, x :: xs, l => by rw [sets, sets_len, List.length_set]
theorem sets_comm {α : Type} : ∀ (is : List Nat) (xs : List α) (l : List (Option α)) (i : Nat) (y : α), i ∉ is → sets is xs (l.set i (some y)) = (sets is xs l).set i (some y)
  | [], _, _, _, _, _ => rfl
  | _ :: _, [], _, _, _, _ => rfl
  | j :: is, x :: xs, l, i, y, h => by
    rw [sets, sets, List.set_comm _ _ (fun z => h (by rw [z]; simp)), sets_comm is xs _ i y fun z => h (List.mem_cons_of_mem _ z)]
theorem sets_snoc {α : Type} : ∀ (is : List Nat) (xs : List α) (l : List (Option α)) (i : Nat) (y : α), is.length = xs.length → sets (is ++ [i]) (xs ++ [y]) l = (sets is xs l).set i (some y)
  | [], [], _, _, _, _ => rfl
  | j :: is, x :: xs, l, i, y, h => by
    rw [List.cons_append, List.cons_append, sets, sets, sets_snoc is xs _ i y (by simpa using h)]
theorem Rs.sets {K : PySem.W.Frag} {B : Hp} {Fz : Addr → Prop} {H : Hp} : ∀ (n : Nat) (is : List Nat) (vs : List V) (ws : List W) (σ : L2.St) (m : Ms), is.length = n → vs.length = n → ws.length = n → is.Nodup → (∀ i ∈ is, i < m.length) →
    Rs K B Fz H (vs.reverse.map some ++ σ) (ws.reverse.map some ++ m) → Rs K B Fz H (Dl.sets is vs σ) (Dl.sets is ws m)
  | 0, is, vs, ws, σ, m, h1, h2, h3, _, _, r => by
    cases List.eq_nil_of_length_eq_zero h1
    cases List.eq_nil_of_length_eq_zero h2
    cases List.eq_nil_of_length_eq_zero h3
    exact r
  | n + 1, is, vs, ws, σ, m, h1, h2, h3, nd, hb, r => by
    obtain ⟨is, i, rfl⟩ : ∃ l x, is = l ++ [x] := ⟨is.dropLast, is.getLast (by intro z; rw [z] at h1; cases h1), (List.dropLast_concat_getLast _).symm⟩
    obtain ⟨vs, v, rfl⟩ : ∃ l x, vs = l ++ [x] := ⟨vs.dropLast, vs.getLast (by intro z; rw [z] at h2; cases h2), (List.dropLast_concat_getLast _).symm⟩
    obtain ⟨ws, w, rfl⟩ : ∃ l x, ws = l ++ [x] := ⟨ws.dropLast, ws.getLast (by intro z; rw [z] at h3; cases h3), (List.dropLast_concat_getLast _).symm⟩
    have h1 : is.length = n := by simpa using h1
    have h2 : vs.length = n := by simpa using h2
    have h3 : ws.length = n := by simpa using h3
    rw [List.nodup_append] at nd
    have ni : i ∉ is := fun z => nd.2.2 i z i (by simp) rfl
    rw [List.reverse_append, List.reverse_append, List.reverse_singleton, List.reverse_singleton, List.singleton_append, List.singleton_append, List.map_cons, List.map_cons, List.cons_append, List.cons_append] at r
    have hi := hb i (by simp)
    have q := r.put (n + i) (by simp [h3]; omega)
    rw [List.set_append_right _ _ (by simp; omega), List.set_append_right _ _ (by simp; omega)] at q
    rw [show n + i - (vs.reverse.map some).length = i by simp; omega, show n + i - (ws.reverse.map some).length = i by simp; omega] at q
    have := Rs.sets n is vs ws (σ.set i (some v)) (m.set i (some w)) h1 h2 h3 nd.1 (fun j hj => by rw [List.length_set]; exact hb j (List.mem_append_left _ hj)) q
    rw [sets_comm is vs _ i v ni, sets_comm is ws _ i w ni] at this
    rw [sets_snoc is vs σ i v (by omega), sets_snoc is ws m i w (by omega)]
    exact this
def sAsgW (is : List Nat) (fs : List (Ms → Rz W)) : Ms → Fl := flE (evalAllW fs) fun ws m => if (is.all fun i => decide (i < m.length)) = true then .nx (sets is ws m) else .st
/-- the targets' names -/
inductive NmT (X : Cx) : List Expr → List Nat → TGs → Prop
  | nil : NmT X [] [] L2.gNil
  | cons {x : Str} {i : Nat} {ts : List Expr} {is : List Nat} {t : TGs} {p : Pos} (hi : X.N[i]? = some x) (hx : Loc X.env.scope x) (hf : X.fn x = true ∨ X.env.scope.names.lookup x = some .local)
      (hs : (assignEach (.Name x p :: ts) X.env).map (·.2) = assign (.Name x p) X.env :: (assignEach ts X.env).map (·.2)) (r : NmT X ts is t) : NmT X (.Name x p :: ts) (i :: is) (L2.gCons (L2.gName i) t)
theorem nm_cons {x : Str} {ts : List Expr} {is : List Nat} {t : TGs} {p : Pos} (i : Nat) (r : NmT X ts is t) (hi : X.N[i]? = some x := by rfl) (hx : Loc X.env.scope x := by first | exact Or.inl rfl | exact Or.inr rfl) (hf : X.fn x = true ∨ X.env.scope.names.lookup x = some .local := by first | exact .inl rfl | exact .inr rfl)
    (hs : (assignEach (.Name x p :: ts) X.env).map (·.2) = assign (.Name x p) X.env :: (assignEach ts X.env).map (·.2) := by rfl) : NmT X (.Name x p :: ts) (i :: is) (L2.gCons (L2.gName i) t) := .cons hi hx hf hs r
theorem NmT.pg (hN : X.N.Nodup) : ∀ {ts : List Expr} {is : List Nat} {t : TGs}, NmT X ts is t → PGs X ts t
  | _, _, _, .nil => pgs_nil
  | _, _, _, .cons hi hx hf hs r => pgs_cons (pg_name hN hi hx hf) (r.pg hN) hs
theorem NmT.run : ∀ {ts : List Expr} {is : List Nat} {t : TGs}, NmT X ts is t → ∀ (vs : List V) (σ : L2.St) (H : Hp) (Q : L2.St → Hp → Prop), vs.length = is.length → Q (sets is vs σ) H → t vs σ H Q
  | _, _, _, .nil, vs, σ, H, Q, hl, q => ⟨List.eq_nil_of_length_eq_zero hl, by cases List.eq_nil_of_length_eq_zero hl; exact q⟩
  | _, _, _, .cons (i := i) (is := is) hi hx hf hs r, vs, σ, H, Q, hl, q => by
    cases vs with
    | nil => simp at hl
    | cons v vs => exact ⟨v, vs, rfl, r.run vs _ H Q (by simpa using hl) q⟩
theorem ds_asgW {ts es : List Expr} {is : List Nat} {t : TGs} {fs : List (Ms → Rz W)} {kt k2 : Nat} {pt p2 : Pos} (hN : X.N.Nodup) (ha : DAw X ct Wx es fs) (hT : NmT X ts is t) (hn : (assignEach ts X.env).length = is.length := by rfl) (hl : fs.length = is.length := by rfl) (hd : is.Nodup := by decide) (hz : fs.length ≤ 1000 := by decide)
    (hc : X.calm = true := by rfl) (hst : (assignEach ts X.env).findIdx? (·.1) = none := by rfl)
    (hs : swapsWithSole [.Tuple ts kt pt] (.Tuple es k2 p2) pos.line X.env = pure false := by rfl) (hw : swappedStores [.Tuple ts kt pt] (.Tuple es k2 p2) X.env = pure none := by rfl)
    (h1 : (assignEach [.Tuple ts kt pt] X.env).map (·.2) = [assign (.Tuple ts kt pt) X.env] := by rfl) : DS X ct Wx (.Assign [.Tuple ts kt pt] (.Tuple es k2 p2) pos) (sAsgW is fs) :=
  ds_of (ps_asg (pe_tup ha.pa) (pg_tup hc (hT.pg hN) hn hst) hs hw h1) fun D σ H B Fz m h q => by
    refine ⟨B, Fz, m, h, ?_⟩
    unfold sAsgW flE at q
    cases hf : evalAllW fs m with
    | st => rw [hf] at q; exact q
    | ex c => rw [hf] at q; exact fun H' F' x r => q σ H' F' x r
    | ok ws =>
      rw [hf] at q
      have hwl := evalAllW_len hf
      intro vs H1 F1 x1 hvl r1
      have q : EndS X.K ct Wx B Fz D (if (is.all fun i => decide (i < m.length)) = true then .nx (sets is ws m) else .st) := q
      split at q
      · rename_i hb
        refine ⟨by rw [hvl, hwl]; exact Nat.le_trans (Nat.le_trans hz (by decide)) sz_le, fun p hp => ⟨p, vs, rfl, .inl (.inl upd_same), by rw [hvl, hwl, hl], ?_⟩⟩
        refine hT.run vs σ _ _ (by rw [hvl, hwl, hl]) ?_
        refine q _ _ F1 x1 (Rs.sets is.length is vs ws σ m rfl (by rw [hvl, hwl, hl]) (by rw [hwl, hl]) hd (fun i hi => ?_) (r1.new hp))
        have := List.all_eq_true.mp hb i hi
        simpa using this
      · exact q.elim
theorem ds_parW {x y : Str} {is : List Nat} {fs : List (Ms → Rz W)} {px py pt : Pos} {kt k2 pt2} (i j : Nat) (hN : X.N.Nodup) (ha : DAw X ct Wx [a, b] fs) (hc : X.calm = true := by rfl) (hi : X.N[i]? = some x := by rfl) (hj : X.N[j]? = some y := by rfl) (hij : i ≠ j := by decide)
    (hx : X.env.scope.names.lookup x = some .local := by rfl) (hy : X.env.scope.names.lookup y = some .local := by rfl) (hl : fs.length = 2 := by rfl)
    (hw : swappedStores [.Tuple [.Name x px, .Name y py] kt pt] (.Tuple [a, b] k2 pt2) X.env = pure (some [x, y]) := by rfl)
    (hs : swapsWithSole [.Tuple [.Name x px, .Name y py] kt pt] (.Tuple [a, b] k2 pt2) pos.line X.env = pure false := by rfl) :
    DS X ct Wx (.Assign [.Tuple [.Name x px, .Name y py] kt pt] (.Tuple [a, b] k2 pt2) pos) (sAsgW [i, j] fs) :=
  ds_of (ps_par hc hN hi hj hij hx hy ha.pa hw hs) fun D σ H B Fz m h q => by
    refine ⟨B, Fz, m, h, ?_⟩
    unfold sAsgW flE at q
    cases hf : evalAllW fs m with
    | st => rw [hf] at q; exact q
    | ex c => rw [hf] at q; exact fun H' F' x r => q σ H' F' x r
    | ok ws =>
      rw [hf] at q
      have hwl := evalAllW_len hf
      intro vs H1 F1 x1 hvl r1
      have q : EndS X.K ct Wx B Fz D (if ([i, j].all fun i => decide (i < m.length)) = true then .nx (sets [i, j] ws m) else .st) := q
      split at q
      · rename_i hb
        have hv2 : vs.length = 2 := by rw [hvl, hwl, hl]
        have := Rs.sets 2 [i, j] vs ws σ m rfl hv2 (by rw [hwl, hl]) (by simpa using hij) (fun i hi => by simpa using List.all_eq_true.mp hb i hi) r1
        match vs, hv2, this with
        | [v, u], _, this => exact ⟨v, u, rfl, q _ _ F1 x1 this⟩
      · exact q.elim
theorem sAsgW_s {is : List Nat} {fs : List (Ms → Rz W)} {m : Ms} {ws : List W} (h : evalAllW fs m = .ok ws) (hb : (is.all fun i => decide (i < m.length)) = true) : sAsgW is fs m = .nx (sets is ws m) := by
  simp only [sAsgW, flE, h, hb, if_true]
@[simp] theorem evalAllW_nil {m : Ms} : evalAllW [] m = .ok [] := rfl
@[simp] theorem evalAllW_cons {f : Ms → Rz W} {fs : List (Ms → Rz W)} {m : Ms} : evalAllW (f :: fs) m = (f m).bind fun x => (evalAllW fs m).bind fun xs => .ok (x :: xs) := rfl
end
end Dl
set_option Elab.async false
set_option linter.all false
set_option maxRecDepth 100000
/-! D37: {t: e}, t a tuple of numbers. -/
namespace Dl
open PySem PySem.Spec PyProof.Rows L2
section
variable {X : Cx} {ct : CT} {Wx : WX} {e a b : Expr} {p p2 pos pos2 : Pos}
def qDisp (Q : VK) (p : Addr) (ps : List (V × V)) (H2 : Hp) : Prop := H2 p = some (.dT []) ∧ ∃ (kk : List Key) (b : Addr) (y : V), ps = [(V.ref b, y)] ∧ H2 b = some (.tup (kk.map kV)) ∧ Q (.ref p) (upd H2 p (.dT [(kk, y)]))
theorem pe_disp1T {k v : Expr} {tk tv : TE} (hu : X.A.units < cLine) (hk : PE X k tk) (hv : PE X v tv) : PE X (.Dict [some k] [v] pos) (fun σ H Q => ∀ p, H p = none → tPairs [(tk, tv)] σ (upd H p (.dT [])) (qDisp Q p)) := ⟨fun pins s σ H Q I q => by
  have hn := I.hok.fresh (Nat.le_refl s.heap.objs.size)
  have I1 := I.laid (a := s.heap.objs.size) (o := .dT []) (h' := s.heap.push { cls := .type "dict", data := .dict #[] }) (t' := s.toks) (fun _ _ z => Heap.get?_push_of_some _ z) (Nat.le_refl _) (dt_empty s.heap I.big)
  rw [arm_eval_Dict, zip_pairTrees [some k] [v] X.env pos rfl rfl, dictDisplay_pairs _ (by simp [pairTrees]) (by simp [pairTrees])]
  refine wpAny_bind (wpAny_standAt (wpAny_bind (wpAny_subDictH (knd := tupleKind (mixKind X.prog X.w)) (Q := fun d t => wpAny (model X.prog X.w) X.A (pure (Value.ref d)) (EP X pins σ Q) X.xe t) hu (by simp [pairTrees]) ?_)))
  refine thn ((pps_cons (pos := pos) hk hv pps_nil).run pins _ σ _ (qDisp Q s.heap.objs.size) I1 (q _ hn)) fun ws t ⟨ps, H2, I2, rel, hd, kk, b, y, e0, hb, q2⟩ => ?_
  subst e0
  cases rel with
  | @cons _ w _ _ h1 h2 =>
    cases h2
    obtain ⟨w1, w2⟩ := w
    obtain ⟨r1, r2⟩ := h1
    cases (show w1 = Value.ref b from r1)
    obtain ⟨z, hsys, xs, r0, dd⟩ := dt_of I2.hok hd
    cases r0
    refine ⟨[(kk, b, w2)], ⟨rfl, rfl, key_of I2.hok hb, trivial⟩, dd, fun h' tk dd' hs => wpAny_pure ⟨.ref s.heap.objs.size, _, ?_, rfl, q2⟩⟩
    obtain ⟨q, es, ep, hq, h2, h3, h4, _, h5⟩ := dd'
    refine d_write I2 (by rw [hd]; exact True.intro) hs ⟨q, hq⟩ ⟨by rw [sizeLine_eq]; simp, hsys, [(kk, b, w2)], .cons ⟨rfl, ?_, r2⟩ .nil, q, es, ep, hq, h2, h3, h4, h5⟩
    rw [upd_ne (ne_of hb hd (fun z => nomatch z))]
    exact hb⟩
def eDisp1T (f g : Ms → Rz PyData) : Ms → Rz W := fun m => (f m).bind fun k => (g m).bind fun x => match keysOfD k with
  | some _ => .ok (.m true [(k, x)])
  | none => .st
theorem de_disp1T {k v : Expr} {f g : Ms → Rz PyData} (hu : X.A.units + 105 < cLine) (hf : DV X ct Wx k f) (hg : DV X ct Wx v g) :
    DE X ct Wx (.Dict [some k] [v] pos) (eDisp1T f g) := ⟨PE_imp (pe_disp1T (by omega) hf.pe hg.pe) fun σ H Q ⟨B, Fz, m, h, q⟩ p hp => by
  unfold eDisp1T at q
  have h0 : Rs X.K B Fz (upd H p (.dT [])) (some (.ref p) :: σ) (some (.m true []) :: m) := h.newOwn hp (.mT upd_same .nil)
  obtain ⟨B2, r0, hB, hE, hK⟩ := Rs.hold (τ := [some (.ref p)]) (n := [some (.m true [])]) (by simpa using h0) rfl
  refine tV_then r0 ?_
  cases hx : f m with
  | st => rw [hx] at q; exact q
  | ex c =>
    rw [hx] at q
    intro H' F' x r
    have z := hK (ρ := []) (r := []) x (by simpa using r) rfl
    exact q H' F' (hE _ x) (by simpa using Rs.pop (by simpa using z.1))
  | ok kd =>
    rw [hx, Rz.bind_ok] at q
    intro u H1 F1 x1 r1 l1 p1
    refine tV_then r1 ?_
    cases hy : g m with
    | st => rw [hy] at q; exact q
    | ex c =>
      rw [hy] at q
      intro H' F' x r
      have z := hK (ρ := []) (r := []) (x1.trans x) (by simpa using r) rfl
      exact q H' F' (hE _ (x1.trans x)) (by simpa using Rs.pop (by simpa using z.1))
    | ok xd =>
      rw [hy, Rz.bind_ok] at q
      intro w H2 F2 x2 r2 l2 p2
      have z := (hK (ρ := []) (r := []) (x1.trans x2) (by simpa using r2) rfl).1
      have z : Rs X.K B F2 H2 (some (.ref p) :: σ) (some (.m true []) :: m) := by simpa using z
      cases hk : keysOfD kd with
      | none => rw [hk] at q; exact q.elim
      | some κ =>
        rw [hk] at q
        obtain ⟨ek, i, r, er⟩ := keysOfD_eq hk
        subst ek er
        obtain ⟨b, rfl, hb⟩ := rp_keys (p1.mono l2)
        obtain ⟨a, o, g1, g2, g3, g4, g5, g6⟩ := z.writeM 0 (T := true) (kvs := []) rfl
        cases g1
        obtain ⟨a', g1', _, hh⟩ := z.getM (i := 0) (T := true) (kvs := []) rfl
        cases g1'
        rcases hh with ⟨hh, _⟩ | ⟨_, ks, hd, en⟩
        · cases hh
        · rw [g2] at hd; cases hd
          rcases en.cases with ⟨rfl, _⟩ | ⟨_, _, _, _, _, _, e, _⟩
          · refine ⟨g2, Sum.inl i :: r, b, w, rfl, hb, ?_⟩
            have en' : DEnt X.K F2 (upd H2 p (.dT [(Sum.inl i :: r, w)])) keysD [(Sum.inl i :: r, w)] [(keysD (Sum.inl i :: r), xd)] := DEnt.cons (kd := keysD) (k := Sum.inl i :: r) (p2.mono (le_ownG g2 g3 g4)) .nil
            have := g6 _ _ (.mT upd_same en')
            exact q _ _ F2 (hE _ (x1.trans x2)) this
          · cases e⟩
@[simp] theorem eDisp1T_s {f g : Ms → Rz PyData} {m : Ms} : eDisp1T f g m = (f m).bind fun k => (g m).bind fun x => match keysOfD k with | some _ => .ok (.m true [(k, x)]) | none => .st := rfl
end
end Dl
set_option Elab.async false
set_option linter.all false
set_option maxRecDepth 100000
/-! D38: rows of numbers in the mirror. Taken from the X texts of k81. -/
namespace Dl
open PySem PySem.Spec PyProof.Rows L2
def sqD (T : Bool) (xs : List Int) : PyData := match T with
  | true => .tuple (xs.map PyData.int)
  | false => .list (xs.map PyData.int)
theorem sq_items {T : Bool} {xs : List Int} : itemsD (sqD T xs) = some (xs.map PyData.int) := by cases T <;> rfl
theorem sq_ix {T : Bool} {xs : List Int} {k : Nat} {x : Int} (h : xs[k]? = some x) : ixD (sqD T xs) (.int (k : Nat)) = some (.d (.int x)) := by
  cases T with
  | true => show (atI (xs.map PyData.int) (k : Int)).map W.d = _; rw [atI_nat, List.getElem?_map, h]; rfl
  | false => show (atI (xs.map PyData.int) (k : Int)).map W.d = _; rw [atI_nat, List.getElem?_map, h]; rfl
theorem row_ix {xs : List Int} {k : Nat} {x : Int} (h : xs[k]? = some x) : ixD (rowT xs) (.int (k : Nat)) = some (.d (.int x)) := sq_ix (T := true) h
theorem row_len {xs : List Int} : lenD (rowT xs) = some (.d (.int xs.length)) := by
  show some (W.d (.int ((xs.map PyData.int).length : Nat))) = _
  rw [List.length_map]
theorem row_add {xs : List Int} {c : Int} (h : xs.length ≤ 1000) : addD (rowT xs) (.tuple [.int c]) = some (.d (rowT (xs ++ [c]))) := by
  show (if (xs.map PyData.int).length + 1 ≤ 16000000 then some (W.d (.tuple (xs.map .int ++ [.int c]))) else none) = _
  rw [if_pos (by rw [List.length_map]; omega)]
  simp [rowT]
theorem small_of {c : Int} (h : 0 ≤ c) (h2 : c ≤ 1000000) : smallI c := by unfold smallI; omega
theorem mul_r {i c : Int} (h : smallI c) : mulD (.int i) (.int c) = some (.d (.int (i * c))) := by rw [mul_i, if_pos (.inr h)]
theorem mul_l {i c : Int} (h : smallI i) : mulD (.int i) (.int c) = some (.d (.int (i * c))) := by rw [mul_i, if_pos (.inl h)]
theorem div_p {i c : Int} (h : 0 < c) (h2 : c ≤ 1000000) : divD (.int i) (.int c) = some (.d (.int (i / c))) := by rw [div_i, if_pos (by omega)]
theorem mod_p {i c : Int} (h : 0 < c) : modD (.int i) (.int c) = some (.d (.int (i % c))) := by rw [mod_i, if_pos h]
theorem flat_le {α β : Type} {f : α → List β} {B : Nat} : ∀ {R : List α}, (∀ p ∈ R, (f p).length ≤ B) → (R.flatMap f).length ≤ B * R.length
  | [], _ => by simp
  | p :: R, h => by
    have ih := flat_le (f := f) (R := R) fun q hq => h q (List.mem_cons_of_mem _ hq)
    have h1 := h p (by simp)
    rw [List.flatMap_cons, List.length_append, List.length_cons, Nat.mul_succ]
    omega
theorem minT2_i {i j : Int} : minT2 (.int i) (.int j) = some (.d (.int (min i j))) := rfl
theorem addL {xs ys : List PyData} (h : xs.length + ys.length ≤ 16000000) : addD (.list xs) (.list ys) = some (.l (xs ++ ys)) := by rw [add_l, if_pos h]
theorem nodup_len : ∀ {n : Nat} {l : List Int}, l.Nodup → (∀ x ∈ l, 0 ≤ x ∧ x < n) → l.length ≤ n
  | 0, l, _, h => by
    cases l with
    | nil => simp
    | cons x l => have := h x (by simp); omega
  | n + 1, l, nd, h => by
    have ih := nodup_len (n := n) (l := l.erase (n : Int)) (nd.erase _) fun x hx => by
      have h1 := (nd.mem_erase_iff).mp hx
      have h2 := h x h1.2
      have h3 := h1.1
      omega
    have := List.length_erase (a := (n : Int)) (l := l)
    split at this <;> omega
theorem dput_go {n : Nat} {g f : Ms → Rz PyData} {m : Ms} {x k : PyData} {T : Bool} {kvs kvs' : List (PyData × PyData)} (h1 : f m = .ok x) (h2 : mAt n m = some (T, kvs)) (h3 : g m = .ok k) (h4 : dputD T kvs k x = some kvs') (h5 : kvs.length < 10000000) : sDput n g f m = .nx (m.set n (some (.m T kvs'))) := by
  rw [sDput_s, h1]
  dsimp only
  rw [h2]
  dsimp only
  rw [h3]
  dsimp only
  rw [h4]
  dsimp only
  rw [if_pos h5]
theorem iKeys_go {i : Nat} {m : Ms} {kvs : List (PyData × PyData)} (h : qdAt i m = some kvs) (hl : kvs.length ≤ 10000000) : iKeysD i m = .ok (kvs.map fun p => p.1) := by
  unfold iKeysD
  rw [h]
  dsimp only
  rw [if_pos hl]
theorem row_sum {r : List Int} : sumD (rowT r) = some (.d (.int r.sum)) := by
  show ((intsOf (r.map PyData.int)).map fun ns => W.d (.int ns.sum)) = _
  rw [intsOf_map]
  rfl
theorem zip_ints (xs ys : List Int) : zipL (xs.map PyData.int) (ys.map PyData.int) = (xs.zip ys).map fun p => PyData.tuple [.int p.1, .int p.2] := by
  induction xs generalizing ys with
  | nil => rfl
  | cons x xs ih =>
    cases ys with
    | nil => rfl
    | cons y ys => simp only [List.map_cons, zipL, List.zip_cons_cons, ih]
theorem all_num {xs : List Int} {a b : Int} (h : ∀ c ∈ xs, a ≤ c ∧ c ≤ b) : ((xs.map PyData.int).map fun z => PyData.bool (numB z a b)) = (xs.map fun _ => true).map PyData.bool := by
  rw [List.map_map, List.map_map]
  refine List.map_congr_left fun c hc => ?_
  have := h c hc
  show PyData.bool (numB (.int c) a b) = .bool true
  rw [numB_of this.1 this.2]
theorem allD_true {xs : List Int} : allD (.list ((xs.map fun _ => true).map PyData.bool)) = some (.d (.bool true)) := by
  show ((boolsOf ((xs.map fun _ => true).map PyData.bool)).map fun bs => W.d (.bool (bs.all id))) = _
  rw [boolsOf_map]
  simp
theorem foldl_max_mem : ∀ (xs : List Int) (x : Int), (xs.foldl max x = x ∨ xs.foldl max x ∈ xs) ∧ x ≤ xs.foldl max x ∧ ∀ y ∈ xs, y ≤ xs.foldl max x
  | [], x => ⟨.inl rfl, Int.le_refl _, fun _ h => by cases h⟩
  | y :: xs, x => by
    obtain ⟨h1, h2, h3⟩ := foldl_max_mem xs (max x y)
    rw [List.foldl_cons]
    refine ⟨?_, by omega, fun z hz => ?_⟩
    · rcases h1 with h1 | h1
      · rcases Int.le_total x y with h | h
        · right; rw [h1, Int.max_eq_right h]; simp
        · left; rw [h1, Int.max_eq_left h]
      · right; exact List.mem_cons_of_mem _ h1
    · rcases List.mem_cons.mp hz with rfl | hz
      · omega
      · exact h3 z hz
theorem maxD1_ints (x : Int) (xs : List Int) : maxD1 (.list ((x :: xs).map PyData.int)) = some (.d (.int (xs.foldl max x))) := by
  unfold maxD1
  rw [show itemsD (.list ((x :: xs).map PyData.int)) = some ((x :: xs).map PyData.int) from rfl, Option.bind_some, List.map_cons]
  dsimp only
  have h : alikeB (PyData.int x :: xs.map PyData.int) = true := by
    unfold alikeB
    rw [show PyData.int x :: xs.map PyData.int = (x :: xs).map PyData.int from rfl, intsOf_map]
  rw [if_pos h, PySem.W.maxD_ints]
theorem nlt {x a : Int} : (!decide (a < x)) = decide (x ≤ a) := by
  by_cases h : x ≤ a
  · rw [decide_eq_true h, decide_eq_false (by omega)]; rfl
  · rw [decide_eq_false h, decide_eq_true (by omega)]; rfl
theorem rep_list (n : Nat) (h : n ≤ 1000) : mulD (.list [.int 0]) (.int (n : Nat)) = some (.l ((List.replicate n (0 : Int)).map PyData.int)) := by
  show (if (-1000000 ≤ (n : Int) ∧ (n : Int) ≤ 1000000) ∧ 1 * (n : Int).toNat ≤ 16000000 then some (W.l (List.replicate (n : Int).toNat [PyData.int 0]).flatten) else none) = _
  rw [if_pos (by omega)]
  congr 2
  rw [Int.toNat_natCast]
  induction n with
  | zero => rfl
  | succ n ih => rw [List.replicate_succ, List.flatten_cons, ih (by omega)]; rfl
theorem foldl_min_mem : ∀ (xs : List Int) (x : Int), (xs.foldl min x = x ∨ xs.foldl min x ∈ xs) ∧ xs.foldl min x ≤ x ∧ ∀ y ∈ xs, xs.foldl min x ≤ y
  | [], x => ⟨.inl rfl, Int.le_refl _, fun _ h => by cases h⟩
  | y :: xs, x => by
    obtain ⟨h1, h2, h3⟩ := foldl_min_mem xs (min x y)
    rw [List.foldl_cons]
    refine ⟨?_, by omega, fun z hz => ?_⟩
    · rcases h1 with h1 | h1
      · rcases Int.le_total x y with h | h
        · left; rw [h1, Int.min_eq_left h]
        · right; rw [h1, Int.min_eq_right h]; simp
      · right; exact List.mem_cons_of_mem _ h1
    · rcases List.mem_cons.mp hz with rfl | hz
      · omega
      · exact h3 z hz
theorem minD1_ints (x : Int) (xs : List Int) : minD1 (.list ((x :: xs).map PyData.int)) = some (.d (.int (xs.foldl min x))) := by
  unfold minD1
  rw [show itemsD (.list ((x :: xs).map PyData.int)) = some ((x :: xs).map PyData.int) from rfl, Option.bind_some, List.map_cons]
  dsimp only
  have h : alikeB (PyData.int x :: xs.map PyData.int) = true := by
    unfold alikeB
    rw [show PyData.int x :: xs.map PyData.int = (x :: xs).map PyData.int from rfl, intsOf_map]
  rw [if_pos h, PySem.W.minD_ints]
def minL (xs : List Int) : Int := match xs with
  | [] => 0
  | x :: xs => xs.foldl min x
theorem minD1_L {xs : List Int} (h : xs ≠ []) : minD1 (.list (xs.map PyData.int)) = some (.d (.int (minL xs))) := by
  cases xs with
  | nil => exact absurd rfl h
  | cons x xs => exact minD1_ints x xs
theorem few_get {F : List Int} {c i : Int} (h0 : 0 ≤ i - c) (h : (i - c).toNat < F.length) : ∀ T : Bool, ixD (sqD T F) (.int (i - c)) = some (.d (.int (F.getD (i - c).toNat 0))) := fun T => by
  obtain ⟨n, hn⟩ := Int.eq_ofNat_of_zero_le h0
  rw [hn] at h ⊢
  refine sq_ix ?_
  rw [Int.toNat_natCast] at h ⊢
  rw [List.getD_eq_getElem?_getD, List.getElem?_eq_getElem h]
  rfl
theorem ifF_nil {t : Ms → Rz Bool} {f : Ms → Fl} {m : Ms} (h : t m = .ok false) : sIf t f sNil m = .nx m := ifF_go h rfl
def dotZ (cs ps : List Int) : Int := ((cs.zip ps).map fun q => q.1 * q.2).sum
theorem dot_snoc {cs r : List Int} {c j : Int} (h : cs.length = r.length) : dotZ (cs ++ [c]) (r ++ [j]) = dotZ cs r + c * j := by
  unfold dotZ
  rw [List.zip_append h]
  simp
theorem sumD_l {L : List Int} : sumD (.list (L.map PyData.int)) = some (.d (.int L.sum)) := by
  show ((intsOf (L.map PyData.int)).map fun ns => W.d (.int ns.sum)) = _
  rw [intsOf_map]
  rfl
theorem tupD_l {L : List Int} : tupleD (.list (L.map PyData.int)) = some (.d (rowT L)) := rfl
def plusL (xs ys : List Int) : List Int := (xs.zip ys).map fun q => q.1 + q.2
def lessL (xs ys : List Int) : List Int := (xs.zip ys).map fun q => q.1 - q.2
theorem plus_len {xs ys : List Int} (h : xs.length = ys.length) : (plusL xs ys).length = xs.length := by unfold plusL; simp [h]
theorem less_len {xs ys : List Int} (h : xs.length = ys.length) : (lessL xs ys).length = xs.length := by unfold lessL; simp [h]
theorem neSelf {x : PyData} (h1 : x.plain = true) (h2 : x.depth ≤ 100) : neD x x = some false := by
  unfold neD
  rw [Nat.min_self, if_pos h2, PySem.SeqAt.eqv_refl_plain x h1]
  rfl
theorem eqSelf {x : PyData} (h1 : x.plain = true) (h2 : x.depth ≤ 100) : eqD x x = some true := by
  unfold eqD
  rw [Nat.min_self, if_pos h2, PySem.SeqAt.eqv_refl_plain x h1]
theorem plain_ints : ∀ xs : List Int, PyData.plainAll (xs.map PyData.int) = true
  | [] => by simp [PyData.plainAll]
  | x :: xs => by simp [PyData.plainAll, PyData.plain, plain_ints xs]
theorem row_plain (r : List Int) : (rowT r).plain = true := by unfold rowT; simp only [PyData.plain]; exact plain_ints r
theorem row_depth (r : List Int) : (rowT r).depth ≤ 1 := by
  have := PySem.W.depth_ints r
  unfold rowT
  simp only [PyData.depth]
  omega
theorem ne_row (r : List Int) : neD (rowT r) (rowT r) = some false := neSelf (row_plain r) (Nat.le_trans (row_depth r) (by decide))
theorem isort_len : ∀ {ns : List Int}, (isort ns).length ≤ ns.length
  | [] => by simp [isort]
  | x :: ns => by
    have ih := isort_len (ns := ns)
    have h : ∀ r : List Int, (insI x r).length ≤ r.length + 1 := fun r => by
      induction r with
      | nil => simp [insI]
      | cons y r ih =>
        unfold insI
        split
        · simp
        · split
          · simp
          · simp only [List.length_cons]; omega
    show (insI x (isort ns)).length ≤ _
    have := h (isort ns)
    rw [List.length_cons]; omega
theorem ssetG_ints {x : PyData} {ns : List Int} (h : itemsD x = some (ns.map PyData.int)) (hl : ns.length < 64) : ssetG x = some (.l ((isort ns).map PyData.int)) := by
  unfold ssetG ssetI
  rw [h, Option.bind_some, intsOf_map, Option.bind_some, if_pos hl]
theorem dr_get {D : List Int} {i : Nat} (h : i < D.length) : ixD (.list (D.map PyData.int)) (.int (i : Nat)) = some (.d (.int (D.getD i 0))) := sq_ix (T := false) (by rw [List.getD_eq_getElem?_getD, List.getElem?_eq_getElem h]; rfl)
theorem dr_nn {D : List Int} (h : nn D) (i : Nat) : 0 ≤ D.getD i 0 := by
  rw [List.getD_eq_getElem?_getD]
  cases e : D[i]? with
  | none => exact Int.le_refl _
  | some x => exact h x (List.mem_of_getElem? e)
theorem range_zip {α : Type} (f : Int → Int → α) (xs ys : List Int) (h : xs.length = ys.length) : (List.range xs.length).map (fun j => f (xs.getD j 0) (ys.getD j 0)) = (xs.zip ys).map fun q => f q.1 q.2 := by
  refine List.ext_getElem (by simp [h]) fun i h1 h2 => ?_
  simp only [List.getElem_map, List.getElem_range, List.getElem_zip]
  rw [List.length_map, List.length_range] at h1
  rw [List.getD_eq_getElem?_getD, List.getD_eq_getElem?_getD, List.getElem?_eq_getElem h1, List.getElem?_eq_getElem (by omega)]
  rfl
theorem at_get {xs : List Int} {i : Nat} (h : i < xs.length) : atI (xs.map PyData.int) (i : Int) = some (.int (xs.getD i 0)) := by
  rw [atI_nat, List.getElem?_map, List.getElem?_eq_getElem h, List.getD_eq_getElem?_getD, List.getElem?_eq_getElem h]
  rfl
theorem row_get {xs : List Int} {i : Nat} (h : i < xs.length) : ixD (rowT xs) (.int (i : Nat)) = some (.d (.int (xs.getD i 0))) := row_ix (by rw [List.getD_eq_getElem?_getD, List.getElem?_eq_getElem h]; rfl)
theorem rep_listA (a : Int) (n : Nat) (h : n ≤ 1000) : mulD (.list [.int a]) (.int (n : Nat)) = some (.l ((List.replicate n a).map PyData.int)) := by
  show (if (-1000000 ≤ (n : Int) ∧ (n : Int) ≤ 1000000) ∧ 1 * (n : Int).toNat ≤ 16000000 then some (W.l (List.replicate (n : Int).toNat [PyData.int a]).flatten) else none) = _
  rw [if_pos (by omega)]
  congr 2
  rw [Int.toNat_natCast]
  induction n with
  | zero => rfl
  | succ n ih => rw [List.replicate_succ, List.flatten_cons, ih (by omega)]; rfl
end Dl
set_option Elab.async false
set_option linter.all false
set_option maxRecDepth 100000
/-! D39: sorted of data, of [()] too. -/
namespace Dl
open PySem PySem.Spec PyProof.Rows L2
section
variable {prog : Program} {w : World} {A : Around} {E : Value → Shared → Prop} {s : Shared} {vs : List Value}
/-- empty tuples can be sorted -/
theorem sorts_nil (e : PySem.W.EachIs (fun v d => ∃ as, Reads s.heap v d as) vs [.tuple []]) : PySem.W.SortsAt prog w A s (PySem.W.dataKind s.heap [.tuple []]) vs := by
  have hal : PySem.W.AllAlike [.tuple []] := fun d hd d' hd' => by
    rw [List.mem_singleton.mp hd, List.mem_singleton.mp hd']; rfl
  refine ⟨fun v hv => ?_, ?_⟩
  · obtain ⟨d, hd, as, r⟩ := e.left v hv
    exact ⟨_, PySem.W.dataKind_some hal hd r⟩
  · refine ⟨tuples' false, ?_, fun h2 => ?_⟩
    · intro E x y a b Q ha hb hq
      obtain ⟨d, as, hd, ra, rfl⟩ := PySem.W.dataKind_inv ha
      obtain ⟨d', as', hd', rb, rfl⟩ := PySem.W.dataKind_inv hb
      rw [List.mem_singleton] at hd hd'
      subst hd
      subst hd'
      have hq' : Q (PySem.W.dataLt (.tuple []) (.tuple [])) s := hq
      rw [PySem.W.dataLt_tuple] at hq'
      cases ra with
      | @tuple l o xs n _ _ h1 h2 h3 h4 =>
        cases rb with
        | @tuple l' o' xs' n' _ _ k1 k2 k3 k4 =>
          have n1 : xs.size = 0 := by simpa using PySem.SeqAt.ReadsAll.length _ _ _ h4
          have n2 : xs'.size = 0 := by simpa using PySem.SeqAt.ReadsAll.length _ _ _ k4
          refine PySem.W.kat_lt h1 h3 k1 k3 ?_
          have e1 : xs.toList = [] := by rw [← List.length_eq_zero_iff]; simpa using n1
          rw [e1, n1, n2]
          refine PySem.W.kat_nil ?_
          rw [PyProof.Rows.lex_irrefl] at hq'
          exact hq'
    · cases e with
      | cons _ t => cases t; simp at h2
end
open Classical in
noncomputable def sortE (x : PyData) : Option W := if x = .list [.tuple []] then some (.l [.tuple []]) else sortD x
section
variable {X : Cx} {ct : CT} {Wx : WX} {e a b c : Expr} {p pos : Pos}
def rSortE (K : PySem.W.Frag) : List V → Hp → VK → Prop := fun vs H Q => rSortD K vs H Q ∨ ∃ (a : Addr) (us : List V) (Fz : Addr → Prop), vs = [V.ref a] ∧ SqL K H a us ∧ RpAll K Fz H us [.tuple []] ∧ ∀ (ys : List V) (p : Addr), RpAll K Fz H ys [.tuple []] → H p = none → Q (.ref p) (upd H p (.lst ys))
theorem cr_sortE (hu : X.A.units + 105 < cLine) : CallR X (.builtin "sorted") (rSortE X.K) := by
  intro pins s σ H vs us Q I r h
  rcases h with h | h
  · exact cr_sortD hu pins s σ H vs us Q I r h
  obtain ⟨a, ws, Fz, rfl, hs, hr, q⟩ := h
  obtain ⟨its, rv, hl, _⟩ := I.list hs
  rw [Vals.ref1 r]
  have e1 := each_of hr rv
  have e2 : PySem.W.EachIs (fun v d => ∃ as, Reads s.heap v (id d) as) its [.tuple []] := e1.mono fun v d ⟨y, ry, rp⟩ => Dp.reads I d y v rp.dp ry
  have e2' : PySem.W.EachIs (fun v b => ∃ as, Reads (PySem.W.sortingHeap (PySem.W.copyHeap s.heap its) (s.heap.objs.size + 1) its) v (id b) as) its [.tuple []] := e2.mono fun _ _ ⟨as, r⟩ => ⟨as, PyProof.Rows.Reads.keeps (fun _ _ => PySem.W.sorting_copy_old) r⟩
  have hal : PySem.W.AllAlike ([PyData.tuple []].map id) := fun d hd d' hd' => by
    rw [List.map_id] at hd hd'
    rw [List.mem_singleton.mp hd, List.mem_singleton.mp hd']; rfl
  have hn : its.length = 1 := by rw [e1.length]; rfl
  refine PySem.W.sorted_vals hl.isList (sorts_nil (s := { s with heap := PySem.W.sortingHeap (PySem.W.copyHeap s.heap its) (s.heap.objs.size + 1) its }) e2') (by rw [hn, sizeLine_eq]; omega) ?_
  have e3 := PySem.W.sortVals_data false e1 e2' hal
  have hlen : (PySem.W.sortVals (PySem.W.dataKind (PySem.W.sortingHeap (PySem.W.copyHeap s.heap its) (s.heap.objs.size + 1) its) [.tuple []]) false its its).length = 1 := by rw [PySem.W.sortVals_length false rfl]; exact hn
  obtain ⟨ys, y1, y2⟩ := of_each e3
  obtain ⟨ep, he'⟩ := PyProof.Rows.sortedAll_at s.heap its (PySem.W.sortVals (PySem.W.dataKind (PySem.W.sortingHeap (PySem.W.copyHeap s.heap its) (s.heap.objs.size + 1) its) [.tuple []]) false its its).toArray
  have hyl : ys.length ≤ sizeLine := by
    have h1 := y2.length
    have h2 : ys.length = 1 := by rw [h1]; exact hlen
    rw [h2, sizeLine_eq]; omega
  have y1' : RpAll X.K Fz H ys [.tuple []] := by
    have : [PyData.tuple []].mergeSort (PySem.W.dataLe false id) = [.tuple []] := by rw [List.mergeSort_singleton]
    rw [this] at y1
    exact y1
  exact ⟨.ref _, upd H (s.heap.objs.size + 1) (.lst ys), I.laid (t' := s.toks) (fun _ _ => PyProof.Rows.sortedAll_old) (Nat.le_succ _) ⟨hyl, _, ep, y2, by simpa using he'⟩, rfl, q ys _ y1' (I.hok.fresh (Nat.le_succ _))⟩
theorem ok_sortE {K : PySem.W.Frag} : CallOk K (rSortE K) (g1 sortE) := call1 fun {B Fz H σ m v x w Q} hr hv e q => by
  unfold sortE at e
  split at e
  · rename_i hx
    subst hx
    cases e
    obtain ⟨p, vs, rfl, s1, r1⟩ := hv.list
    exact .inr ⟨p, vs, Fz, rfl, .inl (.inl s1), r1, fun ys l hy hl => q _ _ (hr.newLst hl hy)⟩
  · unfold sortD at e
    split at e
    · rename_i ds _
      split at e
      · rename_i ho
        cases e
        obtain ⟨p, vs, rfl, s1, r1⟩ := hv.list
        exact .inl ⟨p, vs, Fz, ds, rfl, .inl (.inl s1), r1, ho, fun ys l hy hl => q _ _ (hr.newLst hl hy)⟩
      · cases e
    · cases e
end
theorem sortE_nil : sortE (.list [.tuple []]) = some (.l [.tuple []]) := by
  unfold sortE
  rw [if_pos rfl]
theorem sortE_rows {R : List (List Int)} (hl : R.length ≤ 10000000) (hne : ∀ r ∈ R, r ≠ []) : sortE (.list (R.map rowT)) = some (.l ((R.mergeSort leR).map rowT)) := by
  unfold sortE
  rw [if_neg, sortD_rowsL hl hne]
  intro z
  cases R with
  | nil => simp at z
  | cons r R =>
    have h := hne r (by simp)
    cases r with
    | nil => exact h rfl
    | cons x r => simp [rowT] at z
end Dl
set_option Elab.async false
set_option linter.all false
set_option maxRecDepth 100000
namespace Dl
open PySem PySem.Spec PyProof.Rows L2
/-! printed by gen.py -/
noncomputable section
def topS (i : Nat) : Stmt := PySem.Challenge.pw_bakewright_k80_whole_prices.main.body.getD i (.Pass ⟨0, 0, 0, 0⟩)
abbrev s__law_draws : Stmt := topS 32
abbrev N__law_draws : List Str := ["script", "many", "draws", "seed", "cell", "k", "number"]
theorem sc__law_draws : FnScope N__law_draws ["script", "many"] (defScope s__law_draws) := ⟨rfl, rfl, rfl, by decide +kernel, rfl, by decide +kernel, by decide +kernel⟩
abbrev s_is_whole : Stmt := topS 9
abbrev N_is_whole : List Str := ["value", "least", "most"]
theorem sc_is_whole : FnScope N_is_whole ["value", "least", "most"] (defScope s_is_whole) := ⟨rfl, rfl, rfl, by decide +kernel, rfl, by decide +kernel, by decide +kernel⟩
abbrev s__check_prices : Stmt := topS 18
abbrev N__check_prices : List Str := ["prices", "one"]
theorem sc__check_prices : FnScope N__check_prices ["prices"] (defScope s__check_prices) := ⟨rfl, rfl, rfl, by decide +kernel, rfl, by decide +kernel, by decide +kernel⟩
abbrev s__are_counts : Stmt := topS 19
abbrev N__are_counts : List Str := ["prices", "value", "one"]
theorem sc__are_counts : FnScope N__are_counts ["prices", "value"] (defScope s__are_counts) := ⟨rfl, rfl, rfl, by decide +kernel, rfl, by decide +kernel, by decide +kernel⟩
abbrev s__check_basket : Stmt := topS 21
abbrev N__check_basket : List Str := ["prices", "basket"]
theorem sc__check_basket : FnScope N__check_basket ["prices", "basket"] (defScope s__check_basket) := ⟨rfl, rfl, rfl, by decide +kernel, rfl, by decide +kernel, by decide +kernel⟩
abbrev s__plain : Stmt := topS 23
abbrev N__plain : List Str := ["prices", "basket", "price", "count"]
theorem sc__plain : FnScope N__plain ["prices", "basket"] (defScope s__plain) := ⟨rfl, rfl, rfl, by decide +kernel, rfl, by decide +kernel, by decide +kernel⟩
abbrev s_plain_price : Stmt := topS 24
abbrev N_plain_price : List Str := ["prices", "basket"]
theorem sc_plain_price : FnScope N_plain_price ["prices", "basket"] (defScope s_plain_price) := ⟨rfl, rfl, rfl, by decide +kernel, rfl, by decide +kernel, by decide +kernel⟩
abbrev s__law_left : Stmt := topS 33
abbrev N__law_left : List Str := ["offers", "basket", "bill", "k", "j"]
theorem sc__law_left : FnScope N__law_left ["offers", "basket", "bill"] (defScope s__law_left) := ⟨rfl, rfl, rfl, by decide +kernel, rfl, by decide +kernel, by decide +kernel⟩
abbrev s__law_bills : Stmt := topS 35
abbrev N__law_bills : List Str := ["offers", "basket", "rows", "j", "longer", "row", "often"]
theorem sc__law_bills : FnScope N__law_bills ["offers", "basket"] (defScope s__law_bills) := ⟨rfl, rfl, rfl, by decide +kernel, rfl, by decide +kernel, by decide +kernel⟩
abbrev s__law_price : Stmt := topS 34
abbrev N__law_price : List Str := ["prices", "offers", "basket", "bill", "left", "k", "j"]
theorem sc__law_price : FnScope N__law_price ["prices", "offers", "basket", "bill"] (defScope s__law_price) := ⟨rfl, rfl, rfl, by decide +kernel, rfl, by decide +kernel, by decide +kernel⟩
abbrev s__law_cheapest : Stmt := topS 36
abbrev N__law_cheapest : List Str := ["prices", "offers", "basket", "bill"]
theorem sc__law_cheapest : FnScope N__law_cheapest ["prices", "offers", "basket"] (defScope s__law_cheapest) := ⟨rfl, rfl, rfl, by decide +kernel, rfl, by decide +kernel, by decide +kernel⟩
abbrev s__is_offer : Stmt := topS 20
abbrev N__is_offer : List Str := ["prices", "value"]
theorem sc__is_offer : FnScope N__is_offer ["prices", "value"] (defScope s__is_offer) := ⟨rfl, rfl, rfl, by decide +kernel, rfl, by decide +kernel, by decide +kernel⟩
abbrev s__check : Stmt := topS 22
abbrev N__check : List Str := ["prices", "offers", "basket", "one"]
theorem sc__check : FnScope N__check ["prices", "offers", "basket"] (defScope s__check) := ⟨rfl, rfl, rfl, by decide +kernel, rfl, by decide +kernel, by decide +kernel⟩
abbrev s__check_few : Stmt := topS 28
abbrev N__check_few : List Str := ["basket", "many", "count"]
theorem sc__check_few : FnScope N__check_few ["basket"] (defScope s__check_few) := ⟨rfl, rfl, rfl, by decide +kernel, rfl, by decide +kernel, by decide +kernel⟩
abbrev s__best : Stmt := topS 27
abbrev N__best : List Str := ["prices", "offers", "basket", "rows", "counts", "price", "later", "left", "often", "paid", "bill", "row", "own", "count"]
theorem sc__best : FnScope N__best ["prices", "offers", "basket"] (defScope s__best) := ⟨rfl, rfl, rfl, by decide +kernel, rfl, by decide +kernel, by decide +kernel⟩
abbrev s_cheapest : Stmt := topS 29
abbrev N_cheapest : List Str := ["prices", "offers", "basket"]
theorem sc_cheapest : FnScope N_cheapest ["prices", "offers", "basket"] (defScope s_cheapest) := ⟨rfl, rfl, rfl, by decide +kernel, rfl, by decide +kernel, by decide +kernel⟩
abbrev s_is_integer : Stmt := topS 10
abbrev N_is_integer : List Str := ["value"]
theorem sc_is_integer : FnScope N_is_integer ["value"] (defScope s_is_integer) := ⟨rfl, rfl, rfl, by decide +kernel, rfl, by decide +kernel, by decide +kernel⟩
abbrev s__left : Stmt := topS 25
abbrev N__left : List Str := ["offers", "basket", "bill", "left", "often", "counts", "_price", "own", "count"]
theorem sc__left : FnScope N__left ["offers", "basket", "bill"] (defScope s__left) := ⟨rfl, rfl, rfl, by decide +kernel, rfl, by decide +kernel, by decide +kernel⟩
abbrev s_bill_price : Stmt := topS 26
abbrev N_bill_price : List Str := ["prices", "offers", "basket", "bill", "one", "often", "offer"]
theorem sc_bill_price : FnScope N_bill_price ["prices", "offers", "basket", "bill"] (defScope s_bill_price) := ⟨rfl, rfl, rfl, by decide +kernel, rfl, by decide +kernel, by decide +kernel⟩
abbrev s_worth : Stmt := topS 30
abbrev N_worth : List Str := ["prices", "offers", "number", "basket", "rest"]
theorem sc_worth : FnScope N_worth ["prices", "offers", "number", "basket"] (defScope s_worth) := ⟨rfl, rfl, rfl, by decide +kernel, rfl, by decide +kernel, by decide +kernel⟩
abbrev s__law_told : Stmt := topS 37
abbrev N__law_told : List Str := ["call", "one", "two", "three", "four"]
theorem sc__law_told : FnScope N__law_told ["call", "one", "two", "three", "four"] (defScope s__law_told) := ⟨rfl, rfl, rfl, by decide +kernel, rfl, by decide +kernel, by decide +kernel⟩
abbrev s__law_refuses : Stmt := topS 38
abbrev N__law_refuses : List Str := ["offer", "wrong"]
theorem sc__law_refuses : FnScope N__law_refuses [] (defScope s__law_refuses) := ⟨rfl, rfl, rfl, by decide +kernel, rfl, by decide +kernel, by decide +kernel⟩
abbrev s_law : Stmt := topS 39
abbrev N_law : List Str := ["script", "draws", "things", "prices", "basket", "offers", "j", "k", "counts", "bills", "due", "bill", "drawn", "good", "less", "plain"]
theorem sc_law : FnScope N_law ["script"] (defScope s_law) := ⟨rfl, rfl, rfl, by decide +kernel, rfl, by decide +kernel, by decide +kernel⟩
/-- except BadBasket -/
def p_BadBasket : Nat → Option Bool
  | 1 => some false
  | 2 => some false
  | 3 => some false
  | 4 => some true
  | 5 => some false
  | 6 => some false
  | _ => none
/-- except BadBill -/
def p_BadBill : Nat → Option Bool
  | 1 => some false
  | 2 => some false
  | 3 => some false
  | 4 => some false
  | 5 => some false
  | 6 => some true
  | _ => none
/-- except BadNumber -/
def p_BadNumber : Nat → Option Bool
  | 1 => some false
  | 2 => some true
  | 3 => some false
  | 4 => some false
  | 5 => some false
  | 6 => some false
  | _ => none
/-- except BadOffers -/
def p_BadOffers : Nat → Option Bool
  | 1 => some false
  | 2 => some false
  | 3 => some false
  | 4 => some false
  | 5 => some true
  | 6 => some false
  | _ => none
/-- except BadPrices -/
def p_BadPrices : Nat → Option Bool
  | 1 => some false
  | 2 => some false
  | 3 => some true
  | 4 => some false
  | 5 => some false
  | 6 => some false
  | _ => none
/-- except TooMany -/
def p_TooMany : Nat → Option Bool
  | 1 => some true
  | 2 => some false
  | 3 => some false
  | 4 => some false
  | 5 => some false
  | 6 => some false
  | _ => none
/-- what the text gives -/
structure Fx (K : PySem.W.Frag) (mg : Str → Option Value) (ct : CT) : Prop where
  b_abs : mg "abs" = none
  b_all : mg "all" = none
  b_bool : mg "bool" = none
  b_int : mg "int" = none
  b_isinstance : mg "isinstance" = none
  b_len : mg "len" = none
  b_list : mg "list" = none
  b_max : mg "max" = none
  b_min : mg "min" = none
  b_range : mg "range" = none
  b_sorted : mg "sorted" = none
  b_sum : mg "sum" = none
  b_tuple : mg "tuple" = none
  b_zip : mg "zip" = none
  g_MOST_BASKETS : GlC K mg "MOST_BASKETS" (.int 3000)
  g_MOST_COUNT : GlC K mg "MOST_COUNT" (.int 9)
  g_MOST_OFFERS : GlC K mg "MOST_OFFERS" (.int 6)
  g_MOST_OFFER_PRICE : GlC K mg "MOST_OFFER_PRICE" (.int 100000)
  g_MOST_PRICE : GlC K mg "MOST_PRICE" (.int 10000)
  g_MOST_THINGS : GlC K mg "MOST_THINGS" (.int 6)
  d__law_draws : DefD K mg "_law_draws" s__law_draws ["script", "many"]
  d_is_whole : DefD K mg "is_whole" s_is_whole ["value", "least", "most"]
  d__check_prices : DefD K mg "_check_prices" s__check_prices ["prices"]
  d__are_counts : DefD K mg "_are_counts" s__are_counts ["prices", "value"]
  d__check_basket : DefD K mg "_check_basket" s__check_basket ["prices", "basket"]
  d__plain : DefD K mg "_plain" s__plain ["prices", "basket"]
  d_plain_price : DefD K mg "plain_price" s_plain_price ["prices", "basket"]
  d__law_left : DefD K mg "_law_left" s__law_left ["offers", "basket", "bill"]
  d__law_bills : DefD K mg "_law_bills" s__law_bills ["offers", "basket"]
  d__law_price : DefD K mg "_law_price" s__law_price ["prices", "offers", "basket", "bill"]
  d__law_cheapest : DefD K mg "_law_cheapest" s__law_cheapest ["prices", "offers", "basket"]
  d__is_offer : DefD K mg "_is_offer" s__is_offer ["prices", "value"]
  d__check : DefD K mg "_check" s__check ["prices", "offers", "basket"]
  d__check_few : DefD K mg "_check_few" s__check_few ["basket"]
  d__best : DefD K mg "_best" s__best ["prices", "offers", "basket"]
  d_cheapest : DefD K mg "cheapest" s_cheapest ["prices", "offers", "basket"]
  d_is_integer : DefD K mg "is_integer" s_is_integer ["value"]
  d__left : DefD K mg "_left" s__left ["offers", "basket", "bill"]
  d_bill_price : DefD K mg "bill_price" s_bill_price ["prices", "offers", "basket", "bill"]
  d_worth : DefD K mg "worth" s_worth ["prices", "offers", "number", "basket"]
  d__law_told : DefD K mg "_law_told" s__law_told ["call", "one", "two", "three", "four"]
  d__law_refuses : DefD K mg "_law_refuses" s__law_refuses []
  d_law : DefD K mg "law" s_law ["script"]
  x_BadBasket : ExcD K mg ct 4 "BadBasket"
  x_BadBill : ExcD K mg ct 6 "BadBill"
  x_BadNumber : ExcD K mg ct 2 "BadNumber"
  x_BadOffers : ExcD K mg ct 5 "BadOffers"
  x_BadPrices : ExcD K mg ct 3 "BadPrices"
  x_TooMany : ExcD K mg ct 1 "TooMany"
  n_BadBasket : mg "BadBasket" = some (.ref (ctA ct 4))
  n_BadBill : mg "BadBill" = some (.ref (ctA ct 6))
  n_BadNumber : mg "BadNumber" = some (.ref (ctA ct 2))
  n_BadOffers : mg "BadOffers" = some (.ref (ctA ct 5))
  n_BadPrices : mg "BadPrices" = some (.ref (ctA ct 3))
  n_TooMany : mg "TooMany" = some (.ref (ctA ct 1))
  p_BadBasket : ∀ n b, p_BadBasket n = some b → PySem.W.exmOne K (ct n) (.ref (ctA ct 4)) = some b
  p_BadBill : ∀ n b, p_BadBill n = some b → PySem.W.exmOne K (ct n) (.ref (ctA ct 6)) = some b
  p_BadNumber : ∀ n b, p_BadNumber n = some b → PySem.W.exmOne K (ct n) (.ref (ctA ct 2)) = some b
  p_BadOffers : ∀ n b, p_BadOffers n = some b → PySem.W.exmOne K (ct n) (.ref (ctA ct 5)) = some b
  p_BadPrices : ∀ n b, p_BadPrices n = some b → PySem.W.exmOne K (ct n) (.ref (ctA ct 3)) = some b
  p_TooMany : ∀ n b, p_TooMany n = some b → PySem.W.exmOne K (ct n) (.ref (ctA ct 1)) = some b
section
variable {P : Program} {w : World} {K : PySem.W.Frag} {mg : Str → Option Value} {base : Heap} {ct : CT}
def fb__law_draws_0 : Ms → Fl := (sCut [5] (sIf (t2 gtD (rVar 6) (vC (.int 0)))
  (sSeq
  (sApp 2 (toV (e2 modD (toV (eCall (g1 toIntD) [(rVar 6)])) (vC (.int 1009)))))
  (sSet 6 (ofV (toV (e2 divD (rVar 6) (vC (.int 1009)))))))
  sNil))
def fb__law_draws_1 : Ms → Fl := (sCut [4, 5, 6] (sSeq
  (sSet 6 (ofV (toV (eCall (g1 absD) [(rVar 4)]))))
  (sSeq
  (sSet 3 (ofV (toV (e2 modD (toV (eCall (g1 toIntD) [(toV (e2 addD (toV (e2 addD (toV (e2 mulD (rVar 3) (vC (.int 48271)))) (rVar 6))) (vC (.int 11))))])) (vC (.int 2147483647))))))
  (sCut [5, 6] (sIf (t2 geD (rVar 6) (toV (e2 powD (vC (.int 10)) (vC (.int 18)))))
  (sCut [5, 6] (sPre [0, 4, 5] (sFor (iArg rng1 [(vC (.int 60))]) (gSet 5)
  fb__law_draws_0)))
  (sApp 2 (toV (e2 modD (toV (e2 divD (toV (eCall (g1 toIntD) [(toV (e2 addD (toV (e2 mulD (rVar 3) (vC (.int 16807)))) (vC (.int 5))))])) (vC (.int 3)))) (vC (.int 65521))))))))))
def fb__law_draws_2 : Ms → Fl := (sCut [5] (sIf (t2 ltD (toV (eCall (g1 lenD) [(rVar 2)])) (rVar 1))
  (sSeq
  (sSet 3 (ofV (toV (e2 modD (toV (eCall (g1 toIntD) [(toV (e2 addD (toV (e2 addD (toV (e2 mulD (rVar 3) (vC (.int 69621)))) (rVar 5))) (vC (.int 1))))])) (vC (.int 2147483647))))))
  (sApp 2 (toV (e2 modD (toV (e2 divD (toV (eCall (g1 toIntD) [(rVar 3)])) (vC (.int 7)))) (vC (.int 65521))))))
  sNil))
def b__law_draws : Ms → Fl := (sSeq
  (sSet 2 (eLst []))
  (sSeq
  (sSet 3 (ofV (vC (.int 7))))
  (sSeq
  (sCut [0, 4, 5, 6] (sPre [4, 5, 6] (sFor (iSeq (toV (eScr 0 63))) (gSet 4)
  fb__law_draws_1)))
  (sSeq
  (sCut [3, 5] (sPre [0, 4, 5, 6] (sFor (iArg rng1 [(vVar 1)]) (gSet 5)
  fb__law_draws_2)))
  (sRet (toV (eSl (rVar 2) oNone (oSome (rVar 1)))))))))
abbrev S__law_draws (script_ many_ draws_ seed_ cell_ k_ number_ : Option W := none) : Ms := [script_, many_, draws_, seed_, cell_, k_, number_]
def m__law_draws : Ms → Rz PyData := fnW 7 b__law_draws
set_option maxHeartbeats 8000000 in
theorem ok__law_draws (G : Fx K mg ct) : CallW P w K mg base ct 1 "_law_draws" 2 m__law_draws := callW_of (N := N__law_draws) (n := 7) (g := b__law_draws) G.d__law_draws sc__law_draws rfl rfl fun f cdv A outer s H E hr => by
  have S := sc__law_draws
  have tk : Takes (cxOf (L2.CX P w) P w K mg base N__law_draws "_law_draws" (defScope s__law_draws) f cdv A outer s H E) (fun cls d _ H => E cls d H) := takes_of rfl rfl rfl rfl
  have hp := passes_of (X := cxOf (L2.CX P w) P w K mg base N__law_draws "_law_draws" (defScope s__law_draws) f cdv A outer s H E) rfl
  have hu := room_u hr 101 (by decide)
  have hu64 := room_u hr 64 (by decide)
  have hu105 := room_u hr 105 (by decide)
  exact (ds_cons (ds_set 2 (de_lst da_nil) S.nd)
  (ds_cons (ds_set 3 (DV.toE dv_int) S.nd)
  (ds_cons (ds_cut [0, 4, 5, 6] (ds_pre [4, 5, 6] (ds_for hp (di_seq (DE.v (de_scr 0))) (dg_name 4 S.nd)
  (dss_cut [4, 5, 6] (ds_cons (ds_set 6 (DV.toE (DE.v (de_callB call_abs ok_absD (by decide +kernel) G.b_abs (db_cons (dr_var 4) db_nil)))) S.nd)
  (ds_cons (ds_set 3 (DV.toE (DE.v (de_op op_mod ok_modD (DV.rd (DE.v (de_callTy call_int1 ok_toIntD (by decide +kernel) G.b_int (db_cons (DV.rd (DE.v (de_op op_addD ok_addD (DV.rd (DE.v (de_op op_addD ok_addD (DV.rd (DE.v (de_op op_mulD ok_mulD (dr_var 3) (DV.rd dv_int)))) (dr_var 6)))) (DV.rd dv_int)))) db_nil)))) (DV.rd dv_int)))) S.nd)
  (ds_one (ds_cut [5, 6] (ds_if (dt_cmp (op_geG hu) cmpOk_of (dr_var 6) (DV.rd (DE.v (de_op op_pow ok_powD (DV.rd dv_int) (DV.rd dv_int)))) (by rfl))
  (ds_one (ds_cut [5, 6] (ds_pre [0, 4, 5] (ds_for hp (di_range1 (da_cons dv_int da_nil) G.b_range) (dg_name 5 S.nd)
  (dss_cut [5] (ds_one (ds_if (dt_cmp (op_gtG hu) cmpOk_of (dr_var 6) (DV.rd dv_int) (by rfl))
  (ds_cons (ds_app 2 (da_cons (DE.v (de_op op_mod ok_modD (DV.rd (DE.v (de_callTy call_int1 ok_toIntD (by decide +kernel) G.b_int (db_cons (dr_var 6) db_nil)))) (DV.rd dv_int))) da_nil))
  (ds_one (ds_set 6 (DV.toE (DE.v (de_op op_fdiv ok_divD (dr_var 6) (DV.rd dv_int)))) S.nd)))
  ds_nil)))))))
  (ds_one (ds_app 2 (da_cons (DE.v (de_op op_mod ok_modD (DV.rd (DE.v (de_op op_fdiv ok_divD (DV.rd (DE.v (de_callTy call_int1 ok_toIntD (by decide +kernel) G.b_int (db_cons (DV.rd (DE.v (de_op op_addD ok_addD (DV.rd (DE.v (de_op op_mulD ok_mulD (dr_var 3) (DV.rd dv_int)))) (DV.rd dv_int)))) db_nil)))) (DV.rd dv_int)))) (DV.rd dv_int))) da_nil))))))))))))
  (ds_cons (ds_cut [3, 5] (ds_pre [0, 4, 5, 6] (ds_for hp (di_range1 (da_cons (dv_var 1) da_nil) G.b_range) (dg_name 5 S.nd)
  (dss_cut [5] (ds_one (ds_if (dt_cmp (op_ltG hu) cmpOk_of (DV.rd (DE.v (de_callB call_len ok_lenD (by decide +kernel) G.b_len (db_cons (dr_var 2) db_nil)))) (dr_var 1) (by rfl))
  (ds_cons (ds_set 3 (DV.toE (DE.v (de_op op_mod ok_modD (DV.rd (DE.v (de_callTy call_int1 ok_toIntD (by decide +kernel) G.b_int (db_cons (DV.rd (DE.v (de_op op_addD ok_addD (DV.rd (DE.v (de_op op_addD ok_addD (DV.rd (DE.v (de_op op_mulD ok_mulD (dr_var 3) (DV.rd dv_int)))) (dr_var 5)))) (DV.rd dv_int)))) db_nil)))) (DV.rd dv_int)))) S.nd)
  (ds_one (ds_app 2 (da_cons (DE.v (de_op op_mod ok_modD (DV.rd (DE.v (de_op op_fdiv ok_divD (DV.rd (DE.v (de_callTy call_int1 ok_toIntD (by decide +kernel) G.b_int (db_cons (dr_var 3) db_nil)))) (DV.rd dv_int)))) (DV.rd dv_int))) da_nil))))
  ds_nil))))))
  (ds_one (ds_ret (DE.v (de_sl (dr_var 2) do_none (do_some (dr_var 1))))))))))
def b_is_whole : Ms → Fl := (sRet (vAnd (vIsi isInt (rVar 0)) (vAnd (vNot (vIsi isBool (rVar 0))) (v3 leD leD (rVar 1) (rVar 0) (rVar 2)))))
abbrev S_is_whole (value_ least_ most_ : Option W := none) : Ms := [value_, least_, most_]
def m_is_whole : Ms → Rz PyData := fnW 3 b_is_whole
set_option maxHeartbeats 8000000 in
theorem ok_is_whole (G : Fx K mg ct) : CallW P w K mg base ct 1 "is_whole" 3 m_is_whole := callW_of (N := N_is_whole) (n := 3) (g := b_is_whole) G.d_is_whole sc_is_whole rfl rfl fun f cdv A outer s H E hr => by
  have S := sc_is_whole
  have tk : Takes (cxOf (L2.CX P w) P w K mg base N_is_whole "is_whole" (defScope s_is_whole) f cdv A outer s H E) (fun cls d _ H => E cls d H) := takes_of rfl rfl rfl rfl
  have hp := passes_of (X := cxOf (L2.CX P w) P w K mg base N_is_whole "is_whole" (defScope s_is_whole) f cdv A outer s H E) rfl
  have hu := room_u hr 101 (by decide)
  have hu64 := room_u hr 64 (by decide)
  have hu105 := room_u hr 105 (by decide)
  exact (ds_one (ds_ret (dv_and (dv_isi isi_int (by decide +kernel) G.b_int G.b_isinstance (dr_var 0)) (dv_and (dv_not (dv_isi isi_bool (by decide +kernel) G.b_bool G.b_isinstance (dr_var 0))) (dv_one (dv_chain (op_leG hu) (op_leG hu) cmpOk_of cmpOk_of (dr_var 1) (dr_var 0) (dr_var 2)))))))
def lc__check_prices_0 : Ms → Rz W := (eLc [1] (iSeq (vVar 0)) (gSet 1) (fun _ => .ok true) (vFn m_is_whole [(vVar 1), (vC (.int 1)), (vC (.int 10000))]))
def b__check_prices : Ms → Fl := (sSeq
  (sIf (tOr' (tNot' (tV' (vIsi isTup (rVar 0)))) (tNot' (t3 leD leD (vC (.int 1)) (toV (eCall (g1 lenD) [(rVar 0)])) (vC (.int 6)))))
  (sRaise 3)
  sNil)
  (sIf (tNot' (tV' (toV (eCall (g1 allD) [(toV lc__check_prices_0)]))))
  (sRaise 3)
  sNil))
abbrev S__check_prices (prices_ one_ : Option W := none) : Ms := [prices_, one_]
def m__check_prices : Ms → Rz PyData := fnW 2 b__check_prices
set_option maxHeartbeats 8000000 in
theorem ok__check_prices (G : Fx K mg ct) : CallW P w K mg base ct 2 "_check_prices" 1 m__check_prices := callW_of (N := N__check_prices) (n := 2) (g := b__check_prices) G.d__check_prices sc__check_prices rfl rfl fun f cdv A outer s H E hr => by
  have S := sc__check_prices
  have tk : Takes (cxOf (L2.CX P w) P w K mg base N__check_prices "_check_prices" (defScope s__check_prices) f cdv A outer s H E) (fun cls d _ H => E cls d H) := takes_of rfl rfl rfl rfl
  have hp := passes_of (X := cxOf (L2.CX P w) P w K mg base N__check_prices "_check_prices" (defScope s__check_prices) f cdv A outer s H E) rfl
  have hu := room_u hr 101 (by decide)
  have hu64 := room_u hr 64 (by decide)
  have hu105 := room_u hr 105 (by decide)
  exact (ds_cons (ds_if (DW.t (dw_or (dt_not (dt_val (DV.rd (dv_isi isi_tup (by decide +kernel) G.b_tuple G.b_isinstance (dr_var 0))))) (dw_or1 (dt_not (dt_chain (op_leG hu) (op_leG hu) cmpOk_of cmpOk_of (DV.rd dv_int) (DV.rd (DE.v (de_callB call_len ok_lenD (by decide +kernel) G.b_len (db_cons (dr_var 0) db_nil)))) (DV.rd (dv_glob G.g_MOST_THINGS)))))))
  (ds_one (ds_raise G.x_BadPrices tk))
  ds_nil)
  (ds_one (ds_if (dt_not (dt_val (DV.rd (DE.v (de_callB (cr_all rfl) ok_allD (by decide +kernel) G.b_all (db_cons (DV.rd (DE.v (de_lc S.nd (di_seq (dv_var 0)) (blkOk_by (own := [("one", 1)]) (by rfl)) (fun _ _ _ _ _ => (dg_name 1 S.nd)) (fun _ _ _ _ _ => dts_nil) (fun _ _ _ _ _ => (dv_call (ok_is_whole G) hr (by decide) takes0 (da_cons (dv_var 1) (da_cons dv_int (da_cons (dv_glob G.g_MOST_PRICE) da_nil)))))))) db_nil))))))
  (ds_one (ds_raise G.x_BadPrices tk))
  ds_nil)))
def lc__are_counts_0 : Ms → Rz W := (eLc [2] (iSeq (vVar 1)) (gSet 2) (fun _ => .ok true) (vFn m_is_whole [(vVar 2), (vC (.int 0)), (vC (.int 9))]))
def b__are_counts : Ms → Fl := (sSeq
  (sIf (tOr' (tNot' (tV' (vIsi isTup (rVar 1)))) (t2 neD (toV (eCall (g1 lenD) [(rVar 1)])) (toV (eCall (g1 lenD) [(rVar 0)]))))
  (sRet (vC (.bool false)))
  sNil)
  (sRet (toV (eCall (g1 allD) [(toV lc__are_counts_0)]))))
abbrev S__are_counts (prices_ value_ one_ : Option W := none) : Ms := [prices_, value_, one_]
def m__are_counts : Ms → Rz PyData := fnW 3 b__are_counts
set_option maxHeartbeats 8000000 in
theorem ok__are_counts (G : Fx K mg ct) : CallW P w K mg base ct 2 "_are_counts" 2 m__are_counts := callW_of (N := N__are_counts) (n := 3) (g := b__are_counts) G.d__are_counts sc__are_counts rfl rfl fun f cdv A outer s H E hr => by
  have S := sc__are_counts
  have tk : Takes (cxOf (L2.CX P w) P w K mg base N__are_counts "_are_counts" (defScope s__are_counts) f cdv A outer s H E) (fun cls d _ H => E cls d H) := takes_of rfl rfl rfl rfl
  have hp := passes_of (X := cxOf (L2.CX P w) P w K mg base N__are_counts "_are_counts" (defScope s__are_counts) f cdv A outer s H E) rfl
  have hu := room_u hr 101 (by decide)
  have hu64 := room_u hr 64 (by decide)
  have hu105 := room_u hr 105 (by decide)
  exact (ds_cons (ds_if (DW.t (dw_or (dt_not (dt_val (DV.rd (dv_isi isi_tup (by decide +kernel) G.b_tuple G.b_isinstance (dr_var 1))))) (dw_or1 (dt_cmp (op_neG hu) cmpOk_of (DV.rd (DE.v (de_callB call_len ok_lenD (by decide +kernel) G.b_len (db_cons (dr_var 1) db_nil)))) (DV.rd (DE.v (de_callB call_len ok_lenD (by decide +kernel) G.b_len (db_cons (dr_var 0) db_nil)))) (by rfl)))))
  (ds_one (ds_ret dv_bl))
  ds_nil)
  (ds_one (ds_ret (DE.v (de_callB (cr_all rfl) ok_allD (by decide +kernel) G.b_all (db_cons (DV.rd (DE.v (de_lc S.nd (di_seq (dv_var 1)) (blkOk_by (own := [("one", 2)]) (by rfl)) (fun _ _ _ _ _ => (dg_name 2 S.nd)) (fun _ _ _ _ _ => dts_nil) (fun _ _ _ _ _ => (dv_call (ok_is_whole G) hr (by decide) takes0 (da_cons (dv_var 2) (da_cons dv_int (da_cons (dv_glob G.g_MOST_COUNT) da_nil)))))))) db_nil))))))
def b__check_basket : Ms → Fl := (sIf (tNot' (tV' (vFn m__are_counts [(vVar 0), (vVar 1)])))
  (sRaise 4)
  sNil)
abbrev S__check_basket (prices_ basket_ : Option W := none) : Ms := [prices_, basket_]
def m__check_basket : Ms → Rz PyData := fnW 2 b__check_basket
set_option maxHeartbeats 8000000 in
theorem ok__check_basket (G : Fx K mg ct) : CallW P w K mg base ct 3 "_check_basket" 2 m__check_basket := callW_of (N := N__check_basket) (n := 2) (g := b__check_basket) G.d__check_basket sc__check_basket rfl rfl fun f cdv A outer s H E hr => by
  have S := sc__check_basket
  have tk : Takes (cxOf (L2.CX P w) P w K mg base N__check_basket "_check_basket" (defScope s__check_basket) f cdv A outer s H E) (fun cls d _ H => E cls d H) := takes_of rfl rfl rfl rfl
  have hp := passes_of (X := cxOf (L2.CX P w) P w K mg base N__check_basket "_check_basket" (defScope s__check_basket) f cdv A outer s H E) rfl
  have hu := room_u hr 101 (by decide)
  have hu64 := room_u hr 64 (by decide)
  have hu105 := room_u hr 105 (by decide)
  exact (ds_one (ds_if (dt_not (dt_val (DV.rd (dv_call (ok__are_counts G) hr (by decide) tk (da_cons (dv_var 0) (da_cons (dv_var 1) da_nil))))))
  (ds_one (ds_raise G.x_BadBasket tk))
  ds_nil))
def lc__plain_0 : Ms → Rz W := (eLc [2, 3] (iArg zipG [(vVar 0), (vVar 1)]) (gTup' 2 (gCons (gSet 2) (gCons (gSet 3) gNil))) (fun _ => .ok true) (toV (e2 mulD (rVar 2) (rVar 3))))
def b__plain : Ms → Fl := (sRet (toV (eCall (g1 sumD) [(toV lc__plain_0)])))
abbrev S__plain (prices_ basket_ price_ count_ : Option W := none) : Ms := [prices_, basket_, price_, count_]
def m__plain : Ms → Rz PyData := fnW 4 b__plain
set_option maxHeartbeats 8000000 in
theorem ok__plain (G : Fx K mg ct) : CallW P w K mg base ct 1 "_plain" 2 m__plain := callW_of (N := N__plain) (n := 4) (g := b__plain) G.d__plain sc__plain rfl rfl fun f cdv A outer s H E hr => by
  have S := sc__plain
  have tk : Takes (cxOf (L2.CX P w) P w K mg base N__plain "_plain" (defScope s__plain) f cdv A outer s H E) (fun cls d _ H => E cls d H) := takes_of rfl rfl rfl rfl
  have hp := passes_of (X := cxOf (L2.CX P w) P w K mg base N__plain "_plain" (defScope s__plain) f cdv A outer s H E) rfl
  have hu := room_u hr 101 (by decide)
  have hu64 := room_u hr 64 (by decide)
  have hu105 := room_u hr 105 (by decide)
  exact (ds_one (ds_ret (DE.v (de_callB (cr_sumD rfl) ok_sumD (by decide +kernel) G.b_sum (db_cons (DV.rd (DE.v (de_lc S.nd (di_zipG (da_cons (dv_var 0) (da_cons (dv_var 1) da_nil)) G.b_zip) (blkOk_by (own := [("price", 2), ("count", 3)]) (by rfl)) (fun _ _ _ _ _ => (dg_tup (dgs_cons (dg_name 2 S.nd) (dgs_cons (dg_name 3 S.nd) dgs_nil)))) (fun _ _ _ _ _ => dts_nil) (fun _ _ _ _ _ => (DE.v (de_op op_mulD ok_mulD (dr_var 2) (dr_var 3))))))) db_nil)))))
def b_plain_price : Ms → Fl := (sSeq
  (sExpr (vFn m__check_prices [(vVar 0)]))
  (sSeq
  (sExpr (vFn m__check_basket [(vVar 0), (vVar 1)]))
  (sRet (vFn m__plain [(vVar 0), (vVar 1)]))))
abbrev S_plain_price (prices_ basket_ : Option W := none) : Ms := [prices_, basket_]
def m_plain_price : Ms → Rz PyData := fnW 2 b_plain_price
set_option maxHeartbeats 8000000 in
theorem ok_plain_price (G : Fx K mg ct) : CallW P w K mg base ct 4 "plain_price" 2 m_plain_price := callW_of (N := N_plain_price) (n := 2) (g := b_plain_price) G.d_plain_price sc_plain_price rfl rfl fun f cdv A outer s H E hr => by
  have S := sc_plain_price
  have tk : Takes (cxOf (L2.CX P w) P w K mg base N_plain_price "plain_price" (defScope s_plain_price) f cdv A outer s H E) (fun cls d _ H => E cls d H) := takes_of rfl rfl rfl rfl
  have hp := passes_of (X := cxOf (L2.CX P w) P w K mg base N_plain_price "plain_price" (defScope s_plain_price) f cdv A outer s H E) rfl
  have hu := room_u hr 101 (by decide)
  have hu64 := room_u hr 64 (by decide)
  have hu105 := room_u hr 105 (by decide)
  exact (ds_cons (ds_expr (dv_call (ok__check_prices G) hr (by decide) tk (da_cons (dv_var 0) da_nil)))
  (ds_cons (ds_expr (dv_call (ok__check_basket G) hr (by decide) tk (da_cons (dv_var 0) (da_cons (dv_var 1) da_nil))))
  (ds_one (ds_ret (dv_call (ok__plain G) hr (by decide) tk (da_cons (dv_var 0) (da_cons (dv_var 1) da_nil)))))))
def lc__law_left_0 : Ms → Rz W := (eLc [4] (iArg rng1 [(toV (eCall (g1 lenD) [(rVar 0)]))]) (gSet 4) (fun _ => .ok true) (toV (e2 mulD (toV (e2 ixD (rVar 2) (rVar 4))) (toV (e2 ixD (toV (e2 ixD (toV (e2 ixD (rVar 0) (rVar 4))) (vC (.int 0)))) (rVar 3))))))
def lc__law_left_1 : Ms → Rz W := (eLc [3] (iArg rng1 [(toV (eCall (g1 lenD) [(rVar 1)]))]) (gSet 3) (fun _ => .ok true) (toV (e2 subD (toV (e2 ixD (rVar 1) (rVar 3))) (toV (eCall (g1 sumD) [(toV lc__law_left_0)])))))
def b__law_left : Ms → Fl := (sRet (toV lc__law_left_1))
abbrev S__law_left (offers_ basket_ bill_ k_ j_ : Option W := none) : Ms := [offers_, basket_, bill_, k_, j_]
def m__law_left : Ms → Rz PyData := fnW 5 b__law_left
set_option maxHeartbeats 8000000 in
theorem ok__law_left (G : Fx K mg ct) : CallW P w K mg base ct 1 "_law_left" 3 m__law_left := callW_of (N := N__law_left) (n := 5) (g := b__law_left) G.d__law_left sc__law_left rfl rfl fun f cdv A outer s H E hr => by
  have S := sc__law_left
  have tk : Takes (cxOf (L2.CX P w) P w K mg base N__law_left "_law_left" (defScope s__law_left) f cdv A outer s H E) (fun cls d _ H => E cls d H) := takes_of rfl rfl rfl rfl
  have hp := passes_of (X := cxOf (L2.CX P w) P w K mg base N__law_left "_law_left" (defScope s__law_left) f cdv A outer s H E) rfl
  have hu := room_u hr 101 (by decide)
  have hu64 := room_u hr 64 (by decide)
  have hu105 := room_u hr 105 (by decide)
  exact (ds_one (ds_ret (DE.v (de_lc S.nd (di_range1 (da_cons (DE.v (de_callB call_len ok_lenD (by decide +kernel) G.b_len (db_cons (dr_var 1) db_nil))) da_nil) G.b_range) (blkOk_by (own := [("k", 3)]) (by rfl)) (fun _ _ _ _ _ => (dg_name 3 S.nd)) (fun _ _ _ _ _ => dts_nil) (fun _ _ _ _ _ => (DE.v (de_op op_sub ok_subD (DV.rd (DE.v (de_ix (dr_var 1) (dr_var 3)))) (DV.rd (DE.v (de_callB (cr_sumD rfl) ok_sumD (by decide +kernel) G.b_sum (db_cons (DV.rd (DE.v (de_lc S.nd (di_range1 (da_cons (DE.v (de_callB call_len ok_lenD (by decide +kernel) G.b_len (db_cons (dr_var 0) db_nil))) da_nil) G.b_range) (blkOk_by (own := [("j", 4)]) (by rfl)) (fun _ _ _ _ _ => (dg_name 4 S.nd)) (fun _ _ _ _ _ => dts_nil) (fun _ _ _ _ _ => (DE.v (de_op op_mulD ok_mulD (DV.rd (DE.v (de_ix (dr_var 2) (dr_var 4)))) (DV.rd (DE.v (de_ix (DV.rd (DE.v (de_ix (DV.rd (DE.v (de_ix (dr_var 0) (dr_var 4)))) (DV.rd dv_int)))) (dr_var 3)))))))))) db_nil)))))))))))
def fb__law_bills_0 : Ms → Fl := (sSeq
  (sApp 4 (toV (e2 addD (rVar 5) (eTup [(vVar 6)]))))
  (sSet 6 (ofV (toV (e2 addD (rVar 6) (vC (.int 1)))))))
def fb__law_bills_1 : Ms → Fl := (sCut [5, 6] (sSeq
  (sSet 6 (ofV (vC (.int 0))))
  (sCut [5, 6] (sPre [2] (goWhile (t2 geD (toV (eCall (g12 minD1 minT2) [(vFn m__law_left [(toV (eSl (rVar 0) oNone (oSome (toV (e2 addD (rVar 3) (vC (.int 1))))))), (vVar 1), (toV (e2 addD (rVar 5) (eTup [(vVar 6)])))])])) (vC (.int 0)))
  fb__law_bills_0 1000000)))))
def fb__law_bills_2 : Ms → Fl := (sCut [3, 4, 5, 6] (sSeq
  (sSet 4 (eLst []))
  (sSeq
  (sCut [2, 3, 5, 6] (sPre [5, 6] (sFor (iSeq (vVar 2)) (gSet 5)
  fb__law_bills_1)))
  (sFrz 4 (sSet 2 (ofV (vVar 4)))))))
def b__law_bills : Ms → Fl := (sSeq
  (sSet 2 (ofV (toV (eLst [(eTup [])]))))
  (sSeq
  (sCut [0, 1, 3, 4, 5, 6] (sPre [3, 4, 5, 6] (sFor (iArg rng1 [(toV (eCall (g1 lenD) [(rVar 0)]))]) (gSet 3)
  fb__law_bills_2)))
  (sRet (toV (eCall (g1 sortE) [(rVar 2)])))))
abbrev S__law_bills (offers_ basket_ rows_ j_ longer_ row_ often_ : Option W := none) : Ms := [offers_, basket_, rows_, j_, longer_, row_, often_]
def m__law_bills : Ms → Rz PyData := fnW 7 b__law_bills
set_option maxHeartbeats 8000000 in
theorem ok__law_bills (G : Fx K mg ct) : CallW P w K mg base ct 2 "_law_bills" 2 m__law_bills := callW_of (N := N__law_bills) (n := 7) (g := b__law_bills) G.d__law_bills sc__law_bills rfl rfl fun f cdv A outer s H E hr => by
  have S := sc__law_bills
  have tk : Takes (cxOf (L2.CX P w) P w K mg base N__law_bills "_law_bills" (defScope s__law_bills) f cdv A outer s H E) (fun cls d _ H => E cls d H) := takes_of rfl rfl rfl rfl
  have hp := passes_of (X := cxOf (L2.CX P w) P w K mg base N__law_bills "_law_bills" (defScope s__law_bills) f cdv A outer s H E) rfl
  have hu := room_u hr 101 (by decide)
  have hu64 := room_u hr 64 (by decide)
  have hu105 := room_u hr 105 (by decide)
  exact (ds_cons (ds_set 2 (DV.toE (DE.v (de_lst (da_cons (dv_tup da_nil) da_nil)))) S.nd)
  (ds_cons (ds_cut [0, 1, 3, 4, 5, 6] (ds_pre [3, 4, 5, 6] (ds_for hp (di_range1 (da_cons (DE.v (de_callB call_len ok_lenD (by decide +kernel) G.b_len (db_cons (dr_var 0) db_nil))) da_nil) G.b_range) (dg_name 3 S.nd)
  (dss_cut [3, 4, 5, 6] (ds_cons (ds_set 4 (de_lst da_nil) S.nd)
  (ds_cons (ds_cut [2, 3, 5, 6] (ds_pre [5, 6] (ds_for hp (di_seq (dv_var 2)) (dg_name 5 S.nd)
  (dss_cut [5, 6] (ds_cons (ds_set 6 (DV.toE dv_int) S.nd)
  (ds_one (ds_cut [5, 6] (ds_pre [2] (ds_while 1000000 hp (dt_cmp (op_geG hu) cmpOk_of (DV.rd (DE.v (de_callB (cr_minB rfl hu105) ok_minB (by decide +kernel) G.b_min (db_cons (DV.rd (dv_call (ok__law_left G) hr (by decide) tk (da_cons (DE.v (de_sl (dr_var 0) do_none (do_some (DV.rd (DE.v (de_op op_addD ok_addD (dr_var 3) (DV.rd dv_int))))))) (da_cons (dv_var 1) (da_cons (DE.v (de_op op_addD ok_addD (dr_var 5) (DV.rd (dv_tup (da_cons (dv_var 6) da_nil))))) da_nil))))) db_nil)))) (DV.rd dv_int) (by rfl))
  (ds_cons (ds_app 4 (da_cons (DE.v (de_op op_addD ok_addD (dr_var 5) (DV.rd (dv_tup (da_cons (dv_var 6) da_nil))))) da_nil))
  (ds_one (ds_set 6 (DV.toE (DE.v (de_op op_addD ok_addD (dr_var 6) (DV.rd dv_int)))) S.nd))))))))))))
  (ds_one (ds_frz1 4 (ds_set 2 (DV.toE (dv_var 4)) S.nd)))))))))
  (ds_one (ds_ret (DE.v (de_callB (cr_sortE hu105) ok_sortE (by decide +kernel) G.b_sorted (db_cons (dr_var 2) db_nil)))))))
def lc__law_price_0 : Ms → Rz W := (eLc [5] (iArg rng1 [(toV (eCall (g1 lenD) [(rVar 0)]))]) (gSet 5) (fun _ => .ok true) (toV (e2 mulD (toV (e2 ixD (rVar 0) (rVar 5))) (toV (e2 ixD (rVar 4) (rVar 5))))))
def lc__law_price_1 : Ms → Rz W := (eLc [6] (iArg rng1 [(toV (eCall (g1 lenD) [(rVar 1)]))]) (gSet 6) (fun _ => .ok true) (toV (e2 mulD (toV (e2 ixD (rVar 3) (rVar 6))) (toV (e2 ixD (toV (e2 ixD (rVar 1) (rVar 6))) (vC (.int 1)))))))
def b__law_price : Ms → Fl := (sSeq
  (sSet 4 (ofV (vFn m__law_left [(vVar 1), (vVar 2), (vVar 3)])))
  (sRet (toV (e2 addD (toV (eCall (g1 sumD) [(toV lc__law_price_0)])) (toV (eCall (g1 sumD) [(toV lc__law_price_1)]))))))
abbrev S__law_price (prices_ offers_ basket_ bill_ left_ k_ j_ : Option W := none) : Ms := [prices_, offers_, basket_, bill_, left_, k_, j_]
def m__law_price : Ms → Rz PyData := fnW 7 b__law_price
set_option maxHeartbeats 8000000 in
theorem ok__law_price (G : Fx K mg ct) : CallW P w K mg base ct 2 "_law_price" 4 m__law_price := callW_of (N := N__law_price) (n := 7) (g := b__law_price) G.d__law_price sc__law_price rfl rfl fun f cdv A outer s H E hr => by
  have S := sc__law_price
  have tk : Takes (cxOf (L2.CX P w) P w K mg base N__law_price "_law_price" (defScope s__law_price) f cdv A outer s H E) (fun cls d _ H => E cls d H) := takes_of rfl rfl rfl rfl
  have hp := passes_of (X := cxOf (L2.CX P w) P w K mg base N__law_price "_law_price" (defScope s__law_price) f cdv A outer s H E) rfl
  have hu := room_u hr 101 (by decide)
  have hu64 := room_u hr 64 (by decide)
  have hu105 := room_u hr 105 (by decide)
  exact (ds_cons (ds_set 4 (DV.toE (dv_call (ok__law_left G) hr (by decide) tk (da_cons (dv_var 1) (da_cons (dv_var 2) (da_cons (dv_var 3) da_nil))))) S.nd)
  (ds_one (ds_ret (DE.v (de_op op_addD ok_addD (DV.rd (DE.v (de_callB (cr_sumD rfl) ok_sumD (by decide +kernel) G.b_sum (db_cons (DV.rd (DE.v (de_lc S.nd (di_range1 (da_cons (DE.v (de_callB call_len ok_lenD (by decide +kernel) G.b_len (db_cons (dr_var 0) db_nil))) da_nil) G.b_range) (blkOk_by (own := [("k", 5)]) (by rfl)) (fun _ _ _ _ _ => (dg_name 5 S.nd)) (fun _ _ _ _ _ => dts_nil) (fun _ _ _ _ _ => (DE.v (de_op op_mulD ok_mulD (DV.rd (DE.v (de_ix (dr_var 0) (dr_var 5)))) (DV.rd (DE.v (de_ix (dr_var 4) (dr_var 5)))))))))) db_nil)))) (DV.rd (DE.v (de_callB (cr_sumD rfl) ok_sumD (by decide +kernel) G.b_sum (db_cons (DV.rd (DE.v (de_lc S.nd (di_range1 (da_cons (DE.v (de_callB call_len ok_lenD (by decide +kernel) G.b_len (db_cons (dr_var 1) db_nil))) da_nil) G.b_range) (blkOk_by (own := [("j", 6)]) (by rfl)) (fun _ _ _ _ _ => (dg_name 6 S.nd)) (fun _ _ _ _ _ => dts_nil) (fun _ _ _ _ _ => (DE.v (de_op op_mulD ok_mulD (DV.rd (DE.v (de_ix (dr_var 3) (dr_var 6)))) (DV.rd (DE.v (de_ix (DV.rd (DE.v (de_ix (dr_var 1) (dr_var 6)))) (DV.rd dv_int)))))))))) db_nil)))))))))
def lc__law_cheapest_0 : Ms → Rz W := (eLc [3] (iSeq (vFn m__law_bills [(vVar 1), (vVar 2)])) (gSet 3) (fun _ => .ok true) (eTup [(vFn m__law_price [(vVar 0), (vVar 1), (vVar 2), (vVar 3)]), (vVar 3)]))
def b__law_cheapest : Ms → Fl := (sRet (toV (eCall (g12 minD1 minT2) [(toV lc__law_cheapest_0)])))
abbrev S__law_cheapest (prices_ offers_ basket_ bill_ : Option W := none) : Ms := [prices_, offers_, basket_, bill_]
def m__law_cheapest : Ms → Rz PyData := fnW 4 b__law_cheapest
set_option maxHeartbeats 8000000 in
theorem ok__law_cheapest (G : Fx K mg ct) : CallW P w K mg base ct 3 "_law_cheapest" 3 m__law_cheapest := callW_of (N := N__law_cheapest) (n := 4) (g := b__law_cheapest) G.d__law_cheapest sc__law_cheapest rfl rfl fun f cdv A outer s H E hr => by
  have S := sc__law_cheapest
  have tk : Takes (cxOf (L2.CX P w) P w K mg base N__law_cheapest "_law_cheapest" (defScope s__law_cheapest) f cdv A outer s H E) (fun cls d _ H => E cls d H) := takes_of rfl rfl rfl rfl
  have hp := passes_of (X := cxOf (L2.CX P w) P w K mg base N__law_cheapest "_law_cheapest" (defScope s__law_cheapest) f cdv A outer s H E) rfl
  have hu := room_u hr 101 (by decide)
  have hu64 := room_u hr 64 (by decide)
  have hu105 := room_u hr 105 (by decide)
  exact (ds_one (ds_ret (DE.v (de_callB (cr_minB rfl hu105) ok_minB (by decide +kernel) G.b_min (db_cons (DV.rd (DE.v (de_lc S.nd (di_seq (dv_call (ok__law_bills G) hr (by decide) tk (da_cons (dv_var 1) (da_cons (dv_var 2) da_nil)))) (blkOk_by (own := [("bill", 3)]) (by rfl)) (fun _ _ _ _ _ => (dg_name 3 S.nd)) (fun _ _ _ _ _ => dts_nil) (fun _ _ _ _ _ => (dv_tup (da_cons (dv_call (ok__law_price G) hr (by decide) takes0 (da_cons (dv_var 0) (da_cons (dv_var 1) (da_cons (dv_var 2) (da_cons (dv_var 3) da_nil))))) (da_cons (dv_var 3) da_nil))))))) db_nil)))))
def b__is_offer : Ms → Fl := (sSeq
  (sIf (tOr' (tNot' (tV' (vIsi isTup (rVar 1)))) (tOr' (t2 neD (toV (eCall (g1 lenD) [(rVar 1)])) (vC (.int 2))) (tOr' (tNot' (tV' (vFn m__are_counts [(vVar 0), (toV (e2 ixD (rVar 1) (vC (.int 0))))]))) (t2 eqD (toV (eCall (g1 sumD) [(toV (e2 ixD (rVar 1) (vC (.int 0))))])) (vC (.int 0))))))
  (sRet (vC (.bool false)))
  sNil)
  (sRet (vFn m_is_whole [(toV (e2 ixD (rVar 1) (vC (.int 1)))), (vC (.int 0)), (vC (.int 100000))])))
abbrev S__is_offer (prices_ value_ : Option W := none) : Ms := [prices_, value_]
def m__is_offer : Ms → Rz PyData := fnW 2 b__is_offer
set_option maxHeartbeats 8000000 in
theorem ok__is_offer (G : Fx K mg ct) : CallW P w K mg base ct 3 "_is_offer" 2 m__is_offer := callW_of (N := N__is_offer) (n := 2) (g := b__is_offer) G.d__is_offer sc__is_offer rfl rfl fun f cdv A outer s H E hr => by
  have S := sc__is_offer
  have tk : Takes (cxOf (L2.CX P w) P w K mg base N__is_offer "_is_offer" (defScope s__is_offer) f cdv A outer s H E) (fun cls d _ H => E cls d H) := takes_of rfl rfl rfl rfl
  have hp := passes_of (X := cxOf (L2.CX P w) P w K mg base N__is_offer "_is_offer" (defScope s__is_offer) f cdv A outer s H E) rfl
  have hu := room_u hr 101 (by decide)
  have hu64 := room_u hr 64 (by decide)
  have hu105 := room_u hr 105 (by decide)
  exact (ds_cons (ds_if (DW.t (dw_or (dt_not (dt_val (DV.rd (dv_isi isi_tup (by decide +kernel) G.b_tuple G.b_isinstance (dr_var 1))))) (dw_or (dt_cmp (op_neG hu) cmpOk_of (DV.rd (DE.v (de_callB call_len ok_lenD (by decide +kernel) G.b_len (db_cons (dr_var 1) db_nil)))) (DV.rd dv_int) (by rfl)) (dw_or (dt_not (dt_val (DV.rd (dv_call (ok__are_counts G) hr (by decide) tk (da_cons (dv_var 0) (da_cons (DE.v (de_ix (dr_var 1) (DV.rd dv_int))) da_nil)))))) (dw_or1 (dt_cmp (op_eqG hu) cmpOk_of (DV.rd (DE.v (de_callB (cr_sumD rfl) ok_sumD (by decide +kernel) G.b_sum (db_cons (DV.rd (DE.v (de_ix (dr_var 1) (DV.rd dv_int)))) db_nil)))) (DV.rd dv_int) (by rfl)))))))
  (ds_one (ds_ret dv_bl))
  ds_nil)
  (ds_one (ds_ret (dv_call (ok_is_whole G) hr (by decide) tk (da_cons (DE.v (de_ix (dr_var 1) (DV.rd dv_int))) (da_cons dv_int (da_cons (dv_glob G.g_MOST_OFFER_PRICE) da_nil)))))))
def lc__check_0 : Ms → Rz W := (eLc [3] (iSeq (vVar 1)) (gSet 3) (fun _ => .ok true) (vFn m__is_offer [(vVar 0), (vVar 3)]))
def b__check : Ms → Fl := (sSeq
  (sExpr (vFn m__check_prices [(vVar 0)]))
  (sSeq
  (sIf (tOr' (tNot' (tV' (vIsi isTup (rVar 1)))) (t2 gtD (toV (eCall (g1 lenD) [(rVar 1)])) (vC (.int 6))))
  (sRaise 5)
  sNil)
  (sSeq
  (sIf (tNot' (tV' (toV (eCall (g1 allD) [(toV lc__check_0)]))))
  (sRaise 5)
  sNil)
  (sExpr (vFn m__check_basket [(vVar 0), (vVar 2)])))))
abbrev S__check (prices_ offers_ basket_ one_ : Option W := none) : Ms := [prices_, offers_, basket_, one_]
def m__check : Ms → Rz PyData := fnW 4 b__check
set_option maxHeartbeats 8000000 in
theorem ok__check (G : Fx K mg ct) : CallW P w K mg base ct 4 "_check" 3 m__check := callW_of (N := N__check) (n := 4) (g := b__check) G.d__check sc__check rfl rfl fun f cdv A outer s H E hr => by
  have S := sc__check
  have tk : Takes (cxOf (L2.CX P w) P w K mg base N__check "_check" (defScope s__check) f cdv A outer s H E) (fun cls d _ H => E cls d H) := takes_of rfl rfl rfl rfl
  have hp := passes_of (X := cxOf (L2.CX P w) P w K mg base N__check "_check" (defScope s__check) f cdv A outer s H E) rfl
  have hu := room_u hr 101 (by decide)
  have hu64 := room_u hr 64 (by decide)
  have hu105 := room_u hr 105 (by decide)
  exact (ds_cons (ds_expr (dv_call (ok__check_prices G) hr (by decide) tk (da_cons (dv_var 0) da_nil)))
  (ds_cons (ds_if (DW.t (dw_or (dt_not (dt_val (DV.rd (dv_isi isi_tup (by decide +kernel) G.b_tuple G.b_isinstance (dr_var 1))))) (dw_or1 (dt_cmp (op_gtG hu) cmpOk_of (DV.rd (DE.v (de_callB call_len ok_lenD (by decide +kernel) G.b_len (db_cons (dr_var 1) db_nil)))) (DV.rd (dv_glob G.g_MOST_OFFERS)) (by rfl)))))
  (ds_one (ds_raise G.x_BadOffers tk))
  ds_nil)
  (ds_cons (ds_if (dt_not (dt_val (DV.rd (DE.v (de_callB (cr_all rfl) ok_allD (by decide +kernel) G.b_all (db_cons (DV.rd (DE.v (de_lc S.nd (di_seq (dv_var 1)) (blkOk_by (own := [("one", 3)]) (by rfl)) (fun _ _ _ _ _ => (dg_name 3 S.nd)) (fun _ _ _ _ _ => dts_nil) (fun _ _ _ _ _ => (dv_call (ok__is_offer G) hr (by decide) takes0 (da_cons (dv_var 0) (da_cons (dv_var 3) da_nil))))))) db_nil))))))
  (ds_one (ds_raise G.x_BadOffers tk))
  ds_nil)
  (ds_one (ds_expr (dv_call (ok__check_basket G) hr (by decide) tk (da_cons (dv_var 0) (da_cons (dv_var 2) da_nil))))))))
def fb__check_few_0 : Ms → Fl := (sCut [2] (sMulAug 1 (toV (e2 addD (rVar 2) (vC (.int 1))))))
def b__check_few : Ms → Fl := (sSeq
  (sSet 1 (ofV (vC (.int 1))))
  (sSeq
  (sCut [0, 2] (sPre [2] (sFor (iSeq (vVar 0)) (gSet 2)
  fb__check_few_0)))
  (sIf (t2 gtD (rVar 1) (vC (.int 3000)))
  (sRaise 1)
  sNil)))
abbrev S__check_few (basket_ many_ count_ : Option W := none) : Ms := [basket_, many_, count_]
def m__check_few : Ms → Rz PyData := fnW 3 b__check_few
set_option maxHeartbeats 8000000 in
theorem ok__check_few (G : Fx K mg ct) : CallW P w K mg base ct 1 "_check_few" 1 m__check_few := callW_of (N := N__check_few) (n := 3) (g := b__check_few) G.d__check_few sc__check_few rfl rfl fun f cdv A outer s H E hr => by
  have S := sc__check_few
  have tk : Takes (cxOf (L2.CX P w) P w K mg base N__check_few "_check_few" (defScope s__check_few) f cdv A outer s H E) (fun cls d _ H => E cls d H) := takes_of rfl rfl rfl rfl
  have hp := passes_of (X := cxOf (L2.CX P w) P w K mg base N__check_few "_check_few" (defScope s__check_few) f cdv A outer s H E) rfl
  have hu := room_u hr 101 (by decide)
  have hu64 := room_u hr 64 (by decide)
  have hu105 := room_u hr 105 (by decide)
  exact (ds_cons (ds_set 1 (DV.toE dv_int) S.nd)
  (ds_cons (ds_cut [0, 2] (ds_pre [2] (ds_for hp (di_seq (dv_var 0)) (dg_name 2 S.nd)
  (dss_cut [2] (ds_one (ds_mulaug (i := 1) S.nd (DE.v (de_op op_addD ok_addD (dr_var 2) (DV.rd dv_int)))))))))
  (ds_one (ds_if (dt_cmp (op_gtG hu) cmpOk_of (dr_var 1) (DV.rd (dv_glob G.g_MOST_BASKETS)) (by rfl))
  (ds_one (ds_raise G.x_TooMany tk))
  ds_nil))))
def lc__best_0 : Ms → Rz W := (eLc [12, 13] (iArg zipG [(vVar 7), (vVar 4)]) (gTup' 2 (gCons (gSet 12) (gCons (gSet 13) gNil))) (fun _ => .ok true) (toV (e2 subD (rVar 12) (rVar 13))))
def fb__best_1 : Ms → Fl := (sCut [11] (sSeq
  (sSet 11 (ofV (eTup [(toV (e2 addD (rVar 9) (toV (e2 mulD (rVar 8) (rVar 5))))), (toV (e2 addD (rVar 10) (eTup [(vVar 8)])))])))
  (sSeq
  (sDput 6 (vVar 7) (toV (eCall (g12 minD1 minT2) [(eDget2 6 (vVar 7) (vVar 11)), (rVar 11)])))
  (sSeq
  (sSet 7 (ofV (toV (eCall (g1 tupleD) [(toV lc__best_0)]))))
  (sAug 8 (fun i j => i + j) (vC (.int 1)))))))
def fb__best_2 : Ms → Fl := (sCut [7, 8, 9, 10, 11] (sSeq
  (sAsg (eDget 3 (vVar 7)) (gTup' 2 (gCons (gSet 9) (gCons (gSet 10) gNil))))
  (sSeq
  (sSet 8 (ofV (vC (.int 0))))
  (sCut [7, 8, 9, 10, 11] (sPre [1, 2, 11] (goWhile (t2 geD (toV (eCall (g12 minD1 minT2) [(rVar 7)])) (vC (.int 0)))
  fb__best_1 1000000))))))
def fb__best_3 : Ms → Fl := (sCut [4, 5, 6, 7, 8, 9, 10, 11] (sSeq
  (sSet 6 (eDnew true))
  (sSeq
  (sGive 3 (sCut [3, 4, 5, 7, 8, 9, 10, 11] (sPre [1, 2, 7, 8, 9, 10, 11] (sFor (iKeysD 3) (gSet 7)
  fb__best_2))))
  (sGive 6 (sSet 3 (fun m => ((qVar 6) m).map qW))))))
def lc__best_4 : Ms → Rz W := (eLc [7] (iKeysD 3) (gSet 7) (fun _ => .ok true) (eTup [(toV (e2 addD (toV (e2 ixD (eDget 3 (vVar 7)) (vC (.int 0)))) (vFn m__plain [(vVar 0), (vVar 7)]))), (toV (e2 ixD (eDget 3 (vVar 7)) (vC (.int 1))))]))
def b__best : Ms → Fl := (sSeq
  (sSet 3 (eDisp1T (vVar 2) (eTup [(vC (.int 0)), (eTup [])])))
  (sSeq
  (sCut [1, 4, 5, 6, 7, 8, 9, 10, 11] (sPre [2, 4, 5, 6, 7, 8, 9, 10, 11] (sFor (iSeq (vVar 1)) (gTup' 2 (gCons (gSet 4) (gCons (gSet 5) gNil)))
  fb__best_3)))
  (sGive 3 (sRet (toV (eCall (g12 minD1 minT2) [(toV lc__best_4)]))))))
abbrev S__best (prices_ offers_ basket_ rows_ counts_ price_ later_ left_ often_ paid_ bill_ row_ own_ count_ : Option W := none) : Ms := [prices_, offers_, basket_, rows_, counts_, price_, later_, left_, often_, paid_, bill_, row_, own_, count_]
def m__best : Ms → Rz PyData := fnW 14 b__best
set_option maxHeartbeats 8000000 in
theorem ok__best (G : Fx K mg ct) : CallW P w K mg base ct 2 "_best" 3 m__best := callW_of (N := N__best) (n := 14) (g := b__best) G.d__best sc__best rfl rfl fun f cdv A outer s H E hr => by
  have S := sc__best
  have tk : Takes (cxOf (L2.CX P w) P w K mg base N__best "_best" (defScope s__best) f cdv A outer s H E) (fun cls d _ H => E cls d H) := takes_of rfl rfl rfl rfl
  have hp := passes_of (X := cxOf (L2.CX P w) P w K mg base N__best "_best" (defScope s__best) f cdv A outer s H E) rfl
  have hu := room_u hr 101 (by decide)
  have hu64 := room_u hr 64 (by decide)
  have hu105 := room_u hr 105 (by decide)
  exact (ds_cons (ds_set 3 (de_disp1T hu105 (dv_var 2) (dv_tup (da_cons dv_int (da_cons (dv_tup da_nil) da_nil)))) S.nd)
  (ds_cons (ds_cut [1, 4, 5, 6, 7, 8, 9, 10, 11] (ds_pre [2, 4, 5, 6, 7, 8, 9, 10, 11] (ds_for hp (di_seq (dv_var 1)) (dg_tup (dgs_cons (dg_name 4 S.nd) (dgs_cons (dg_name 5 S.nd) dgs_nil)))
  (dss_cut [4, 5, 6, 7, 8, 9, 10, 11] (ds_cons (ds_set 6 de_dnewT S.nd)
  (ds_cons (ds_give 3 (ds_cut [3, 4, 5, 7, 8, 9, 10, 11] (ds_pre [1, 2, 7, 8, 9, 10, 11] (ds_for hp (di_keys 3) (dg_name 7 S.nd)
  (dss_cut [7, 8, 9, 10, 11] (ds_cons (ds_asg (dv_dget 3 hu105 (dv_var 7)) (dg_tup (dgs_cons (dg_name 9 S.nd) (dgs_cons (dg_name 10 S.nd) dgs_nil))))
  (ds_cons (ds_set 8 (DV.toE dv_int) S.nd)
  (ds_one (ds_cut [7, 8, 9, 10, 11] (ds_pre [1, 2, 11] (ds_while 1000000 hp (dt_cmp (op_geG hu) cmpOk_of (DV.rd (DE.v (de_callB (cr_minB rfl hu105) ok_minB (by decide +kernel) G.b_min (db_cons (dr_var 7) db_nil)))) (DV.rd dv_int) (by rfl))
  (dss_cut [11] (ds_cons (ds_set 11 (DV.toE (dv_tup (da_cons (DE.v (de_op op_addD ok_addD (dr_var 9) (DV.rd (DE.v (de_op op_mulD ok_mulD (dr_var 8) (dr_var 5)))))) (da_cons (DE.v (de_op op_addD ok_addD (dr_var 10) (DV.rd (dv_tup (da_cons (dv_var 8) da_nil))))) da_nil)))) S.nd)
  (ds_cons (ds_dput 6 hu105 (DE.v (de_callB (cr_minB rfl hu105) ok_minB (by decide +kernel) G.b_min (db_cons (DV.rd (dv_dget2 6 hu105 (dv_var 7) (dv_var 11))) (db_cons (dr_var 11) db_nil)))) (dv_var 7))
  (ds_cons (ds_set 7 (DV.toE (DE.v (de_callTy call_tuple_of ok_tupleD (by decide +kernel) G.b_tuple (db_cons (DV.rd (DE.v (de_lc S.nd (di_zipG (da_cons (dv_var 7) (da_cons (dv_var 4) da_nil)) G.b_zip) (blkOk_by (own := [("own", 12), ("count", 13)]) (by rfl)) (fun _ _ _ _ _ => (dg_tup (dgs_cons (dg_name 12 S.nd) (dgs_cons (dg_name 13 S.nd) dgs_nil)))) (fun _ _ _ _ _ => dts_nil) (fun _ _ _ _ _ => (DE.v (de_op op_sub ok_subD (dr_var 12) (dr_var 13))))))) db_nil)))) S.nd)
  (ds_one (ds_aug (i := 8) ip_add S.nd dv_int)))))))))))))))))
  (ds_one (ds_give 6 (ds_set 3 (DQ.toE (dq_var 6)) S.nd)))))))))
  (ds_one (ds_give 3 (ds_ret (DE.v (de_callB (cr_minB rfl hu105) ok_minB (by decide +kernel) G.b_min (db_cons (DV.rd (DE.v (de_lc S.nd (di_keys 3) (blkOk_by (own := [("left", 7)]) (by rfl)) (fun _ _ _ _ _ => (dg_name 7 S.nd)) (fun _ _ _ _ _ => dts_nil) (fun _ _ _ _ _ => (dv_tup (da_cons (DE.v (de_op op_addD ok_addD (DV.rd (DE.v (de_ix (DV.rd (dv_dget 3 hu105 (dv_var 7))) (DV.rd dv_int)))) (DV.rd (dv_call (ok__plain G) hr (by decide) takes0 (da_cons (dv_var 0) (da_cons (dv_var 7) da_nil)))))) (da_cons (DE.v (de_ix (DV.rd (dv_dget 3 hu105 (dv_var 7))) (DV.rd dv_int))) da_nil))))))) db_nil))))))))
def b_cheapest : Ms → Fl := (sSeq
  (sExpr (vFn m__check [(vVar 0), (vVar 1), (vVar 2)]))
  (sSeq
  (sExpr (vFn m__check_few [(vVar 2)]))
  (sRet (vFn m__best [(vVar 0), (vVar 1), (vVar 2)]))))
abbrev S_cheapest (prices_ offers_ basket_ : Option W := none) : Ms := [prices_, offers_, basket_]
def m_cheapest : Ms → Rz PyData := fnW 3 b_cheapest
set_option maxHeartbeats 8000000 in
theorem ok_cheapest (G : Fx K mg ct) : CallW P w K mg base ct 5 "cheapest" 3 m_cheapest := callW_of (N := N_cheapest) (n := 3) (g := b_cheapest) G.d_cheapest sc_cheapest rfl rfl fun f cdv A outer s H E hr => by
  have S := sc_cheapest
  have tk : Takes (cxOf (L2.CX P w) P w K mg base N_cheapest "cheapest" (defScope s_cheapest) f cdv A outer s H E) (fun cls d _ H => E cls d H) := takes_of rfl rfl rfl rfl
  have hp := passes_of (X := cxOf (L2.CX P w) P w K mg base N_cheapest "cheapest" (defScope s_cheapest) f cdv A outer s H E) rfl
  have hu := room_u hr 101 (by decide)
  have hu64 := room_u hr 64 (by decide)
  have hu105 := room_u hr 105 (by decide)
  exact (ds_cons (ds_expr (dv_call (ok__check G) hr (by decide) tk (da_cons (dv_var 0) (da_cons (dv_var 1) (da_cons (dv_var 2) da_nil)))))
  (ds_cons (ds_expr (dv_call (ok__check_few G) hr (by decide) tk (da_cons (dv_var 2) da_nil)))
  (ds_one (ds_ret (dv_call (ok__best G) hr (by decide) tk (da_cons (dv_var 0) (da_cons (dv_var 1) (da_cons (dv_var 2) da_nil))))))))
def b_is_integer : Ms → Fl := (sRet (vAnd (vIsi isInt (rVar 0)) (vNot (vIsi isBool (rVar 0)))))
abbrev S_is_integer (value_ : Option W := none) : Ms := [value_]
def m_is_integer : Ms → Rz PyData := fnW 1 b_is_integer
set_option maxHeartbeats 8000000 in
theorem ok_is_integer (G : Fx K mg ct) : CallW P w K mg base ct 1 "is_integer" 1 m_is_integer := callW_of (N := N_is_integer) (n := 1) (g := b_is_integer) G.d_is_integer sc_is_integer rfl rfl fun f cdv A outer s H E hr => by
  have S := sc_is_integer
  have tk : Takes (cxOf (L2.CX P w) P w K mg base N_is_integer "is_integer" (defScope s_is_integer) f cdv A outer s H E) (fun cls d _ H => E cls d H) := takes_of rfl rfl rfl rfl
  have hp := passes_of (X := cxOf (L2.CX P w) P w K mg base N_is_integer "is_integer" (defScope s_is_integer) f cdv A outer s H E) rfl
  have hu := room_u hr 101 (by decide)
  have hu64 := room_u hr 64 (by decide)
  have hu105 := room_u hr 105 (by decide)
  exact (ds_one (ds_ret (dv_and (dv_isi isi_int (by decide +kernel) G.b_int G.b_isinstance (dr_var 0)) (dv_one (dv_not (dv_isi isi_bool (by decide +kernel) G.b_bool G.b_isinstance (dr_var 0)))))))
def lc__left_0 : Ms → Rz W := (eLc [7, 8] (iArg zipG [(vVar 3), (vVar 5)]) (gTup' 2 (gCons (gSet 7) (gCons (gSet 8) gNil))) (fun _ => .ok true) (toV (e2 subD (rVar 7) (toV (e2 mulD (rVar 4) (rVar 8))))))
def fb__left_1 : Ms → Fl := (sCut [4, 5, 6] (sPost 3 (sSet 3 lc__left_0)))
def b__left : Ms → Fl := (sSeq
  (sSet 3 (ofV (toV (eCall (g1 listD) [(rVar 1)]))))
  (sSeq
  (sCut [0, 2, 4, 5, 6] (sPre [1, 4, 5, 6] (sFor (iArg zipG [(vVar 2), (vVar 0)]) (gTup' 2 (gCons (gSet 4) (gCons (gTup' 2 (gCons (gSet 5) (gCons (gSet 6) gNil))) gNil)))
  fb__left_1)))
  (sRet (vVar 3))))
abbrev S__left (offers_ basket_ bill_ left_ often_ counts_ _price_ own_ count_ : Option W := none) : Ms := [offers_, basket_, bill_, left_, often_, counts_, _price_, own_, count_]
def m__left : Ms → Rz PyData := fnW 9 b__left
set_option maxHeartbeats 8000000 in
theorem ok__left (G : Fx K mg ct) : CallW P w K mg base ct 1 "_left" 3 m__left := callW_of (N := N__left) (n := 9) (g := b__left) G.d__left sc__left rfl rfl fun f cdv A outer s H E hr => by
  have S := sc__left
  have tk : Takes (cxOf (L2.CX P w) P w K mg base N__left "_left" (defScope s__left) f cdv A outer s H E) (fun cls d _ H => E cls d H) := takes_of rfl rfl rfl rfl
  have hp := passes_of (X := cxOf (L2.CX P w) P w K mg base N__left "_left" (defScope s__left) f cdv A outer s H E) rfl
  have hu := room_u hr 101 (by decide)
  have hu64 := room_u hr 64 (by decide)
  have hu105 := room_u hr 105 (by decide)
  exact (ds_cons (ds_set 3 (DV.toE (DE.v (de_callTy call_list_of ok_listD (by decide +kernel) G.b_list (db_cons (dr_var 1) db_nil)))) S.nd)
  (ds_cons (ds_cut [0, 2, 4, 5, 6] (ds_pre [1, 4, 5, 6] (ds_for hp (di_zipG (da_cons (dv_var 2) (da_cons (dv_var 0) da_nil)) G.b_zip) (dg_tup (dgs_cons (dg_name 4 S.nd) (dgs_cons (dg_tup (dgs_cons (dg_name 5 S.nd) (dgs_cons (dg_name 6 S.nd) dgs_nil))) dgs_nil)))
  (dss_cut [4, 5, 6] (ds_one (ds_post 3 (ds_lc 3 S.nd (di_zipG (da_cons (dv_var 3) (da_cons (dv_var 5) da_nil)) G.b_zip) (blkOk_by (own := [("own", 7), ("count", 8)]) (by rfl)) (fun _ _ _ _ _ => (dg_tup (dgs_cons (dg_name 7 S.nd) (dgs_cons (dg_name 8 S.nd) dgs_nil)))) (fun _ _ _ _ _ => dts_nil) (fun _ _ _ _ _ => (DE.v (de_op op_sub ok_subD (dr_var 7) (DV.rd (DE.v (de_op op_mulD ok_mulD (dr_var 4) (dr_var 8))))))))))))))
  (ds_one (ds_ret (dv_var 3)))))
def lc_bill_price_0 : Ms → Rz W := (eLc [4] (iSeq (vVar 3)) (gSet 4) (fun _ => .ok true) (vFn m_is_integer [(vVar 4)]))
def lc_bill_price_1 : Ms → Rz W := (eLc [5, 6] (iArg zipG [(vVar 3), (vVar 1)]) (gTup' 2 (gCons (gSet 5) (gCons (gSet 6) gNil))) (fun _ => .ok true) (toV (e2 mulD (rVar 5) (toV (e2 ixD (rVar 6) (vC (.int 1)))))))
def b_bill_price : Ms → Fl := (sSeq
  (sExpr (vFn m__check [(vVar 0), (vVar 1), (vVar 2)]))
  (sSeq
  (sIf (tOr' (tNot' (tV' (vIsi isTup (rVar 3)))) (tOr' (t2 neD (toV (eCall (g1 lenD) [(rVar 3)])) (toV (eCall (g1 lenD) [(rVar 1)]))) (tNot' (tV' (toV (eCall (g1 allD) [(toV lc_bill_price_0)]))))))
  (sRaise 6)
  sNil)
  (sSeq
  (sIf (tOr' (t2 ltD (toV (eCall (g12 minD1 minT2) [(toV (e2 addD (eTup [(vC (.int 0))]) (rVar 3)))])) (vC (.int 0))) (t2 ltD (toV (eCall (g12 minD1 minT2) [(vFn m__left [(vVar 1), (vVar 2), (vVar 3)])])) (vC (.int 0))))
  (sRaise 6)
  sNil)
  (sRet (toV (e2 addD (vFn m__plain [(vVar 0), (vFn m__left [(vVar 1), (vVar 2), (vVar 3)])]) (toV (eCall (g1 sumD) [(toV lc_bill_price_1)]))))))))
abbrev S_bill_price (prices_ offers_ basket_ bill_ one_ often_ offer_ : Option W := none) : Ms := [prices_, offers_, basket_, bill_, one_, often_, offer_]
def m_bill_price : Ms → Rz PyData := fnW 7 b_bill_price
set_option maxHeartbeats 8000000 in
theorem ok_bill_price (G : Fx K mg ct) : CallW P w K mg base ct 5 "bill_price" 4 m_bill_price := callW_of (N := N_bill_price) (n := 7) (g := b_bill_price) G.d_bill_price sc_bill_price rfl rfl fun f cdv A outer s H E hr => by
  have S := sc_bill_price
  have tk : Takes (cxOf (L2.CX P w) P w K mg base N_bill_price "bill_price" (defScope s_bill_price) f cdv A outer s H E) (fun cls d _ H => E cls d H) := takes_of rfl rfl rfl rfl
  have hp := passes_of (X := cxOf (L2.CX P w) P w K mg base N_bill_price "bill_price" (defScope s_bill_price) f cdv A outer s H E) rfl
  have hu := room_u hr 101 (by decide)
  have hu64 := room_u hr 64 (by decide)
  have hu105 := room_u hr 105 (by decide)
  exact (ds_cons (ds_expr (dv_call (ok__check G) hr (by decide) tk (da_cons (dv_var 0) (da_cons (dv_var 1) (da_cons (dv_var 2) da_nil)))))
  (ds_cons (ds_if (DW.t (dw_or (dt_not (dt_val (DV.rd (dv_isi isi_tup (by decide +kernel) G.b_tuple G.b_isinstance (dr_var 3))))) (dw_or (dt_cmp (op_neG hu) cmpOk_of (DV.rd (DE.v (de_callB call_len ok_lenD (by decide +kernel) G.b_len (db_cons (dr_var 3) db_nil)))) (DV.rd (DE.v (de_callB call_len ok_lenD (by decide +kernel) G.b_len (db_cons (dr_var 1) db_nil)))) (by rfl)) (dw_or1 (dt_not (dt_val (DV.rd (DE.v (de_callB (cr_all rfl) ok_allD (by decide +kernel) G.b_all (db_cons (DV.rd (DE.v (de_lc S.nd (di_seq (dv_var 3)) (blkOk_by (own := [("one", 4)]) (by rfl)) (fun _ _ _ _ _ => (dg_name 4 S.nd)) (fun _ _ _ _ _ => dts_nil) (fun _ _ _ _ _ => (dv_call (ok_is_integer G) hr (by decide) takes0 (da_cons (dv_var 4) da_nil)))))) db_nil))))))))))
  (ds_one (ds_raise G.x_BadBill tk))
  ds_nil)
  (ds_cons (ds_if (DW.t (dw_or (dt_cmp (op_ltG hu) cmpOk_of (DV.rd (DE.v (de_callB (cr_minB rfl hu105) ok_minB (by decide +kernel) G.b_min (db_cons (DV.rd (DE.v (de_op op_addD ok_addD (DV.rd (dv_tup (da_cons dv_int da_nil))) (dr_var 3)))) db_nil)))) (DV.rd dv_int) (by rfl)) (dw_or1 (dt_cmp (op_ltG hu) cmpOk_of (DV.rd (DE.v (de_callB (cr_minB rfl hu105) ok_minB (by decide +kernel) G.b_min (db_cons (DV.rd (dv_call (ok__left G) hr (by decide) tk (da_cons (dv_var 1) (da_cons (dv_var 2) (da_cons (dv_var 3) da_nil))))) db_nil)))) (DV.rd dv_int) (by rfl)))))
  (ds_one (ds_raise G.x_BadBill tk))
  ds_nil)
  (ds_one (ds_ret (DE.v (de_op op_addD ok_addD (DV.rd (dv_call (ok__plain G) hr (by decide) tk (da_cons (dv_var 0) (da_cons (dv_call (ok__left G) hr (by decide) tk (da_cons (dv_var 1) (da_cons (dv_var 2) (da_cons (dv_var 3) da_nil)))) da_nil)))) (DV.rd (DE.v (de_callB (cr_sumD rfl) ok_sumD (by decide +kernel) G.b_sum (db_cons (DV.rd (DE.v (de_lc S.nd (di_zipG (da_cons (dv_var 3) (da_cons (dv_var 1) da_nil)) G.b_zip) (blkOk_by (own := [("often", 5), ("offer", 6)]) (by rfl)) (fun _ _ _ _ _ => (dg_tup (dgs_cons (dg_name 5 S.nd) (dgs_cons (dg_name 6 S.nd) dgs_nil)))) (fun _ _ _ _ _ => dts_nil) (fun _ _ _ _ _ => (DE.v (de_op op_mulD ok_mulD (dr_var 5) (DV.rd (DE.v (de_ix (dr_var 6) (DV.rd dv_int)))))))))) db_nil)))))))))))
def b_worth : Ms → Fl := (sSeq
  (sExpr (vFn m__check [(vVar 0), (vVar 1), (vVar 3)]))
  (sSeq
  (sIf (tNot' (tV' (vFn m_is_whole [(vVar 2), (vC (.int 0)), (toV (e2 subD (toV (eCall (g1 lenD) [(rVar 1)])) (vC (.int 1))))])))
  (sRaise 2)
  sNil)
  (sSeq
  (sExpr (vFn m__check_few [(vVar 3)]))
  (sSeq
  (sSet 4 (ofV (toV (e2 addD (toV (eSl (rVar 1) oNone (oSome (rVar 2)))) (toV (eSl (rVar 1) (oSome (toV (e2 addD (rVar 2) (vC (.int 1))))) oNone))))))
  (sRet (toV (e2 subD (toV (e2 ixD (vFn m__best [(vVar 0), (vVar 4), (vVar 3)]) (vC (.int 0)))) (toV (e2 ixD (vFn m__best [(vVar 0), (vVar 1), (vVar 3)]) (vC (.int 0)))))))))))
abbrev S_worth (prices_ offers_ number_ basket_ rest_ : Option W := none) : Ms := [prices_, offers_, number_, basket_, rest_]
def m_worth : Ms → Rz PyData := fnW 5 b_worth
set_option maxHeartbeats 8000000 in
theorem ok_worth (G : Fx K mg ct) : CallW P w K mg base ct 5 "worth" 4 m_worth := callW_of (N := N_worth) (n := 5) (g := b_worth) G.d_worth sc_worth rfl rfl fun f cdv A outer s H E hr => by
  have S := sc_worth
  have tk : Takes (cxOf (L2.CX P w) P w K mg base N_worth "worth" (defScope s_worth) f cdv A outer s H E) (fun cls d _ H => E cls d H) := takes_of rfl rfl rfl rfl
  have hp := passes_of (X := cxOf (L2.CX P w) P w K mg base N_worth "worth" (defScope s_worth) f cdv A outer s H E) rfl
  have hu := room_u hr 101 (by decide)
  have hu64 := room_u hr 64 (by decide)
  have hu105 := room_u hr 105 (by decide)
  exact (ds_cons (ds_expr (dv_call (ok__check G) hr (by decide) tk (da_cons (dv_var 0) (da_cons (dv_var 1) (da_cons (dv_var 3) da_nil)))))
  (ds_cons (ds_if (dt_not (dt_val (DV.rd (dv_call (ok_is_whole G) hr (by decide) tk (da_cons (dv_var 2) (da_cons dv_int (da_cons (DE.v (de_op op_sub ok_subD (DV.rd (DE.v (de_callB call_len ok_lenD (by decide +kernel) G.b_len (db_cons (dr_var 1) db_nil)))) (DV.rd dv_int))) da_nil)))))))
  (ds_one (ds_raise G.x_BadNumber tk))
  ds_nil)
  (ds_cons (ds_expr (dv_call (ok__check_few G) hr (by decide) tk (da_cons (dv_var 3) da_nil)))
  (ds_cons (ds_set 4 (DV.toE (DE.v (de_op op_addD ok_addD (DV.rd (DE.v (de_sl (dr_var 1) do_none (do_some (dr_var 2))))) (DV.rd (DE.v (de_sl (dr_var 1) (do_some (DV.rd (DE.v (de_op op_addD ok_addD (dr_var 2) (DV.rd dv_int))))) do_none)))))) S.nd)
  (ds_one (ds_ret (DE.v (de_op op_sub ok_subD (DV.rd (DE.v (de_ix (DV.rd (dv_call (ok__best G) hr (by decide) tk (da_cons (dv_var 0) (da_cons (dv_var 4) (da_cons (dv_var 3) da_nil))))) (DV.rd dv_int)))) (DV.rd (DE.v (de_ix (DV.rd (dv_call (ok__best G) hr (by decide) tk (da_cons (dv_var 0) (da_cons (dv_var 1) (da_cons (dv_var 3) da_nil))))) (DV.rd dv_int))))))))))))
def b__law_told : Ms → Fl := (sTryM
  (sSeq
  (sIf (t2 eqD (rVar 0) (vC (.int 0)))
  (sRet (eTup [(vC (.str "told")), (vFn m_plain_price [(vVar 1), (vVar 3)])]))
  sNil)
  (sSeq
  (sIf (t2 eqD (rVar 0) (vC (.int 1)))
  (sRet (eTup [(vC (.str "told")), (vFn m_bill_price [(vVar 1), (vVar 2), (vVar 3), (vVar 4)])]))
  sNil)
  (sSeq
  (sIf (t2 eqD (rVar 0) (vC (.int 2)))
  (sRet (eTup [(vC (.str "told")), (vFn m_cheapest [(vVar 1), (vVar 2), (vVar 3)])]))
  sNil)
  (sRet (eTup [(vC (.str "told")), (vFn m_worth [(vVar 1), (vVar 2), (vVar 4), (vVar 3)])]))))) [.un p_BadPrices (sRet (eTup [(vC (.str "prices"))])), .un p_BadOffers (sRet (eTup [(vC (.str "offers"))])), .un p_BadBasket (sRet (eTup [(vC (.str "basket"))])), .un p_BadBill (sRet (eTup [(vC (.str "bill"))])), .un p_BadNumber (sRet (eTup [(vC (.str "number"))])), .un p_TooMany (sRet (eTup [(vC (.str "many"))]))])
abbrev S__law_told (call_ one_ two_ three_ four_ : Option W := none) : Ms := [call_, one_, two_, three_, four_]
def m__law_told : Ms → Rz PyData := fnW 5 b__law_told
set_option maxHeartbeats 8000000 in
theorem ok__law_told (G : Fx K mg ct) : CallW P w K mg base ct 6 "_law_told" 5 m__law_told := callW_of (N := N__law_told) (n := 5) (g := b__law_told) G.d__law_told sc__law_told rfl rfl fun f cdv A outer s H E hr => by
  have S := sc__law_told
  have tk : Takes (cxOf (L2.CX P w) P w K mg base N__law_told "_law_told" (defScope s__law_told) f cdv A outer s H E) (fun cls d _ H => E cls d H) := takes_of rfl rfl rfl rfl
  have hp := passes_of (X := cxOf (L2.CX P w) P w K mg base N__law_told "_law_told" (defScope s__law_told) f cdv A outer s H E) rfl
  have hu := room_u hr 101 (by decide)
  have hu64 := room_u hr 64 (by decide)
  have hu105 := room_u hr 105 (by decide)
  exact (ds_one (ds_tryM tk (fun W pn xe tk' hp' => (ds_cons (ds_if (dt_cmp (op_eqG hu) cmpOk_of (dr_var 0) (DV.rd dv_int) (by rfl))
  (ds_one (ds_ret (dv_tup (da_cons dv_str (da_cons (dv_call (ok_plain_price G) hr (by decide) tk' (da_cons (dv_var 1) (da_cons (dv_var 3) da_nil))) da_nil)))))
  ds_nil)
  (ds_cons (ds_if (dt_cmp (op_eqG hu) cmpOk_of (dr_var 0) (DV.rd dv_int) (by rfl))
  (ds_one (ds_ret (dv_tup (da_cons dv_str (da_cons (dv_call (ok_bill_price G) hr (by decide) tk' (da_cons (dv_var 1) (da_cons (dv_var 2) (da_cons (dv_var 3) (da_cons (dv_var 4) da_nil))))) da_nil)))))
  ds_nil)
  (ds_cons (ds_if (dt_cmp (op_eqG hu) cmpOk_of (dr_var 0) (DV.rd dv_int) (by rfl))
  (ds_one (ds_ret (dv_tup (da_cons dv_str (da_cons (dv_call (ok_cheapest G) hr (by decide) tk' (da_cons (dv_var 1) (da_cons (dv_var 2) (da_cons (dv_var 3) da_nil)))) da_nil)))))
  ds_nil)
  (ds_one (ds_ret (dv_tup (da_cons dv_str (da_cons (dv_call (ok_worth G) hr (by decide) tk' (da_cons (dv_var 1) (da_cons (dv_var 2) (da_cons (dv_var 4) (da_cons (dv_var 3) da_nil))))) da_nil))))))))) (.cons ⟨rfl, by decide, .inl G.n_BadPrices⟩ G.p_BadPrices (fun _ _ _ => (ds_one (ds_ret (dv_tup (da_cons dv_str da_nil))))) (.cons ⟨rfl, by decide, .inl G.n_BadOffers⟩ G.p_BadOffers (fun _ _ _ => (ds_one (ds_ret (dv_tup (da_cons dv_str da_nil))))) (.cons ⟨rfl, by decide, .inl G.n_BadBasket⟩ G.p_BadBasket (fun _ _ _ => (ds_one (ds_ret (dv_tup (da_cons dv_str da_nil))))) (.cons ⟨rfl, by decide, .inl G.n_BadBill⟩ G.p_BadBill (fun _ _ _ => (ds_one (ds_ret (dv_tup (da_cons dv_str da_nil))))) (.cons ⟨rfl, by decide, .inl G.n_BadNumber⟩ G.p_BadNumber (fun _ _ _ => (ds_one (ds_ret (dv_tup (da_cons dv_str da_nil))))) (.cons ⟨rfl, by decide, .inl G.n_TooMany⟩ G.p_TooMany (fun _ _ _ => (ds_one (ds_ret (dv_tup (da_cons dv_str da_nil))))) .nil))))))))
def fb__law_refuses_0 : Ms → Fl := (sCut [1] (sIf (t2 neD (toV (eLst [(vFn m__law_told [(vC (.int 0)), (vVar 1), (eTup []), (eTup [(vC (.int 0))]), (eTup [])]), (vFn m__law_told [(vC (.int 1)), (vVar 1), (eTup []), (eTup [(vC (.int 0))]), (eTup [])]), (vFn m__law_told [(vC (.int 2)), (vVar 1), (eTup []), (eTup [(vC (.int 0))]), (eTup [])]), (vFn m__law_told [(vC (.int 3)), (vVar 1), (eTup []), (eTup [(vC (.int 0))]), (vC (.int 0))])])) (toV (e2 mulD (toV (eLst [(eTup [(vC (.str "prices"))])])) (vC (.int 4)))))
  (sRet (vC (.bool false)))
  sNil))
def fb__law_refuses_1 : Ms → Fl := (sCut [1] (sIf (t2 neD (toV (eLst [(vFn m__law_told [(vC (.int 1)), (eTup [(vC (.int 5)), (vC (.int 7))]), (vVar 1), (eTup [(vC (.int 1)), (vC (.int 1))]), (eTup [])]), (vFn m__law_told [(vC (.int 2)), (eTup [(vC (.int 5)), (vC (.int 7))]), (vVar 1), (eTup [(vC (.int 1)), (vC (.int 1))]), (vC .none)]), (vFn m__law_told [(vC (.int 3)), (eTup [(vC (.int 5)), (vC (.int 7))]), (vVar 1), (eTup [(vC (.int 1)), (vC (.int 1))]), (vC (.int 0))])])) (toV (e2 mulD (toV (eLst [(eTup [(vC (.str "offers"))])])) (vC (.int 3)))))
  (sRet (vC (.bool false)))
  sNil))
def fb__law_refuses_2 : Ms → Fl := (sCut [1] (sIf (t2 neD (toV (eLst [(vFn m__law_told [(vC (.int 0)), (eTup [(vC (.int 5)), (vC (.int 7))]), (vC .none), (vVar 1), (vC .none)]), (vFn m__law_told [(vC (.int 1)), (eTup [(vC (.int 5)), (vC (.int 7))]), (vVar 0), (vVar 1), (eTup [(vC (.int 0))])]), (vFn m__law_told [(vC (.int 2)), (eTup [(vC (.int 5)), (vC (.int 7))]), (vVar 0), (vVar 1), (vC .none)]), (vFn m__law_told [(vC (.int 3)), (eTup [(vC (.int 5)), (vC (.int 7))]), (vVar 0), (vVar 1), (vC (.int 0))])])) (toV (e2 mulD (toV (eLst [(eTup [(vC (.str "basket"))])])) (vC (.int 4)))))
  (sRet (vC (.bool false)))
  sNil))
def lc__law_refuses_3 : Ms → Rz W := (eLc [1] (iSeq (eTup [(vC .none), (toV (eLst [(vC (.int 0))])), (eTup []), (eTup [(vC (.int 0)), (vC (.int 0))]), (eTup [(toV (e1 negD (vC (.int 1))))]), (eTup [(vC (.int 2))]), (eTup [(vC (.bool true))]), (eTup [(vC (.str "a"))])])) (gSet 1) (fun _ => .ok true) (vFn m__law_told [(vC (.int 1)), (eTup [(vC (.int 5)), (vC (.int 7))]), (vVar 0), (eTup [(vC (.int 1)), (vC (.int 1))]), (vVar 1)]))
def lc__law_refuses_4 : Ms → Rz W := (eLc [1] (iSeq (eTup [(vC (.int 1)), (toV (e1 negD (vC (.int 1)))), (vC (.bool true)), (vC .none)])) (gSet 1) (fun _ => .ok true) (vFn m__law_told [(vC (.int 3)), (eTup [(vC (.int 5)), (vC (.int 7))]), (vVar 0), (eTup [(vC (.int 1)), (vC (.int 1))]), (vVar 1)]))
def b__law_refuses : Ms → Fl := (sSeq
  (sSet 0 (ofV (eTup [(eTup [(eTup [(vC (.int 1)), (vC (.int 0))]), (vC (.int 3))])])))
  (sSeq
  (sCut [1] (sPre [1] (sFor (iSeq (eTup [(vC .none), (eTup []), (toV (eLst [(vC (.int 5))])), (eTup [(vC (.int 0))]), (eTup [(vC (.int 10001))]), (eTup [(vC (.bool true))]), (toV (e2 mulD (eTup [(vC (.int 1))]) (vC (.int 7)))), (vC (.int 5))])) (gSet 1)
  fb__law_refuses_0)))
  (sSeq
  (sCut [1] (sPre [1] (sFor (iSeq (eTup [(vC .none), (toV (eLst [(eTup [(eTup [(vC (.int 1)), (vC (.int 0))]), (vC (.int 3))])])), (eTup [(eTup [(eTup [(vC (.int 0)), (vC (.int 0))]), (vC (.int 3))])]), (eTup [(eTup [(eTup [(vC (.int 1)), (vC (.int 0))]), (toV (e1 negD (vC (.int 1))))])]), (eTup [(eTup [(eTup [(vC (.int 1))]), (vC (.int 3))])]), (eTup [(eTup [(eTup [(vC (.int 1)), (vC (.int 10))]), (vC (.int 3))])]), (eTup [(eTup [(eTup [(vC (.int 1)), (vC (.int 0))]), (vC (.int 100001))])]), (eTup [(eTup [(vC (.int 1)), (vC (.int 0))])]), (toV (e2 mulD (rVar 0) (vC (.int 7)))), (eTup [(eTup [(eTup [(vC (.bool true)), (vC (.int 0))]), (vC (.int 3))])])])) (gSet 1)
  fb__law_refuses_1)))
  (sSeq
  (sCut [1] (sPre [1] (sFor (iSeq (eTup [(vC .none), (toV (eLst [(vC (.int 1)), (vC (.int 1))])), (eTup [(vC (.int 1))]), (eTup [(vC (.int 1)), (vC (.int 10))]), (eTup [(toV (e1 negD (vC (.int 1)))), (vC (.int 0))]), (eTup [(vC (.bool true)), (vC (.int 0))]), (eTup [(vC (.int 1)), (vC (.int 1)), (vC (.int 1))])])) (gSet 1)
  fb__law_refuses_2)))
  (sSeq
  (sIf (t2 neD (toV lc__law_refuses_3) (toV (e2 mulD (toV (eLst [(eTup [(vC (.str "bill"))])])) (vC (.int 8)))))
  (sRet (vC (.bool false)))
  sNil)
  (sSeq
  (sIf (tOr' (t2 neD (toV lc__law_refuses_4) (toV (e2 mulD (toV (eLst [(eTup [(vC (.str "number"))])])) (vC (.int 4))))) (t2 neD (vFn m__law_told [(vC (.int 2)), (toV (e2 mulD (eTup [(vC (.int 1))]) (vC (.int 6)))), (eTup []), (toV (e2 mulD (eTup [(vC (.int 3))]) (vC (.int 6)))), (vC .none)]) (eTup [(vC (.str "many"))])))
  (sRet (vC (.bool false)))
  sNil)
  (sRet (vAnd (v2 eqD (vFn m__law_told [(vC (.int 2)), (eTup [(vC (.int 5)), (vC (.int 7))]), (eTup [(eTup [(eTup [(vC (.int 2)), (vC (.int 1))]), (vC (.int 12))]), (eTup [(eTup [(vC (.int 1)), (vC (.int 0))]), (vC (.int 4))])]), (eTup [(vC (.int 3)), (vC (.int 1))]), (vC .none)]) (eTup [(vC (.str "told")), (eTup [(vC (.int 16)), (eTup [(vC (.int 1)), (vC (.int 1))])])])) (v2 eqD (vFn m__law_told [(vC (.int 2)), (eTup [(vC (.int 5))]), (eTup [(eTup [(eTup [(vC (.int 1))]), (vC (.int 5))])]), (eTup [(vC (.int 2))]), (vC .none)]) (eTup [(vC (.str "told")), (eTup [(vC (.int 10)), (eTup [(vC (.int 0))])])]))))))))))
abbrev S__law_refuses (offer_ wrong_ : Option W := none) : Ms := [offer_, wrong_]
def m__law_refuses : Ms → Rz PyData := fnW 2 b__law_refuses
set_option maxHeartbeats 8000000 in
theorem ok__law_refuses (G : Fx K mg ct) : CallW P w K mg base ct 7 "_law_refuses" 0 m__law_refuses := callW_of (N := N__law_refuses) (n := 2) (g := b__law_refuses) G.d__law_refuses sc__law_refuses rfl rfl fun f cdv A outer s H E hr => by
  have S := sc__law_refuses
  have tk : Takes (cxOf (L2.CX P w) P w K mg base N__law_refuses "_law_refuses" (defScope s__law_refuses) f cdv A outer s H E) (fun cls d _ H => E cls d H) := takes_of rfl rfl rfl rfl
  have hp := passes_of (X := cxOf (L2.CX P w) P w K mg base N__law_refuses "_law_refuses" (defScope s__law_refuses) f cdv A outer s H E) rfl
  have hu := room_u hr 101 (by decide)
  have hu64 := room_u hr 64 (by decide)
  have hu105 := room_u hr 105 (by decide)
  exact (ds_cons (ds_set 0 (DV.toE (dv_tup (da_cons (dv_tup (da_cons (dv_tup (da_cons dv_int (da_cons dv_int da_nil))) (da_cons dv_int da_nil))) da_nil))) S.nd)
  (ds_cons (ds_cut [1] (ds_pre [1] (ds_for hp (di_seq (dv_tup (da_cons dv_non (da_cons (dv_tup da_nil) (da_cons (DE.v (de_lst (da_cons dv_int da_nil))) (da_cons (dv_tup (da_cons dv_int da_nil)) (da_cons (dv_tup (da_cons dv_int da_nil)) (da_cons (dv_tup (da_cons dv_bl da_nil)) (da_cons (DE.v (de_op op_mulD ok_mulD (DV.rd (dv_tup (da_cons dv_int da_nil))) (DV.rd dv_int))) (da_cons dv_int da_nil)))))))))) (dg_name 1 S.nd)
  (dss_cut [1] (ds_one (ds_if (dt_cmp (op_neG hu) cmpOk_of (DV.rd (DE.v (de_lst (da_cons (dv_call (ok__law_told G) hr (by decide) tk (da_cons dv_int (da_cons (dv_var 1) (da_cons (dv_tup da_nil) (da_cons (dv_tup (da_cons dv_int da_nil)) (da_cons (dv_tup da_nil) da_nil)))))) (da_cons (dv_call (ok__law_told G) hr (by decide) tk (da_cons dv_int (da_cons (dv_var 1) (da_cons (dv_tup da_nil) (da_cons (dv_tup (da_cons dv_int da_nil)) (da_cons (dv_tup da_nil) da_nil)))))) (da_cons (dv_call (ok__law_told G) hr (by decide) tk (da_cons dv_int (da_cons (dv_var 1) (da_cons (dv_tup da_nil) (da_cons (dv_tup (da_cons dv_int da_nil)) (da_cons (dv_tup da_nil) da_nil)))))) (da_cons (dv_call (ok__law_told G) hr (by decide) tk (da_cons dv_int (da_cons (dv_var 1) (da_cons (dv_tup da_nil) (da_cons (dv_tup (da_cons dv_int da_nil)) (da_cons dv_int da_nil)))))) da_nil))))))) (DV.rd (DE.v (de_op op_mulD ok_mulD (DV.rd (DE.v (de_lst (da_cons (dv_tup (da_cons dv_str da_nil)) da_nil)))) (DV.rd dv_int)))) (by rfl))
  (ds_one (ds_ret dv_bl))
  ds_nil))))))
  (ds_cons (ds_cut [1] (ds_pre [1] (ds_for hp (di_seq (dv_tup (da_cons dv_non (da_cons (DE.v (de_lst (da_cons (dv_tup (da_cons (dv_tup (da_cons dv_int (da_cons dv_int da_nil))) (da_cons dv_int da_nil))) da_nil))) (da_cons (dv_tup (da_cons (dv_tup (da_cons (dv_tup (da_cons dv_int (da_cons dv_int da_nil))) (da_cons dv_int da_nil))) da_nil)) (da_cons (dv_tup (da_cons (dv_tup (da_cons (dv_tup (da_cons dv_int (da_cons dv_int da_nil))) (da_cons (DE.v (de_neg (DV.rd dv_int))) da_nil))) da_nil)) (da_cons (dv_tup (da_cons (dv_tup (da_cons (dv_tup (da_cons dv_int da_nil)) (da_cons dv_int da_nil))) da_nil)) (da_cons (dv_tup (da_cons (dv_tup (da_cons (dv_tup (da_cons dv_int (da_cons dv_int da_nil))) (da_cons dv_int da_nil))) da_nil)) (da_cons (dv_tup (da_cons (dv_tup (da_cons (dv_tup (da_cons dv_int (da_cons dv_int da_nil))) (da_cons dv_int da_nil))) da_nil)) (da_cons (dv_tup (da_cons (dv_tup (da_cons dv_int (da_cons dv_int da_nil))) da_nil)) (da_cons (DE.v (de_op op_mulD ok_mulD (dr_var 0) (DV.rd dv_int))) (da_cons (dv_tup (da_cons (dv_tup (da_cons (dv_tup (da_cons dv_bl (da_cons dv_int da_nil))) (da_cons dv_int da_nil))) da_nil)) da_nil)))))))))))) (dg_name 1 S.nd)
  (dss_cut [1] (ds_one (ds_if (dt_cmp (op_neG hu) cmpOk_of (DV.rd (DE.v (de_lst (da_cons (dv_call (ok__law_told G) hr (by decide) tk (da_cons dv_int (da_cons (dv_tup (da_cons dv_int (da_cons dv_int da_nil))) (da_cons (dv_var 1) (da_cons (dv_tup (da_cons dv_int (da_cons dv_int da_nil))) (da_cons (dv_tup da_nil) da_nil)))))) (da_cons (dv_call (ok__law_told G) hr (by decide) tk (da_cons dv_int (da_cons (dv_tup (da_cons dv_int (da_cons dv_int da_nil))) (da_cons (dv_var 1) (da_cons (dv_tup (da_cons dv_int (da_cons dv_int da_nil))) (da_cons dv_non da_nil)))))) (da_cons (dv_call (ok__law_told G) hr (by decide) tk (da_cons dv_int (da_cons (dv_tup (da_cons dv_int (da_cons dv_int da_nil))) (da_cons (dv_var 1) (da_cons (dv_tup (da_cons dv_int (da_cons dv_int da_nil))) (da_cons dv_int da_nil)))))) da_nil)))))) (DV.rd (DE.v (de_op op_mulD ok_mulD (DV.rd (DE.v (de_lst (da_cons (dv_tup (da_cons dv_str da_nil)) da_nil)))) (DV.rd dv_int)))) (by rfl))
  (ds_one (ds_ret dv_bl))
  ds_nil))))))
  (ds_cons (ds_cut [1] (ds_pre [1] (ds_for hp (di_seq (dv_tup (da_cons dv_non (da_cons (DE.v (de_lst (da_cons dv_int (da_cons dv_int da_nil)))) (da_cons (dv_tup (da_cons dv_int da_nil)) (da_cons (dv_tup (da_cons dv_int (da_cons dv_int da_nil))) (da_cons (dv_tup (da_cons (DE.v (de_neg (DV.rd dv_int))) (da_cons dv_int da_nil))) (da_cons (dv_tup (da_cons dv_bl (da_cons dv_int da_nil))) (da_cons (dv_tup (da_cons dv_int (da_cons dv_int (da_cons dv_int da_nil)))) da_nil))))))))) (dg_name 1 S.nd)
  (dss_cut [1] (ds_one (ds_if (dt_cmp (op_neG hu) cmpOk_of (DV.rd (DE.v (de_lst (da_cons (dv_call (ok__law_told G) hr (by decide) tk (da_cons dv_int (da_cons (dv_tup (da_cons dv_int (da_cons dv_int da_nil))) (da_cons dv_non (da_cons (dv_var 1) (da_cons dv_non da_nil)))))) (da_cons (dv_call (ok__law_told G) hr (by decide) tk (da_cons dv_int (da_cons (dv_tup (da_cons dv_int (da_cons dv_int da_nil))) (da_cons (dv_var 0) (da_cons (dv_var 1) (da_cons (dv_tup (da_cons dv_int da_nil)) da_nil)))))) (da_cons (dv_call (ok__law_told G) hr (by decide) tk (da_cons dv_int (da_cons (dv_tup (da_cons dv_int (da_cons dv_int da_nil))) (da_cons (dv_var 0) (da_cons (dv_var 1) (da_cons dv_non da_nil)))))) (da_cons (dv_call (ok__law_told G) hr (by decide) tk (da_cons dv_int (da_cons (dv_tup (da_cons dv_int (da_cons dv_int da_nil))) (da_cons (dv_var 0) (da_cons (dv_var 1) (da_cons dv_int da_nil)))))) da_nil))))))) (DV.rd (DE.v (de_op op_mulD ok_mulD (DV.rd (DE.v (de_lst (da_cons (dv_tup (da_cons dv_str da_nil)) da_nil)))) (DV.rd dv_int)))) (by rfl))
  (ds_one (ds_ret dv_bl))
  ds_nil))))))
  (ds_cons (ds_if (dt_cmp (op_neG hu) cmpOk_of (DV.rd (DE.v (de_lc S.nd (di_seq (dv_tup (da_cons dv_non (da_cons (DE.v (de_lst (da_cons dv_int da_nil))) (da_cons (dv_tup da_nil) (da_cons (dv_tup (da_cons dv_int (da_cons dv_int da_nil))) (da_cons (dv_tup (da_cons (DE.v (de_neg (DV.rd dv_int))) da_nil)) (da_cons (dv_tup (da_cons dv_int da_nil)) (da_cons (dv_tup (da_cons dv_bl da_nil)) (da_cons (dv_tup (da_cons dv_str da_nil)) da_nil)))))))))) (blkOk_by (own := [("wrong", 1)]) (by rfl)) (fun _ _ _ _ _ => (dg_name 1 S.nd)) (fun _ _ _ _ _ => dts_nil) (fun _ _ _ _ _ => (dv_call (ok__law_told G) hr (by decide) takes0 (da_cons dv_int (da_cons (dv_tup (da_cons dv_int (da_cons dv_int da_nil))) (da_cons (dv_var 0) (da_cons (dv_tup (da_cons dv_int (da_cons dv_int da_nil))) (da_cons (dv_var 1) da_nil)))))))))) (DV.rd (DE.v (de_op op_mulD ok_mulD (DV.rd (DE.v (de_lst (da_cons (dv_tup (da_cons dv_str da_nil)) da_nil)))) (DV.rd dv_int)))) (by rfl))
  (ds_one (ds_ret dv_bl))
  ds_nil)
  (ds_cons (ds_if (DW.t (dw_or (dt_cmp (op_neG hu) cmpOk_of (DV.rd (DE.v (de_lc S.nd (di_seq (dv_tup (da_cons dv_int (da_cons (DE.v (de_neg (DV.rd dv_int))) (da_cons dv_bl (da_cons dv_non da_nil)))))) (blkOk_by (own := [("wrong", 1)]) (by rfl)) (fun _ _ _ _ _ => (dg_name 1 S.nd)) (fun _ _ _ _ _ => dts_nil) (fun _ _ _ _ _ => (dv_call (ok__law_told G) hr (by decide) takes0 (da_cons dv_int (da_cons (dv_tup (da_cons dv_int (da_cons dv_int da_nil))) (da_cons (dv_var 0) (da_cons (dv_tup (da_cons dv_int (da_cons dv_int da_nil))) (da_cons (dv_var 1) da_nil)))))))))) (DV.rd (DE.v (de_op op_mulD ok_mulD (DV.rd (DE.v (de_lst (da_cons (dv_tup (da_cons dv_str da_nil)) da_nil)))) (DV.rd dv_int)))) (by rfl)) (dw_or1 (dt_cmp (op_neG hu) cmpOk_of (DV.rd (dv_call (ok__law_told G) hr (by decide) tk (da_cons dv_int (da_cons (DE.v (de_op op_mulD ok_mulD (DV.rd (dv_tup (da_cons dv_int da_nil))) (DV.rd dv_int))) (da_cons (dv_tup da_nil) (da_cons (DE.v (de_op op_mulD ok_mulD (DV.rd (dv_tup (da_cons dv_int da_nil))) (DV.rd dv_int))) (da_cons dv_non da_nil))))))) (DV.rd (dv_tup (da_cons dv_str da_nil))) (by rfl)))))
  (ds_one (ds_ret dv_bl))
  ds_nil)
  (ds_one (ds_ret (dv_and (dv_cmp (op_eqG hu) cmpOk_of (DV.rd (dv_call (ok__law_told G) hr (by decide) tk (da_cons dv_int (da_cons (dv_tup (da_cons dv_int (da_cons dv_int da_nil))) (da_cons (dv_tup (da_cons (dv_tup (da_cons (dv_tup (da_cons dv_int (da_cons dv_int da_nil))) (da_cons dv_int da_nil))) (da_cons (dv_tup (da_cons (dv_tup (da_cons dv_int (da_cons dv_int da_nil))) (da_cons dv_int da_nil))) da_nil))) (da_cons (dv_tup (da_cons dv_int (da_cons dv_int da_nil))) (da_cons dv_non da_nil))))))) (DV.rd (dv_tup (da_cons dv_str (da_cons (dv_tup (da_cons dv_int (da_cons (dv_tup (da_cons dv_int (da_cons dv_int da_nil))) da_nil))) da_nil)))) (by rfl)) (dv_one (dv_cmp (op_eqG hu) cmpOk_of (DV.rd (dv_call (ok__law_told G) hr (by decide) tk (da_cons dv_int (da_cons (dv_tup (da_cons dv_int da_nil)) (da_cons (dv_tup (da_cons (dv_tup (da_cons (dv_tup (da_cons dv_int da_nil)) (da_cons dv_int da_nil))) da_nil)) (da_cons (dv_tup (da_cons dv_int da_nil)) (da_cons dv_non da_nil))))))) (DV.rd (dv_tup (da_cons dv_str (da_cons (dv_tup (da_cons dv_int (da_cons (dv_tup (da_cons dv_int da_nil)) da_nil))) da_nil)))) (by rfl))))))))))))
def lc_law_0 : Ms → Rz W := (eLc [7] (iArg rng1 [(vVar 2)]) (gSet 7) (fun _ => .ok true) (toV (e2 addD (vC (.int 1)) (toV (e2 modD (toV (eCall (g1 toIntD) [(toV (e2 ixD (rVar 1) (toV (e2 addD (vC (.int 1)) (rVar 7)))))])) (vC (.int 30)))))))
def lc_law_1 : Ms → Rz W := (eLc [7] (iArg rng1 [(vVar 2)]) (gSet 7) (fun _ => .ok true) (toV (e2 modD (toV (eCall (g1 toIntD) [(toV (e2 ixD (rVar 1) (toV (e2 addD (vC (.int 4)) (rVar 7)))))])) (vC (.int 6)))))
def lc_law_2 : Ms → Rz W := (eLc [7] (iArg rng1 [(vVar 2)]) (gSet 7) (fun _ => .ok true) (toV (e2 modD (toV (eCall (g1 toIntD) [(toV (e2 ixD (rVar 1) (toV (e2 addD (toV (e2 addD (vC (.int 8)) (toV (e2 mulD (vC (.int 3)) (rVar 6))))) (rVar 7)))))])) (vC (.int 3)))))
def lc_law_3 : Ms → Rz W := (eLc [7] (iArg rng1 [(vVar 2)]) (gSet 7) (fun _ => .ok true) (toV (e2 mulD (toV (e2 ixD (rVar 3) (rVar 7))) (toV (e2 ixD (rVar 8) (rVar 7))))))
def fb_law_4 : Ms → Fl := (sCut [6, 8, 15] (sSeq
  (sSet 8 (ofV (toV (eCall (g1 tupleD) [(toV lc_law_2)]))))
  (sCut [15] (sIf (t2 gtD (toV (eCall (g1 sumD) [(rVar 8)])) (vC (.int 0)))
  (sSeq
  (sSet 15 (ofV (toV (eCall (g1 sumD) [(toV lc_law_3)]))))
  (sApp 5 (eTup [(vVar 8), (toV (eCall (g12 maxD1 max2D) [(vC (.int 0)), (toV (e2 addD (toV (e2 subD (rVar 15) (toV (e2 modD (toV (eCall (g1 toIntD) [(toV (e2 ixD (rVar 1) (toV (e2 addD (vC (.int 17)) (rVar 6)))))])) (vC (.int 20)))))) (vC (.int 4))))]))])))
  sNil))))
def lc_law_5 : Ms → Rz W := (eLc [7] (iArg rng1 [(vVar 2)]) (gSet 7) (fun _ => .ok true) (toV (e2 mulD (toV (e2 ixD (rVar 3) (rVar 7))) (toV (e2 ixD (rVar 4) (rVar 7))))))
def lc_law_6 : Ms → Rz W := (eLc [6] (iArg rng1 [(toV (eCall (g1 lenD) [(rVar 5)]))]) (gSet 6) (fun _ => .ok true) (toV (e2 modD (toV (eCall (g1 toIntD) [(toV (e2 ixD (rVar 1) (toV (e2 addD (toV (e2 addD (vC (.int 25)) (rVar 7))) (rVar 6)))))])) (vC (.int 4)))))
def fb_law_7 : Ms → Fl := (sCut [7, 11, 12, 13] (sSeq
  (sSet 11 (ofV (toV (e2 ixD (rVar 9) (toV (e2 modD (toV (eCall (g1 toIntD) [(toV (e2 ixD (rVar 1) (toV (e2 addD (vC (.int 20)) (rVar 7)))))])) (toV (eCall (g1 lenD) [(rVar 9)]))))))))
  (sSeq
  (sIf (t2 neD (vFn m_bill_price [(vVar 3), (vVar 5), (vVar 4), (vVar 11)]) (vFn m__law_price [(vVar 3), (vVar 5), (vVar 4), (vVar 11)]))
  (sRet (vC (.bool false)))
  sNil)
  (sSeq
  (sSet 12 (ofV (toV (eCall (g1 tupleD) [(toV lc_law_6)]))))
  (sSeq
  (sFrz 5 (sSet 13 (ofV (v2 geD (toV (eCall (g12 minD1 minT2) [(vFn m__law_left [(vVar 5), (vVar 4), (vVar 12)])])) (vC (.int 0))))))
  (sIf (t2 neD (vFn m__law_told [(vC (.int 1)), (vVar 3), (vVar 5), (vVar 4), (vVar 12)]) (vIf (tV' (rVar 13)) (eTup [(vC (.str "told")), (vFn m__law_price [(vVar 3), (vVar 5), (vVar 4), (vVar 12)])]) (eTup [(vC (.str "bill"))])))
  (sRet (vC (.bool false)))
  sNil))))))
def fb_law_8 : Ms → Fl := (sCut [6, 14] (sSeq
  (sSet 14 (ofV (toV (e2 ixD (vFn m__law_cheapest [(vVar 3), (toV (e2 addD (toV (eSl (rVar 5) oNone (oSome (rVar 6)))) (toV (eSl (rVar 5) (oSome (toV (e2 addD (rVar 6) (vC (.int 1))))) oNone)))), (vVar 4)]) (vC (.int 0))))))
  (sIf (tOr' (t2 neD (vFn m_worth [(vVar 3), (vVar 5), (vVar 6), (vVar 4)]) (toV (e2 subD (rVar 14) (toV (e2 ixD (rVar 10) (vC (.int 0))))))) (t2 ltD (rVar 14) (toV (e2 ixD (rVar 10) (vC (.int 0))))))
  (sRet (vC (.bool false)))
  sNil)))
def b_law : Ms → Fl := (sSeq
  (sSet 1 (ofV (vFnR m__law_draws 0 (vC (.int 40)))))
  (sSeq
  (sSet 2 (ofV (toV (e2 addD (vC (.int 1)) (toV (e2 modD (toV (eCall (g1 toIntD) [(toV (e2 ixD (rVar 1) (vC (.int 0))))])) (vC (.int 3))))))))
  (sSeq
  (sSet 3 (ofV (toV (eCall (g1 tupleD) [(toV lc_law_0)]))))
  (sSeq
  (sSet 4 (ofV (toV (eCall (g1 tupleD) [(toV lc_law_1)]))))
  (sSeq
  (sSet 5 (eLst []))
  (sSeq
  (sCut [6, 8, 15] (sPre [0, 6, 7, 8, 9, 10, 11, 12, 13, 14, 15] (sFor (iArg rng1 [(toV (e2 modD (toV (eCall (g1 toIntD) [(toV (e2 ixD (rVar 1) (vC (.int 7))))])) (vC (.int 4))))]) (gSet 6)
  fb_law_4)))
  (sSeq
  (sSet 5 (eCall (g1 tupleD) [(rVar 5)]))
  (sSeq
  (sIf (t2 neD (vFn m_plain_price [(vVar 3), (vVar 4)]) (toV (eCall (g1 sumD) [(toV lc_law_5)])))
  (sRet (vC (.bool false)))
  sNil)
  (sSeq
  (sFrz 5 (sPar 9 10 (vFn m__law_bills [(vVar 5), (vVar 4)]) (vFn m__law_cheapest [(vVar 3), (vVar 5), (vVar 4)])))
  (sSeq
  (sIf (tOr' (t2 neD (vFn m_cheapest [(vVar 3), (vVar 5), (vVar 4)]) (rVar 10)) (t2 gtD (toV (e2 ixD (rVar 10) (vC (.int 0)))) (vFn m_plain_price [(vVar 3), (vVar 4)])))
  (sRet (vC (.bool false)))
  sNil)
  (sSeq
  (sCut [1, 7, 9, 11, 12, 13] (sPre [0, 2, 6, 7, 8, 11, 12, 13, 14, 15] (sFor (iArg rng1 [(vC (.int 5))]) (gSet 7)
  fb_law_7)))
  (sSeq
  (sCut [3, 4, 5, 6, 10, 14] (sPre [0, 1, 2, 6, 7, 8, 9, 11, 12, 13, 14, 15] (sFor (iArg rng1 [(toV (eCall (g1 lenD) [(rVar 5)]))]) (gSet 6)
  fb_law_8)))
  (sRet (vFn m__law_refuses []))))))))))))))
abbrev S_law (script_ draws_ things_ prices_ basket_ offers_ j_ k_ counts_ bills_ due_ bill_ drawn_ good_ less_ plain_ : Option W := none) : Ms := [script_, draws_, things_, prices_, basket_, offers_, j_, k_, counts_, bills_, due_, bill_, drawn_, good_, less_, plain_]
def m_law : Ms → Rz PyData := fnW 16 b_law
set_option maxHeartbeats 8000000 in
theorem ok_law (G : Fx K mg ct) : CallW P w K mg base ct 8 "law" 1 m_law := callW_of (N := N_law) (n := 16) (g := b_law) G.d_law sc_law rfl rfl fun f cdv A outer s H E hr => by
  have S := sc_law
  have tk : Takes (cxOf (L2.CX P w) P w K mg base N_law "law" (defScope s_law) f cdv A outer s H E) (fun cls d _ H => E cls d H) := takes_of rfl rfl rfl rfl
  have hp := passes_of (X := cxOf (L2.CX P w) P w K mg base N_law "law" (defScope s_law) f cdv A outer s H E) rfl
  have hu := room_u hr 101 (by decide)
  have hu64 := room_u hr 64 (by decide)
  have hu105 := room_u hr 105 (by decide)
  exact (ds_cons (ds_set 1 (DV.toE (dv_callR 0 (ok__law_draws G) hr (by decide) tk dv_int)) S.nd)
  (ds_cons (ds_set 2 (DV.toE (DE.v (de_op op_addD ok_addD (DV.rd dv_int) (DV.rd (DE.v (de_op op_mod ok_modD (DV.rd (DE.v (de_callTy call_int1 ok_toIntD (by decide +kernel) G.b_int (db_cons (DV.rd (DE.v (de_ix (dr_var 1) (DV.rd dv_int)))) db_nil)))) (DV.rd dv_int))))))) S.nd)
  (ds_cons (ds_set 3 (DV.toE (DE.v (de_callTy call_tuple_of ok_tupleD (by decide +kernel) G.b_tuple (db_cons (DV.rd (DE.v (de_lc S.nd (di_range1 (da_cons (dv_var 2) da_nil) G.b_range) (blkOk_by (own := [("k", 7)]) (by rfl)) (fun _ _ _ _ _ => (dg_name 7 S.nd)) (fun _ _ _ _ _ => dts_nil) (fun _ _ _ _ _ => (DE.v (de_op op_addD ok_addD (DV.rd dv_int) (DV.rd (DE.v (de_op op_mod ok_modD (DV.rd (DE.v (de_callTy call_int1 ok_toIntD (by decide +kernel) G.b_int (db_cons (DV.rd (DE.v (de_ix (dr_var 1) (DV.rd (DE.v (de_op op_addD ok_addD (DV.rd dv_int) (dr_var 7))))))) db_nil)))) (DV.rd dv_int)))))))))) db_nil)))) S.nd)
  (ds_cons (ds_set 4 (DV.toE (DE.v (de_callTy call_tuple_of ok_tupleD (by decide +kernel) G.b_tuple (db_cons (DV.rd (DE.v (de_lc S.nd (di_range1 (da_cons (dv_var 2) da_nil) G.b_range) (blkOk_by (own := [("k", 7)]) (by rfl)) (fun _ _ _ _ _ => (dg_name 7 S.nd)) (fun _ _ _ _ _ => dts_nil) (fun _ _ _ _ _ => (DE.v (de_op op_mod ok_modD (DV.rd (DE.v (de_callTy call_int1 ok_toIntD (by decide +kernel) G.b_int (db_cons (DV.rd (DE.v (de_ix (dr_var 1) (DV.rd (DE.v (de_op op_addD ok_addD (DV.rd dv_int) (dr_var 7))))))) db_nil)))) (DV.rd dv_int))))))) db_nil)))) S.nd)
  (ds_cons (ds_set 5 (de_lst da_nil) S.nd)
  (ds_cons (ds_cut [6, 8, 15] (ds_pre [0, 6, 7, 8, 9, 10, 11, 12, 13, 14, 15] (ds_for hp (di_range1 (da_cons (DE.v (de_op op_mod ok_modD (DV.rd (DE.v (de_callTy call_int1 ok_toIntD (by decide +kernel) G.b_int (db_cons (DV.rd (DE.v (de_ix (dr_var 1) (DV.rd dv_int)))) db_nil)))) (DV.rd dv_int))) da_nil) G.b_range) (dg_name 6 S.nd)
  (dss_cut [6, 8, 15] (ds_cons (ds_set 8 (DV.toE (DE.v (de_callTy call_tuple_of ok_tupleD (by decide +kernel) G.b_tuple (db_cons (DV.rd (DE.v (de_lc S.nd (di_range1 (da_cons (dv_var 2) da_nil) G.b_range) (blkOk_by (own := [("k", 7)]) (by rfl)) (fun _ _ _ _ _ => (dg_name 7 S.nd)) (fun _ _ _ _ _ => dts_nil) (fun _ _ _ _ _ => (DE.v (de_op op_mod ok_modD (DV.rd (DE.v (de_callTy call_int1 ok_toIntD (by decide +kernel) G.b_int (db_cons (DV.rd (DE.v (de_ix (dr_var 1) (DV.rd (DE.v (de_op op_addD ok_addD (DV.rd (DE.v (de_op op_addD ok_addD (DV.rd dv_int) (DV.rd (DE.v (de_op op_mulD ok_mulD (DV.rd dv_int) (dr_var 6))))))) (dr_var 7))))))) db_nil)))) (DV.rd dv_int))))))) db_nil)))) S.nd)
  (ds_one (ds_cut [15] (ds_if (dt_cmp (op_gtG hu) cmpOk_of (DV.rd (DE.v (de_callB (cr_sumD rfl) ok_sumD (by decide +kernel) G.b_sum (db_cons (dr_var 8) db_nil)))) (DV.rd dv_int) (by rfl))
  (ds_cons (ds_set 15 (DV.toE (DE.v (de_callB (cr_sumD rfl) ok_sumD (by decide +kernel) G.b_sum (db_cons (DV.rd (DE.v (de_lc S.nd (di_range1 (da_cons (dv_var 2) da_nil) G.b_range) (blkOk_by (own := [("k", 7)]) (by rfl)) (fun _ _ _ _ _ => (dg_name 7 S.nd)) (fun _ _ _ _ _ => dts_nil) (fun _ _ _ _ _ => (DE.v (de_op op_mulD ok_mulD (DV.rd (DE.v (de_ix (dr_var 3) (dr_var 7)))) (DV.rd (DE.v (de_ix (dr_var 8) (dr_var 7)))))))))) db_nil)))) S.nd)
  (ds_one (ds_app 5 (da_cons (dv_tup (da_cons (dv_var 8) (da_cons (DE.v (de_callB (cr_maxA rfl hu105) ok_maxA (by decide +kernel) G.b_max (db_cons (DV.rd dv_int) (db_cons (DV.rd (DE.v (de_op op_addD ok_addD (DV.rd (DE.v (de_op op_sub ok_subD (dr_var 15) (DV.rd (DE.v (de_op op_mod ok_modD (DV.rd (DE.v (de_callTy call_int1 ok_toIntD (by decide +kernel) G.b_int (db_cons (DV.rd (DE.v (de_ix (dr_var 1) (DV.rd (DE.v (de_op op_addD ok_addD (DV.rd dv_int) (dr_var 6))))))) db_nil)))) (DV.rd dv_int))))))) (DV.rd dv_int)))) db_nil)))) da_nil))) da_nil))))
  ds_nil))))))))
  (ds_cons (ds_set 5 (de_callTy call_tuple_of ok_tupleD (by decide +kernel) G.b_tuple (db_cons (dr_var 5) db_nil)) S.nd)
  (ds_cons (ds_if (dt_cmp (op_neG hu) cmpOk_of (DV.rd (dv_call (ok_plain_price G) hr (by decide) tk (da_cons (dv_var 3) (da_cons (dv_var 4) da_nil)))) (DV.rd (DE.v (de_callB (cr_sumD rfl) ok_sumD (by decide +kernel) G.b_sum (db_cons (DV.rd (DE.v (de_lc S.nd (di_range1 (da_cons (dv_var 2) da_nil) G.b_range) (blkOk_by (own := [("k", 7)]) (by rfl)) (fun _ _ _ _ _ => (dg_name 7 S.nd)) (fun _ _ _ _ _ => dts_nil) (fun _ _ _ _ _ => (DE.v (de_op op_mulD ok_mulD (DV.rd (DE.v (de_ix (dr_var 3) (dr_var 7)))) (DV.rd (DE.v (de_ix (dr_var 4) (dr_var 7)))))))))) db_nil)))) (by rfl))
  (ds_one (ds_ret dv_bl))
  ds_nil)
  (ds_cons (ds_frz1 5 (ds_par (i := 9) (j := 10) S.nd (da_cons (dv_call (ok__law_bills G) hr (by decide) tk (da_cons (dv_var 5) (da_cons (dv_var 4) da_nil))) (da_cons (dv_call (ok__law_cheapest G) hr (by decide) tk (da_cons (dv_var 3) (da_cons (dv_var 5) (da_cons (dv_var 4) da_nil)))) da_nil))))
  (ds_cons (ds_if (DW.t (dw_or (dt_cmp (op_neG hu) cmpOk_of (DV.rd (dv_call (ok_cheapest G) hr (by decide) tk (da_cons (dv_var 3) (da_cons (dv_var 5) (da_cons (dv_var 4) da_nil))))) (dr_var 10) (by rfl)) (dw_or1 (dt_cmp (op_gtG hu) cmpOk_of (DV.rd (DE.v (de_ix (dr_var 10) (DV.rd dv_int)))) (DV.rd (dv_call (ok_plain_price G) hr (by decide) tk (da_cons (dv_var 3) (da_cons (dv_var 4) da_nil)))) (by rfl)))))
  (ds_one (ds_ret dv_bl))
  ds_nil)
  (ds_cons (ds_cut [1, 7, 9, 11, 12, 13] (ds_pre [0, 2, 6, 7, 8, 11, 12, 13, 14, 15] (ds_for hp (di_range1 (da_cons dv_int da_nil) G.b_range) (dg_name 7 S.nd)
  (dss_cut [7, 11, 12, 13] (ds_cons (ds_set 11 (DV.toE (DE.v (de_ix (dr_var 9) (DV.rd (DE.v (de_op op_mod ok_modD (DV.rd (DE.v (de_callTy call_int1 ok_toIntD (by decide +kernel) G.b_int (db_cons (DV.rd (DE.v (de_ix (dr_var 1) (DV.rd (DE.v (de_op op_addD ok_addD (DV.rd dv_int) (dr_var 7))))))) db_nil)))) (DV.rd (DE.v (de_callB call_len ok_lenD (by decide +kernel) G.b_len (db_cons (dr_var 9) db_nil)))))))))) S.nd)
  (ds_cons (ds_if (dt_cmp (op_neG hu) cmpOk_of (DV.rd (dv_call (ok_bill_price G) hr (by decide) tk (da_cons (dv_var 3) (da_cons (dv_var 5) (da_cons (dv_var 4) (da_cons (dv_var 11) da_nil)))))) (DV.rd (dv_call (ok__law_price G) hr (by decide) tk (da_cons (dv_var 3) (da_cons (dv_var 5) (da_cons (dv_var 4) (da_cons (dv_var 11) da_nil)))))) (by rfl))
  (ds_one (ds_ret dv_bl))
  ds_nil)
  (ds_cons (ds_set 12 (DV.toE (DE.v (de_callTy call_tuple_of ok_tupleD (by decide +kernel) G.b_tuple (db_cons (DV.rd (DE.v (de_lc S.nd (di_range1 (da_cons (DE.v (de_callB call_len ok_lenD (by decide +kernel) G.b_len (db_cons (dr_var 5) db_nil))) da_nil) G.b_range) (blkOk_by (own := [("j", 6)]) (by rfl)) (fun _ _ _ _ _ => (dg_name 6 S.nd)) (fun _ _ _ _ _ => dts_nil) (fun _ _ _ _ _ => (DE.v (de_op op_mod ok_modD (DV.rd (DE.v (de_callTy call_int1 ok_toIntD (by decide +kernel) G.b_int (db_cons (DV.rd (DE.v (de_ix (dr_var 1) (DV.rd (DE.v (de_op op_addD ok_addD (DV.rd (DE.v (de_op op_addD ok_addD (DV.rd dv_int) (dr_var 7)))) (dr_var 6))))))) db_nil)))) (DV.rd dv_int))))))) db_nil)))) S.nd)
  (ds_cons (ds_frz1 5 (ds_set 13 (DV.toE (dv_cmp (op_geG hu) cmpOk_of (DV.rd (DE.v (de_callB (cr_minB rfl hu105) ok_minB (by decide +kernel) G.b_min (db_cons (DV.rd (dv_call (ok__law_left G) hr (by decide) tk (da_cons (dv_var 5) (da_cons (dv_var 4) (da_cons (dv_var 12) da_nil))))) db_nil)))) (DV.rd dv_int) (by rfl))) S.nd))
  (ds_one (ds_if (dt_cmp (op_neG hu) cmpOk_of (DV.rd (dv_call (ok__law_told G) hr (by decide) tk (da_cons dv_int (da_cons (dv_var 3) (da_cons (dv_var 5) (da_cons (dv_var 4) (da_cons (dv_var 12) da_nil))))))) (DV.rd (dv_if (dt_val (dr_var 13)) (dv_tup (da_cons dv_str (da_cons (dv_call (ok__law_price G) hr (by decide) tk (da_cons (dv_var 3) (da_cons (dv_var 5) (da_cons (dv_var 4) (da_cons (dv_var 12) da_nil))))) da_nil))) (dv_tup (da_cons dv_str da_nil)))) (by rfl))
  (ds_one (ds_ret dv_bl))
  ds_nil))))))))))
  (ds_cons (ds_cut [3, 4, 5, 6, 10, 14] (ds_pre [0, 1, 2, 6, 7, 8, 9, 11, 12, 13, 14, 15] (ds_for hp (di_range1 (da_cons (DE.v (de_callB call_len ok_lenD (by decide +kernel) G.b_len (db_cons (dr_var 5) db_nil))) da_nil) G.b_range) (dg_name 6 S.nd)
  (dss_cut [6, 14] (ds_cons (ds_set 14 (DV.toE (DE.v (de_ix (DV.rd (dv_call (ok__law_cheapest G) hr (by decide) tk (da_cons (dv_var 3) (da_cons (DE.v (de_op op_addD ok_addD (DV.rd (DE.v (de_sl (dr_var 5) do_none (do_some (dr_var 6))))) (DV.rd (DE.v (de_sl (dr_var 5) (do_some (DV.rd (DE.v (de_op op_addD ok_addD (dr_var 6) (DV.rd dv_int))))) do_none))))) (da_cons (dv_var 4) da_nil))))) (DV.rd dv_int)))) S.nd)
  (ds_one (ds_if (DW.t (dw_or (dt_cmp (op_neG hu) cmpOk_of (DV.rd (dv_call (ok_worth G) hr (by decide) tk (da_cons (dv_var 3) (da_cons (dv_var 5) (da_cons (dv_var 6) (da_cons (dv_var 4) da_nil)))))) (DV.rd (DE.v (de_op op_sub ok_subD (dr_var 14) (DV.rd (DE.v (de_ix (dr_var 10) (DV.rd dv_int))))))) (by rfl)) (dw_or1 (dt_cmp (op_ltG hu) cmpOk_of (dr_var 14) (DV.rd (DE.v (de_ix (dr_var 10) (DV.rd dv_int)))) (by rfl)))))
  (ds_one (ds_ret dv_bl))
  ds_nil)))))))
  (ds_one (ds_ret (dv_call0 (ok__law_refuses G) hr (by decide) tk)))))))))))))))
set_option maxHeartbeats 8000000 in
theorem fn_law (G : Fx K mg ct) {f : Addr} {fd : FuncData} (F : Fun K "law" "law" s_law f fd) : FnOk P w K mg base (L2.CX P w) 8 f fd ["script"] (spW ct K ["script"].length (fnW N_law.length b_law)) := fn_body (N := N_law) (g := b_law) F sc_law fun cdv A outer s H E hr => by
  have S := sc_law
  have tk : Takes (cxOf (L2.CX P w) P w K mg base N_law "law" (defScope s_law) f cdv A outer s H E) (fun cls d _ H => E cls d H) := takes_of rfl rfl rfl rfl
  have hp := passes_of (X := cxOf (L2.CX P w) P w K mg base N_law "law" (defScope s_law) f cdv A outer s H E) rfl
  have hu := room_u hr 101 (by decide)
  have hu64 := room_u hr 64 (by decide)
  have hu105 := room_u hr 105 (by decide)
  exact (ds_cons (ds_set 1 (DV.toE (dv_callR 0 (ok__law_draws G) hr (by decide) tk dv_int)) S.nd)
  (ds_cons (ds_set 2 (DV.toE (DE.v (de_op op_addD ok_addD (DV.rd dv_int) (DV.rd (DE.v (de_op op_mod ok_modD (DV.rd (DE.v (de_callTy call_int1 ok_toIntD (by decide +kernel) G.b_int (db_cons (DV.rd (DE.v (de_ix (dr_var 1) (DV.rd dv_int)))) db_nil)))) (DV.rd dv_int))))))) S.nd)
  (ds_cons (ds_set 3 (DV.toE (DE.v (de_callTy call_tuple_of ok_tupleD (by decide +kernel) G.b_tuple (db_cons (DV.rd (DE.v (de_lc S.nd (di_range1 (da_cons (dv_var 2) da_nil) G.b_range) (blkOk_by (own := [("k", 7)]) (by rfl)) (fun _ _ _ _ _ => (dg_name 7 S.nd)) (fun _ _ _ _ _ => dts_nil) (fun _ _ _ _ _ => (DE.v (de_op op_addD ok_addD (DV.rd dv_int) (DV.rd (DE.v (de_op op_mod ok_modD (DV.rd (DE.v (de_callTy call_int1 ok_toIntD (by decide +kernel) G.b_int (db_cons (DV.rd (DE.v (de_ix (dr_var 1) (DV.rd (DE.v (de_op op_addD ok_addD (DV.rd dv_int) (dr_var 7))))))) db_nil)))) (DV.rd dv_int)))))))))) db_nil)))) S.nd)
  (ds_cons (ds_set 4 (DV.toE (DE.v (de_callTy call_tuple_of ok_tupleD (by decide +kernel) G.b_tuple (db_cons (DV.rd (DE.v (de_lc S.nd (di_range1 (da_cons (dv_var 2) da_nil) G.b_range) (blkOk_by (own := [("k", 7)]) (by rfl)) (fun _ _ _ _ _ => (dg_name 7 S.nd)) (fun _ _ _ _ _ => dts_nil) (fun _ _ _ _ _ => (DE.v (de_op op_mod ok_modD (DV.rd (DE.v (de_callTy call_int1 ok_toIntD (by decide +kernel) G.b_int (db_cons (DV.rd (DE.v (de_ix (dr_var 1) (DV.rd (DE.v (de_op op_addD ok_addD (DV.rd dv_int) (dr_var 7))))))) db_nil)))) (DV.rd dv_int))))))) db_nil)))) S.nd)
  (ds_cons (ds_set 5 (de_lst da_nil) S.nd)
  (ds_cons (ds_cut [6, 8, 15] (ds_pre [0, 6, 7, 8, 9, 10, 11, 12, 13, 14, 15] (ds_for hp (di_range1 (da_cons (DE.v (de_op op_mod ok_modD (DV.rd (DE.v (de_callTy call_int1 ok_toIntD (by decide +kernel) G.b_int (db_cons (DV.rd (DE.v (de_ix (dr_var 1) (DV.rd dv_int)))) db_nil)))) (DV.rd dv_int))) da_nil) G.b_range) (dg_name 6 S.nd)
  (dss_cut [6, 8, 15] (ds_cons (ds_set 8 (DV.toE (DE.v (de_callTy call_tuple_of ok_tupleD (by decide +kernel) G.b_tuple (db_cons (DV.rd (DE.v (de_lc S.nd (di_range1 (da_cons (dv_var 2) da_nil) G.b_range) (blkOk_by (own := [("k", 7)]) (by rfl)) (fun _ _ _ _ _ => (dg_name 7 S.nd)) (fun _ _ _ _ _ => dts_nil) (fun _ _ _ _ _ => (DE.v (de_op op_mod ok_modD (DV.rd (DE.v (de_callTy call_int1 ok_toIntD (by decide +kernel) G.b_int (db_cons (DV.rd (DE.v (de_ix (dr_var 1) (DV.rd (DE.v (de_op op_addD ok_addD (DV.rd (DE.v (de_op op_addD ok_addD (DV.rd dv_int) (DV.rd (DE.v (de_op op_mulD ok_mulD (DV.rd dv_int) (dr_var 6))))))) (dr_var 7))))))) db_nil)))) (DV.rd dv_int))))))) db_nil)))) S.nd)
  (ds_one (ds_cut [15] (ds_if (dt_cmp (op_gtG hu) cmpOk_of (DV.rd (DE.v (de_callB (cr_sumD rfl) ok_sumD (by decide +kernel) G.b_sum (db_cons (dr_var 8) db_nil)))) (DV.rd dv_int) (by rfl))
  (ds_cons (ds_set 15 (DV.toE (DE.v (de_callB (cr_sumD rfl) ok_sumD (by decide +kernel) G.b_sum (db_cons (DV.rd (DE.v (de_lc S.nd (di_range1 (da_cons (dv_var 2) da_nil) G.b_range) (blkOk_by (own := [("k", 7)]) (by rfl)) (fun _ _ _ _ _ => (dg_name 7 S.nd)) (fun _ _ _ _ _ => dts_nil) (fun _ _ _ _ _ => (DE.v (de_op op_mulD ok_mulD (DV.rd (DE.v (de_ix (dr_var 3) (dr_var 7)))) (DV.rd (DE.v (de_ix (dr_var 8) (dr_var 7)))))))))) db_nil)))) S.nd)
  (ds_one (ds_app 5 (da_cons (dv_tup (da_cons (dv_var 8) (da_cons (DE.v (de_callB (cr_maxA rfl hu105) ok_maxA (by decide +kernel) G.b_max (db_cons (DV.rd dv_int) (db_cons (DV.rd (DE.v (de_op op_addD ok_addD (DV.rd (DE.v (de_op op_sub ok_subD (dr_var 15) (DV.rd (DE.v (de_op op_mod ok_modD (DV.rd (DE.v (de_callTy call_int1 ok_toIntD (by decide +kernel) G.b_int (db_cons (DV.rd (DE.v (de_ix (dr_var 1) (DV.rd (DE.v (de_op op_addD ok_addD (DV.rd dv_int) (dr_var 6))))))) db_nil)))) (DV.rd dv_int))))))) (DV.rd dv_int)))) db_nil)))) da_nil))) da_nil))))
  ds_nil))))))))
  (ds_cons (ds_set 5 (de_callTy call_tuple_of ok_tupleD (by decide +kernel) G.b_tuple (db_cons (dr_var 5) db_nil)) S.nd)
  (ds_cons (ds_if (dt_cmp (op_neG hu) cmpOk_of (DV.rd (dv_call (ok_plain_price G) hr (by decide) tk (da_cons (dv_var 3) (da_cons (dv_var 4) da_nil)))) (DV.rd (DE.v (de_callB (cr_sumD rfl) ok_sumD (by decide +kernel) G.b_sum (db_cons (DV.rd (DE.v (de_lc S.nd (di_range1 (da_cons (dv_var 2) da_nil) G.b_range) (blkOk_by (own := [("k", 7)]) (by rfl)) (fun _ _ _ _ _ => (dg_name 7 S.nd)) (fun _ _ _ _ _ => dts_nil) (fun _ _ _ _ _ => (DE.v (de_op op_mulD ok_mulD (DV.rd (DE.v (de_ix (dr_var 3) (dr_var 7)))) (DV.rd (DE.v (de_ix (dr_var 4) (dr_var 7)))))))))) db_nil)))) (by rfl))
  (ds_one (ds_ret dv_bl))
  ds_nil)
  (ds_cons (ds_frz1 5 (ds_par (i := 9) (j := 10) S.nd (da_cons (dv_call (ok__law_bills G) hr (by decide) tk (da_cons (dv_var 5) (da_cons (dv_var 4) da_nil))) (da_cons (dv_call (ok__law_cheapest G) hr (by decide) tk (da_cons (dv_var 3) (da_cons (dv_var 5) (da_cons (dv_var 4) da_nil)))) da_nil))))
  (ds_cons (ds_if (DW.t (dw_or (dt_cmp (op_neG hu) cmpOk_of (DV.rd (dv_call (ok_cheapest G) hr (by decide) tk (da_cons (dv_var 3) (da_cons (dv_var 5) (da_cons (dv_var 4) da_nil))))) (dr_var 10) (by rfl)) (dw_or1 (dt_cmp (op_gtG hu) cmpOk_of (DV.rd (DE.v (de_ix (dr_var 10) (DV.rd dv_int)))) (DV.rd (dv_call (ok_plain_price G) hr (by decide) tk (da_cons (dv_var 3) (da_cons (dv_var 4) da_nil)))) (by rfl)))))
  (ds_one (ds_ret dv_bl))
  ds_nil)
  (ds_cons (ds_cut [1, 7, 9, 11, 12, 13] (ds_pre [0, 2, 6, 7, 8, 11, 12, 13, 14, 15] (ds_for hp (di_range1 (da_cons dv_int da_nil) G.b_range) (dg_name 7 S.nd)
  (dss_cut [7, 11, 12, 13] (ds_cons (ds_set 11 (DV.toE (DE.v (de_ix (dr_var 9) (DV.rd (DE.v (de_op op_mod ok_modD (DV.rd (DE.v (de_callTy call_int1 ok_toIntD (by decide +kernel) G.b_int (db_cons (DV.rd (DE.v (de_ix (dr_var 1) (DV.rd (DE.v (de_op op_addD ok_addD (DV.rd dv_int) (dr_var 7))))))) db_nil)))) (DV.rd (DE.v (de_callB call_len ok_lenD (by decide +kernel) G.b_len (db_cons (dr_var 9) db_nil)))))))))) S.nd)
  (ds_cons (ds_if (dt_cmp (op_neG hu) cmpOk_of (DV.rd (dv_call (ok_bill_price G) hr (by decide) tk (da_cons (dv_var 3) (da_cons (dv_var 5) (da_cons (dv_var 4) (da_cons (dv_var 11) da_nil)))))) (DV.rd (dv_call (ok__law_price G) hr (by decide) tk (da_cons (dv_var 3) (da_cons (dv_var 5) (da_cons (dv_var 4) (da_cons (dv_var 11) da_nil)))))) (by rfl))
  (ds_one (ds_ret dv_bl))
  ds_nil)
  (ds_cons (ds_set 12 (DV.toE (DE.v (de_callTy call_tuple_of ok_tupleD (by decide +kernel) G.b_tuple (db_cons (DV.rd (DE.v (de_lc S.nd (di_range1 (da_cons (DE.v (de_callB call_len ok_lenD (by decide +kernel) G.b_len (db_cons (dr_var 5) db_nil))) da_nil) G.b_range) (blkOk_by (own := [("j", 6)]) (by rfl)) (fun _ _ _ _ _ => (dg_name 6 S.nd)) (fun _ _ _ _ _ => dts_nil) (fun _ _ _ _ _ => (DE.v (de_op op_mod ok_modD (DV.rd (DE.v (de_callTy call_int1 ok_toIntD (by decide +kernel) G.b_int (db_cons (DV.rd (DE.v (de_ix (dr_var 1) (DV.rd (DE.v (de_op op_addD ok_addD (DV.rd (DE.v (de_op op_addD ok_addD (DV.rd dv_int) (dr_var 7)))) (dr_var 6))))))) db_nil)))) (DV.rd dv_int))))))) db_nil)))) S.nd)
  (ds_cons (ds_frz1 5 (ds_set 13 (DV.toE (dv_cmp (op_geG hu) cmpOk_of (DV.rd (DE.v (de_callB (cr_minB rfl hu105) ok_minB (by decide +kernel) G.b_min (db_cons (DV.rd (dv_call (ok__law_left G) hr (by decide) tk (da_cons (dv_var 5) (da_cons (dv_var 4) (da_cons (dv_var 12) da_nil))))) db_nil)))) (DV.rd dv_int) (by rfl))) S.nd))
  (ds_one (ds_if (dt_cmp (op_neG hu) cmpOk_of (DV.rd (dv_call (ok__law_told G) hr (by decide) tk (da_cons dv_int (da_cons (dv_var 3) (da_cons (dv_var 5) (da_cons (dv_var 4) (da_cons (dv_var 12) da_nil))))))) (DV.rd (dv_if (dt_val (dr_var 13)) (dv_tup (da_cons dv_str (da_cons (dv_call (ok__law_price G) hr (by decide) tk (da_cons (dv_var 3) (da_cons (dv_var 5) (da_cons (dv_var 4) (da_cons (dv_var 12) da_nil))))) da_nil))) (dv_tup (da_cons dv_str da_nil)))) (by rfl))
  (ds_one (ds_ret dv_bl))
  ds_nil))))))))))
  (ds_cons (ds_cut [3, 4, 5, 6, 10, 14] (ds_pre [0, 1, 2, 6, 7, 8, 9, 11, 12, 13, 14, 15] (ds_for hp (di_range1 (da_cons (DE.v (de_callB call_len ok_lenD (by decide +kernel) G.b_len (db_cons (dr_var 5) db_nil))) da_nil) G.b_range) (dg_name 6 S.nd)
  (dss_cut [6, 14] (ds_cons (ds_set 14 (DV.toE (DE.v (de_ix (DV.rd (dv_call (ok__law_cheapest G) hr (by decide) tk (da_cons (dv_var 3) (da_cons (DE.v (de_op op_addD ok_addD (DV.rd (DE.v (de_sl (dr_var 5) do_none (do_some (dr_var 6))))) (DV.rd (DE.v (de_sl (dr_var 5) (do_some (DV.rd (DE.v (de_op op_addD ok_addD (dr_var 6) (DV.rd dv_int))))) do_none))))) (da_cons (dv_var 4) da_nil))))) (DV.rd dv_int)))) S.nd)
  (ds_one (ds_if (DW.t (dw_or (dt_cmp (op_neG hu) cmpOk_of (DV.rd (dv_call (ok_worth G) hr (by decide) tk (da_cons (dv_var 3) (da_cons (dv_var 5) (da_cons (dv_var 6) (da_cons (dv_var 4) da_nil)))))) (DV.rd (DE.v (de_op op_sub ok_subD (dr_var 14) (DV.rd (DE.v (de_ix (dr_var 10) (DV.rd dv_int))))))) (by rfl)) (dw_or1 (dt_cmp (op_ltG hu) cmpOk_of (dr_var 14) (DV.rd (DE.v (de_ix (dr_var 10) (DV.rd dv_int)))) (by rfl)))))
  (ds_one (ds_ret dv_bl))
  ds_nil)))))))
  (ds_one (ds_ret (dv_call0 (ok__law_refuses G) hr (by decide) tk)))))))))))))))
end
end
end Dl
set_option Elab.async false
set_option linter.all false
set_option maxRecDepth 100000
namespace Dl
open PySem PySem.Spec PyProof.Rows L2
section
variable {N : Nat}
/-! ### the draws -/
theorem nn_app {D : List Int} {d : Int} (h : nn D) (hd : 0 ≤ d) : nn (D ++ [d]) := fun x hx => by
  rcases List.mem_append.mp hx with h1 | h1
  · exact h x h1
  · rw [List.mem_singleton.mp h1]; exact hd
def dSt (N : Nat) (o : Option W) (D : List Int) (s : Int) (c k n : Option W) : Ms := [o, some (.d (.int (N : Nat))), some (.l (D.map .int)), some (.d (.int s)), c, k, n]
theorem mapInt_app (D : List Int) (d : Int) : D.map PyData.int ++ [.int d] = (D ++ [d]).map .int := by simp
theorem fa0 {o : Option W} {D : List Int} {s n : Int} {c k : Option W} (hD : D.length < 16777216) : fb__law_draws_0 (dSt N o D s c k (some (.d (.int n)))) = if 0 < n then .nx (dSt N o (D ++ [n % 1009]) s c none (some (.d (.int (n / 1009))))) else .nx (dSt N o D s c none (some (.d (.int n)))) := by
  unfold fb__law_draws_0 dSt
  by_cases h : 0 < n
  · simp [h, lAt, hD]
  · simp [h]
theorem inner {o : Option W} {s : Int} {c : Option W} {D : List Int} {n : Int} {k : Option W} (hD : nn D) (hl : D.length ≤ 5000) (hn : 0 ≤ n) : ∃ D' k' n', goFor (gSet 5) fb__law_draws_0 (rngL 0 60) (dSt N o D s c k (some (.d (.int n)))) = .nx (dSt N o D' s c k' n') ∧ nn D' ∧ D'.length ≤ D.length + 60 := by
  obtain ⟨m', e, D', k', n', rfl, h1, h2, h3⟩ := goFor_inv (s := gSet 5) (b := fb__law_draws_0) (fun i m => ∃ D' k' n', m = dSt N o D' s c k' (some (.d (.int n'))) ∧ nn D' ∧ D'.length ≤ D.length + i ∧ 0 ≤ n') (rngL 0 60) 0 _ ⟨D, k, n, rfl, hD, Nat.le_refl _, hn⟩ fun i x m hx ⟨D', k', n', e, h1, h2, h3⟩ => by
    subst e
    have hi : i < 60 := by
      have := (List.getElem?_eq_some_iff.mp hx).1
      rwa [rngL_len] at this
    refine ⟨dSt N o D' s c (some (.d x)) (some (.d (.int n'))), by simp [dSt], ?_⟩
    rw [fa0 (by omega)]
    by_cases h : 0 < n'
    · rw [if_pos h]
      exact ⟨_, rfl, _, _, _, rfl, nn_app h1 (by omega), by simp; omega, by omega⟩
    · rw [if_neg h]
      exact ⟨_, rfl, _, _, _, rfl, h1, by omega, h3⟩
  rw [rngL_len] at h2
  exact ⟨D', k', _, e, h1, by omega⟩
theorem pow1018 : powD (.int 10) (.int 18) = some (.d (.int 1000000000000000000)) := by
  show (if 0 ≤ (18 : Int) ∧ (18 : Int) ≤ 1000000 ∧ (10 : Int).natAbs < 2 ^ 64 then some (W.d (.int ((10 : Int) ^ (18 : Int).toNat))) else none) = _
  rw [if_pos (by decide)]
  rfl
theorem rng60 : rng1 [.int 60] = .ok (rngL 0 60) := rngN (n := 60) (by decide)
theorem fa1 {o : Option W} {D : List Int} {s z : Int} {k n : Option W} (hD : nn D) (hl : D.length ≤ 4000) (hs : 0 ≤ s) : ∃ D' s' o', fb__law_draws_1 (dSt N o D s (some (.d (.int z))) k n) = .nx (dSt N o' D' s' none none none) ∧ nn D' ∧ D'.length ≤ D.length + 60 ∧ 0 ≤ s' := by
  unfold fb__law_draws_1
  have ha : 0 ≤ (if z < 0 then -z else z) := by split <;> omega
  generalize hn : (if z < 0 then -z else z) = n0 at ha
  have m1 : smallI 48271 := by unfold smallI; omega
  have m2 : smallI 16807 := by unfold smallI; omega
  have hs' : 0 ≤ (s * 48271 + n0 + 11) % 2147483647 := Int.emod_nonneg _ (by decide)
  generalize hs1 : (s * 48271 + n0 + 11) % 2147483647 = s1 at hs'
  by_cases hb : n0 < 1000000000000000000
  · have hd : 0 ≤ (s1 * 16807 + 5) / 3 % 65521 := Int.emod_nonneg _ (by decide)
    refine ⟨D ++ [(s1 * 16807 + 5) / 3 % 65521], s1, o, ?_, nn_app hD hd, by simp, hs'⟩
    have hl' : D.length < 16777216 := by omega
    simp [dSt, hn, m1, m2, hs1, pow1018, hb, lAt, hl']
  · obtain ⟨D', k', n', e, h1, h2⟩ := inner (N := N) (o := none) (s := s1) (c := none) (k := none) hD (by omega) ha
    refine ⟨D', s1, none, ?_, h1, h2, hs'⟩
    unfold dSt at e ⊢
    simp [hn, m1, m2, hs1, pow1018, hb, rng60, e]
theorem fa2 {o : Option W} {D : List Int} {s j : Int} {c n : Option W} (hl : D.length ≤ 6000) : fb__law_draws_2 (dSt N o D s c (some (.d (.int j))) n) = if D.length < N then .nx (dSt N o (D ++ [(s * 69621 + j + 1) % 2147483647 / 7 % 65521]) ((s * 69621 + j + 1) % 2147483647) c none n) else .nx (dSt N o D s c none n) := by
  unfold fb__law_draws_2 dSt
  have m1 : smallI 69621 := by unfold smallI; omega
  have hl' : D.length < 16777216 := by omega
  by_cases h : D.length < N
  · have h' : (D.length : Int) < N := by omega
    simp [h, h', m1, lAt, hl']
  · have h' : ¬ (D.length : Int) < N := by omega
    simp [h, h']
theorem m_draws_N (hN : N ≤ 1000) (ns : List Int) (hns : ns.length ≤ 63) : ∃ D : List Int, m__law_draws [some (.r ns), some (.d (.int (N : Nat)))] = .ok (.list (D.map .int)) ∧ D.length = N ∧ nn D := by
  have hcut : (cutL ns none (some 63)).length ≤ 63 := Nat.le_trans (cutlen _ _ _) hns
  obtain ⟨m1, l1, D1, s1, o1, rfl, a1, a2, a3⟩ := goFor_inv (s := gSet 4) (b := fb__law_draws_1) (fun i m => ∃ D' s' o', m = dSt N o' D' s' none none none ∧ nn D' ∧ D'.length ≤ 60 * i ∧ 0 ≤ s') ((cutL ns none (some 63)).map .int) 0 (dSt N (some (.r ns)) [] 7 none none none) ⟨[], 7, some (.r ns), rfl, fun _ h => absurd h List.not_mem_nil, Nat.le_refl _, by decide⟩ fun i x m hx ⟨D', s', o', e, h1, h2, h3⟩ => by
    subst e
    rw [List.getElem?_map] at hx
    obtain ⟨z, hz, rfl⟩ := Option.map_eq_some_iff.mp hx
    have hi := (List.getElem?_eq_some_iff.mp hz).1
    refine ⟨dSt N o' D' s' (some (.d (.int z))) none none, by simp [dSt], ?_⟩
    obtain ⟨D2, s2, o2, e, q1, q2, q3⟩ := fa1 (N := N) (o := o') (z := z) (k := none) (n := none) h1 (by omega) h3
    exact ⟨_, e, D2, s2, o2, rfl, q1, by omega, q3⟩
  rw [List.length_map] at a2
  obtain ⟨m2, l2, D2, s2, rfl, b1, b2, b3, b4⟩ := goFor_inv (s := gSet 5) (b := fb__law_draws_2) (fun i m => ∃ D' s', m = dSt N none D' s' none none none ∧ nn D' ∧ D'.length ≤ 3780 + i ∧ 0 ≤ s' ∧ (N ≤ D'.length ∨ i ≤ D'.length)) (rngL 0 N) 0 (dSt N none D1 s1 none none none) ⟨D1, s1, rfl, a1, by omega, a3, .inr (Nat.zero_le _)⟩ fun i x m hx ⟨D', s', e, h1, h2, h3, h4⟩ => by
    subst e
    have hi : i < N := by
      have := (List.getElem?_eq_some_iff.mp hx).1
      rwa [rngL_len] at this
    obtain ⟨j, _, rfl⟩ := rngL_mem (List.mem_of_getElem? hx)
    refine ⟨dSt N none D' s' none (some (.d (.int (j : Nat)))) none, by simp [dSt], ?_⟩
    rw [fa2 (by omega)]
    by_cases h : D'.length < N
    · rw [if_pos h]
      exact ⟨_, rfl, _, _, rfl, nn_app h1 (Int.emod_nonneg _ (by decide)), by simp; omega, Int.emod_nonneg _ (by decide), .inr (by simp; omega)⟩
    · rw [if_neg h]
      exact ⟨_, rfl, _, _, rfl, h1, by omega, h3, .inl (by omega)⟩
  rw [rngL_len] at b2 b4
  refine ⟨D2.take N, ?_, by rw [List.length_take]; omega, fun d hd => b1 d (List.mem_of_mem_take hd)⟩
  unfold m__law_draws b__law_draws
  have t60 : ∀ xs : List PyData, cutL xs none (some (N : Int)) = xs.take N := fun xs => takeN xs N
  unfold dSt at l1 l2
  rw [List.map_nil] at l1
  simp [eScr, rAt, l1, l2, rngN hN, t60]
end
end Dl
set_option Elab.async false
set_option linter.all false
set_option maxRecDepth 100000
namespace Dl
open PySem PySem.Spec PyProof.Rows L2
/-! ### offers, plain -/
abbrev Of := List Int × Int
abbrev Sb := List Int × Pr
def subK (L : List Int) (k : Int) (c : List Int) : List Int := (L.zip c).map fun q => q.1 - k * q.2
def nonN (L : List Int) : Bool := L.all fun x => decide (0 ≤ x)
def upN (L c : List Int) : Nat := (List.range 11).findIdx fun (k : Nat) => !nonN (subK L k c)
structure Bk (n : Nat) (L : List Int) : Prop where
  l : L.length = n
  b : ∀ x ∈ L, 0 ≤ x ∧ x ≤ 9
structure OfOk (n : Nat) (o : Of) : Prop where
  l : o.1.length = n
  b : ∀ x ∈ o.1, 0 ≤ x ∧ x ≤ 9
  s : 0 < o.1.sum
  p : 0 ≤ o.2 ∧ o.2 ≤ 100000
theorem subK_len {L c : List Int} {k : Int} (h : L.length = c.length) : (subK L k c).length = L.length := by
  unfold subK; simp [h]
theorem subK_0 : ∀ {L c : List Int}, L.length = c.length → subK L 0 c = L
  | [], _, _ => rfl
  | x :: L, [], h => by simp at h
  | x :: L, y :: c, h => by
    have ih := subK_0 (L := L) (c := c) (by simpa using h)
    unfold subK at ih ⊢
    rw [List.zip_cons_cons, List.map_cons, ih]
    simp
theorem sum_pos : ∀ {c : List Int}, 0 < c.sum → (∀ x ∈ c, 0 ≤ x) → ∃ x ∈ c, 1 ≤ x
  | [], h, _ => by simp at h
  | x :: c, h, h2 => by
    by_cases hx : 1 ≤ x
    · exact ⟨x, by simp, hx⟩
    · have h0 := h2 x (by simp)
      have : x = 0 := by omega
      subst this
      obtain ⟨y, hy, h3⟩ := sum_pos (c := c) (by simpa using h) fun y hy => h2 y (List.mem_cons_of_mem _ hy)
      exact ⟨y, List.mem_cons_of_mem _ hy, h3⟩
theorem sub10 : ∀ {L c : List Int}, L.length = c.length → (∀ x ∈ L, x ≤ 9) → (∃ y ∈ c, 1 ≤ y) → nonN (subK L 10 c) = false
  | [], c, h, _, ⟨y, hy, _⟩ => by
    cases c with
    | nil => cases hy
    | cons => simp at h
  | x :: L, [], h, _, _ => by simp at h
  | x :: L, z :: c, h, h1, ⟨y, hy, h2⟩ => by
    have e : nonN (subK (x :: L) 10 (z :: c)) = (decide (0 ≤ x - 10 * z) && nonN (subK L 10 c)) := rfl
    rw [e]
    rcases List.mem_cons.mp hy with rfl | hy
    · have := h1 x (by simp)
      rw [decide_eq_false (by omega)]
      rfl
    · rw [sub10 (L := L) (c := c) (by simpa using h) (fun z hz => h1 z (List.mem_cons_of_mem _ hz)) ⟨y, hy, h2⟩, Bool.and_false]
theorem nonN_Bk {n : Nat} {L : List Int} (h : Bk n L) : nonN L = true := by
  unfold nonN
  rw [List.all_eq_true]
  intro x hx
  exact decide_eq_true (h.b x hx).1
structure UpOk (L c : List Int) (u : Nat) : Prop where
  le : u ≤ 10
  no : nonN (subK L u c) = false
  yes : ∀ k : Nat, k < u → nonN (subK L k c) = true
  pos : 1 ≤ u
theorem up_ok {n : Nat} {L : List Int} {o : Of} (h : Bk n L) (ho : OfOk n o) : UpOk L o.1 (upN L o.1) := by
  have hlen : L.length = o.1.length := by rw [h.l, ho.l]
  have h10 := sub10 hlen (fun x hx => (h.b x hx).2) (sum_pos ho.s fun x hx => (ho.b x hx).1)
  have hlt : upN L o.1 < (List.range 11).length := List.findIdx_lt_length_of_exists ⟨10, by simp, by
    show (!nonN (subK L ((10 : Nat) : Int) o.1)) = true
    rw [show ((10 : Nat) : Int) = 10 by rfl, h10]; rfl⟩
  have hno : nonN (subK L (upN L o.1) o.1) = false := by
    have := List.findIdx_getElem (xs := List.range 11) (p := fun (k : Nat) => !nonN (subK L k o.1)) (w := hlt)
    have this : (!nonN (subK L (((List.range 11)[upN L o.1]'hlt : Nat) : Int) o.1)) = true := this
    rw [List.getElem_range] at this
    simpa using this
  have hyes : ∀ k : Nat, k < upN L o.1 → nonN (subK L k o.1) = true := fun k hk => by
    have := List.not_of_lt_findIdx (xs := List.range 11) (p := fun (k : Nat) => !nonN (subK L k o.1)) (i := k) hk
    rw [List.getElem_range] at this
    simpa using this
  refine ⟨by rw [List.length_range] at hlt; omega, hno, hyes, ?_⟩
  rcases Nat.eq_zero_or_pos (upN L o.1) with z | z
  · rw [z] at hno
    rw [show ((0 : Nat) : Int) = 0 by rfl, subK_0 hlen, nonN_Bk h] at hno
    cases hno
  · exact z
/-- a turn -/
def stepA (o : Of) (s : Sb) : List Sb := (List.range (upN s.1 o.1)).map fun (k : Nat) => (subK s.1 k o.1, (s.2.1 + (k : Int) * o.2, s.2.2 ++ [(k : Int)]))
def allA (O : List Of) (S : List Sb) : List Sb := O.foldl (fun S o => S.flatMap (stepA o)) S
structure Sin (n j : Nat) (s : Sb) : Prop where
  k : Bk n s.1
  l : s.2.2.length = j
  b : ∀ x ∈ s.2.2, 0 ≤ x ∧ x ≤ 10
theorem subK_Bk {n : Nat} {L c : List Int} {k : Nat} (h : Bk n L) (hc : c.length = n) (hb : ∀ x ∈ c, 0 ≤ x) (hn : nonN (subK L k c) = true) : Bk n (subK L k c) := by
  refine ⟨by rw [subK_len (by rw [h.l, hc]), h.l], fun x hx => ⟨by unfold nonN at hn; rw [List.all_eq_true] at hn; exact of_decide_eq_true (hn x hx), ?_⟩⟩
  unfold subK at hx
  obtain ⟨q, hq, rfl⟩ := List.mem_map.mp hx
  have h1 := h.b q.1 (List.of_mem_zip hq).1
  have h2 := hb q.2 (List.of_mem_zip hq).2
  have := Int.mul_nonneg (show (0 : Int) ≤ (k : Int) by omega) h2
  omega
theorem step_in {n j : Nat} {o : Of} {s x : Sb} (h : Sin n j s) (ho : OfOk n o) (hx : x ∈ stepA o s) : Sin n (j + 1) x := by
  unfold stepA at hx
  obtain ⟨k, hk, rfl⟩ := List.mem_map.mp hx
  have hk := List.mem_range.mp hk
  have u := up_ok h.k ho
  refine ⟨subK_Bk h.k ho.l (fun x hx => (ho.b x hx).1) (u.yes k hk), by simp [h.l], fun y hy => ?_⟩
  rcases List.mem_append.mp hy with hy | hy
  · exact h.b y hy
  · rw [List.mem_singleton.mp hy]
    have := u.le
    omega
theorem allA_cons {o : Of} {O : List Of} {S : List Sb} : allA (o :: O) S = allA O (S.flatMap (stepA o)) := rfl
theorem allA_app {O O' : List Of} {S : List Sb} : allA (O ++ O') S = allA O' (allA O S) := by unfold allA; rw [List.foldl_append]
theorem allA_in {n : Nat} : ∀ {O : List Of} {S : List Sb} {j : Nat}, (∀ o ∈ O, OfOk n o) → (∀ s ∈ S, Sin n j s) → ∀ x ∈ allA O S, Sin n (j + O.length) x
  | [], S, j, _, h, x, hx => h x hx
  | o :: O, S, j, hO, h, x, hx => by
    have := allA_in (O := O) (S := S.flatMap (stepA o)) (j := j + 1) (fun o' h' => hO o' (List.mem_cons_of_mem _ h')) (fun s hs => by
      obtain ⟨t, ht, hs⟩ := List.mem_flatMap.mp hs
      exact step_in (h t ht) (hO o (by simp)) hs) x hx
    rw [List.length_cons]
    have e : j + (O.length + 1) = j + 1 + O.length := by omega
    rw [e]
    exact this
/-- of each there is one with the same left and paid -/
def Cov (S S' : List Sb) : Prop := ∀ x ∈ S, ∃ y ∈ S', y.1 = x.1 ∧ y.2.1 = x.2.1
theorem step_cov {n j : Nat} {o : Of} {S : List Sb} (h : ∀ s ∈ S, Sin n j s) (ho : OfOk n o) : Cov S (S.flatMap (stepA o)) := fun x hx => by
  have u := up_ok (h x hx).k ho
  refine ⟨_, List.mem_flatMap.mpr ⟨x, hx, List.mem_map.mpr ⟨0, List.mem_range.mpr u.pos, rfl⟩⟩, ?_, ?_⟩
  · exact subK_0 (by rw [(h x hx).k.l, ho.l])
  · show x.2.1 + ((0 : Nat) : Int) * o.2 = x.2.1
    simp
theorem cov_step {o : Of} {S S' : List Sb} (h : Cov S S') : Cov (S.flatMap (stepA o)) (S'.flatMap (stepA o)) := fun x hx => by
  obtain ⟨s, hs, hx⟩ := List.mem_flatMap.mp hx
  obtain ⟨y, hy, e1, e2⟩ := h s hs
  unfold stepA at hx
  obtain ⟨k, hk, rfl⟩ := List.mem_map.mp hx
  refine ⟨(subK y.1 k o.1, (y.2.1 + (k : Int) * o.2, y.2.2 ++ [(k : Int)])), List.mem_flatMap.mpr ⟨y, hy, List.mem_map.mpr ⟨k, by rw [e1]; exact hk, rfl⟩⟩, ?_, ?_⟩
  · dsimp only; rw [e1]
  · dsimp only; rw [e2]
theorem cov_all : ∀ {O : List Of} {S S' : List Sb}, Cov S S' → Cov (allA O S) (allA O S')
  | [], _, _, h => h
  | o :: O, _, _, h => cov_all (O := O) (cov_step h)
theorem all_cov {n : Nat} : ∀ {O : List Of} {S : List Sb} {j : Nat}, (∀ o ∈ O, OfOk n o) → (∀ s ∈ S, Sin n j s) → Cov S (allA O S)
  | [], S, j, _, _ => fun x hx => ⟨x, hx, rfl, rfl⟩
  | o :: O, S, j, hO, h => fun x hx => by
    obtain ⟨y, hy, e1, e2⟩ := step_cov h (hO o (by simp)) x hx
    obtain ⟨z, hz, e3, e4⟩ := all_cov (O := O) (S := S.flatMap (stepA o)) (j := j + 1) (fun o' h' => hO o' (List.mem_cons_of_mem _ h')) (fun s hs => by
      obtain ⟨t, ht, hs⟩ := List.mem_flatMap.mp hs
      exact step_in (h t ht) (hO o (by simp)) hs) y hy
    exact ⟨z, hz, e3.trans e1, e4.trans e2⟩
def S0 (B : List Int) : List Sb := [(B, (0, []))]
theorem S0_in {n : Nat} {B : List Int} (h : Bk n B) : ∀ s ∈ S0 B, Sin n 0 s := fun s hs => by
  rw [List.mem_singleton.mp hs]
  exact ⟨h, rfl, fun x hx => by cases hx⟩
/-- all prices with their bills -/
def allF (P : List Int) (O : List Of) (B : List Int) : List Pr := (allA O (S0 B)).map fun s => (s.2.1 + dotZ P s.1, s.2.2)
theorem allA_ne {n : Nat} {O : List Of} {B : List Int} (hO : ∀ o ∈ O, OfOk n o) (h : Bk n B) : allA O (S0 B) ≠ [] := fun z => by
  obtain ⟨y, hy, _⟩ := all_cov hO (S0_in h) (B, (0, [])) (by simp [S0])
  rw [z] at hy; cases hy
def minF (L : List Pr) : Pr := match L with
  | [] => (0, [])
  | p :: L => minP p L
theorem minF_least {L : List Pr} (h : L ≠ []) : Least L (minF L) := by
  cases L with
  | nil => exact absurd rfl h
  | cons p L => exact minP_least L p
def dueP (P : List Int) (O : List Of) (B : List Int) : Pr := minF (allF P O B)
theorem allF_ne {n : Nat} {P : List Int} {O : List Of} {B : List Int} (hO : ∀ o ∈ O, OfOk n o) (h : Bk n B) : allF P O B ≠ [] := by
  unfold allF
  rw [Ne, List.map_eq_nil_iff]
  exact allA_ne hO h
theorem le_of_k {p q : Pr} (h : ¬ q.k < p.k) : p.1 ≤ q.1 := by
  unfold Pr.k at h
  rw [List.cons_lt_cons_iff] at h
  omega
theorem due_le {n : Nat} {P : List Int} {O : List Of} {B : List Int} (hO : ∀ o ∈ O, OfOk n o) (h : Bk n B) : (dueP P O B).1 ≤ dotZ P B := by
  obtain ⟨y, hy, e1, e2⟩ := all_cov hO (S0_in h) (B, (0, [])) (by simp [S0])
  have := (minF_least (allF_ne (P := P) hO h)).le (y.2.1 + dotZ P y.1, y.2.2) (List.mem_map.mpr ⟨y, hy, rfl⟩)
  have := le_of_k this
  dsimp only at this e1 e2
  unfold dueP
  rw [e1, e2] at this
  omega
theorem due_more {n : Nat} {P : List Int} {O1 O2 : List Of} {o : Of} {B : List Int} (hO : ∀ o' ∈ O1 ++ o :: O2, OfOk n o') (h : Bk n B) : (dueP P (O1 ++ o :: O2) B).1 ≤ (dueP P (O1 ++ O2) B).1 := by
  have hO' : ∀ o' ∈ O1 ++ O2, OfOk n o' := fun o' h' => hO o' (by
    rcases List.mem_append.mp h' with h' | h'
    · exact List.mem_append_left _ h'
    · exact List.mem_append_right _ (List.mem_cons_of_mem _ h'))
  have m := (minF_least (allF_ne (P := P) hO' h)).mem
  unfold allF at m
  obtain ⟨s, hs, e⟩ := List.mem_map.mp m
  have e : _ = dueP P (O1 ++ O2) B := e
  rw [← e]
  have c : Cov (allA (O1 ++ O2) (S0 B)) (allA (O1 ++ o :: O2) (S0 B)) := by
    rw [allA_app, allA_app, allA_cons]
    exact cov_all (step_cov (allA_in (fun o' h' => hO o' (List.mem_append_left _ h')) (S0_in h)) (hO o (by simp)))
  obtain ⟨y, hy, e1, e2⟩ := c s hs
  have := (minF_least (allF_ne (P := P) hO h)).le (y.2.1 + dotZ P y.1, y.2.2) (List.mem_map.mpr ⟨y, hy, rfl⟩)
  have := le_of_k this
  dsimp only at this e1 e2 ⊢
  unfold dueP
  rw [e1, e2] at this
  exact this
end Dl
set_option Elab.async false
set_option linter.all false
set_option maxRecDepth 100000
namespace Dl
open PySem PySem.Spec PyProof.Rows L2
def offD (o : Of) : PyData := .tuple [rowT o.1, .int o.2]
def ofsT (O : List Of) : PyData := .tuple (O.map offD)
theorem ofs_len {O : List Of} : lenD (ofsT O) = some (.d (.int O.length)) := by
  show some (W.d (.int ((O.map offD).length : Nat))) = _
  rw [List.length_map]
theorem ofs_get {O : List Of} {j : Nat} (h : j < O.length) : ixD (ofsT O) (.int (j : Nat)) = some (.d (offD (O.getD j ([], 0)))) := by
  show (atI (O.map offD) (j : Int)).map W.d = _
  rw [atI_nat, List.getElem?_map, List.getElem?_eq_getElem h, List.getD_eq_getElem?_getD, List.getElem?_eq_getElem h]
  rfl
theorem off_0 {o : Of} : ixD (offD o) (.int 0) = some (.d (rowT o.1)) := rfl
theorem off_1 {o : Of} : ixD (offD o) (.int 1) = some (.d (.int o.2)) := rfl
theorem m_is_whole_ok {v : PyData} {a b : Int} : m_is_whole [some (.d v), some (.d (.int a)), some (.d (.int b))] = .ok (.bool (numB v a b)) := by
  unfold m_is_whole b_is_whole
  cases v <;> simp [numB]
  rename_i i
  by_cases h : a ≤ i
  · simp [h, Int.not_lt.mpr h]
  · simp [h, Int.not_le.mp h]
theorem m_plain_ok {P L : List Int} {T : Bool} (hP : ∀ p ∈ P, 0 ≤ p ∧ p ≤ 1000000) : m__plain [some (.d (rowT P)), some (.d (sqD T L))] = .ok (.int (dotZ P L)) := by
  unfold m__plain
  refine fn_rt (M := [some (.d (rowT P)), some (.d (sqD T L)), none, none]) rfl (ret_rt ?_)
  have h : lc__plain_0 [some (.d (rowT P)), some (.d (sqD T L)), none, none] = .ok (.l (((P.zip L).map fun q => q.1 * q.2).map PyData.int)) := by
    unfold lc__plain_0
    rw [List.map_map]
    refine lc_map (P.zip L) (fun q => PyData.tuple [.int q.1, .int q.2]) _ (by rfl) ?_ fun q hq => ⟨[some (.d (rowT P)), some (.d (sqD T L)), some (.d (.int q.1)), some (.d (.int q.2))], by rfl, ?_⟩
    · simp only [EV]
      rw [zipG_s (xs := P.map PyData.int) (ys := L.map PyData.int) rfl sq_items, zip_ints]
    · have h := hP q.1 (List.of_mem_zip hq).1
      simp only [EV, mul_l (small_of h.1 h.2)]
      rfl
  simp only [EV, h, sumD_l]
  rfl
/-! ### what is left -/
def lf : List Of → List Int → List Int → List Int
  | o :: O, k :: r, L => lf O r (subK L k o.1)
  | _, _, L => L
theorem lf_snoc : ∀ {O : List Of} {r L : List Int} {o : Of} {k : Int}, r.length = O.length → lf (O ++ [o]) (r ++ [k]) L = subK (lf O r L) k o.1
  | [], [], _, _, _, _ => rfl
  | x :: O, j :: r, L, o, k, h => lf_snoc (O := O) (r := r) (L := subK L j x.1) (by simpa using h)
  | [], _ :: _, _, _, _, h => by simp at h
  | _ :: _, [], _, _, _, h => by simp at h
theorem lf_len : ∀ {O : List Of} {r L : List Int}, (∀ o ∈ O, o.1.length = L.length) → (lf O r L).length = L.length
  | [], _, _, _ => rfl
  | _ :: _, [], _, _ => rfl
  | o :: O, k :: r, L, h => by
    have e : (subK L k o.1).length = L.length := subK_len (h o (by simp)).symm
    show (lf O r (subK L k o.1)).length = _
    rw [lf_len fun o' h' => (h o' (List.mem_cons_of_mem _ h')).trans e.symm, e]
theorem sub_get {L c : List Int} {k : Int} {i : Nat} (h : i < L.length) (h2 : c.length = L.length) : (subK L k c).getD i 0 = L.getD i 0 - k * c.getD i 0 := by
  unfold subK
  rw [List.getD_eq_getElem?_getD, List.getElem?_map, List.getD_eq_getElem?_getD, List.getD_eq_getElem?_getD, List.getElem?_eq_getElem (by simp; omega), List.getElem_zip, List.getElem?_eq_getElem h, List.getElem?_eq_getElem (by omega)]
  rfl
def lfI (O : List Of) (r B : List Int) (i : Nat) : Int := B.getD i 0 - ((List.range O.length).map fun j => r.getD j 0 * (O.getD j ([], 0)).1.getD i 0).sum
theorem lf_get : ∀ {O : List Of} {r L : List Int} {i : Nat}, r.length = O.length → (∀ o ∈ O, o.1.length = L.length) → i < L.length → (lf O r L).getD i 0 = lfI O r L i
  | [], [], L, i, _, _, _ => by simp [lf, lfI]
  | o :: O, k :: r, L, i, h, hO, hi => by
    have e : (subK L k o.1).length = L.length := subK_len (hO o (by simp)).symm
    have ih := lf_get (O := O) (r := r) (L := subK L k o.1) (i := i) (by simpa using h) (fun o' h' => (hO o' (List.mem_cons_of_mem _ h')).trans e.symm) (by omega)
    show (lf O r (subK L k o.1)).getD i 0 = _
    rw [ih]
    unfold lfI
    rw [sub_get hi (hO o (by simp)), List.length_cons, List.range_succ_eq_map, List.map_cons, List.sum_cons, List.map_map]
    have e2 : ((fun j => (k :: r).getD j 0 * ((o :: O).getD j ([], 0)).1.getD i 0) ∘ Nat.succ) = fun j => r.getD j 0 * (O.getD j ([], 0)).1.getD i 0 := rfl
    rw [e2]
    show L.getD i 0 - k * o.1.getD i 0 - _ = L.getD i 0 - (k * o.1.getD i 0 + _)
    omega
  | [], _ :: _, _, _, h, _, _ => by simp at h
  | _ :: _, [], _, _, h, _, _ => by simp at h
theorem lf_range {O : List Of} {r L : List Int} (h : r.length = O.length) (hO : ∀ o ∈ O, o.1.length = L.length) : (List.range L.length).map (lfI O r L) = lf O r L := by
  refine List.ext_getElem (by simp [lf_len hO]) fun i h1 h2 => ?_
  rw [List.getElem_map, List.getElem_range]
  rw [List.length_map, List.length_range] at h1
  rw [← lf_get h hO h1, List.getD_eq_getElem?_getD, List.getElem?_eq_getElem h2]
  rfl
section
variable {O : List Of} {r B : List Int}
theorem ml0 {i : Nat} (h : r.length = O.length) (hO : ∀ o ∈ O, o.1.length = B.length) (hl : O.length ≤ 100) (hr : ∀ x ∈ r, 0 ≤ x ∧ x ≤ 1000) (hi : i < B.length) :
    lc__law_left_0 [some (.d (ofsT O)), some (.d (rowT B)), some (.d (rowT r)), some (.d (.int (i : Nat))), none] = .ok (.l (((List.range O.length).map fun j => r.getD j 0 * (O.getD j ([], 0)).1.getD i 0).map PyData.int)) := by
  unfold lc__law_left_0
  rw [List.map_map]
  refine lc_map (List.range O.length) (fun (i : Nat) => PyData.int i) _ (by rfl) ?_ fun j hj => ⟨[some (.d (ofsT O)), some (.d (rowT B)), some (.d (rowT r)), some (.d (.int (i : Nat))), some (.d (.int (j : Nat)))], by rfl, ?_⟩
  · simp only [EV, ofs_len]
    exact rng_map (by omega)
  · have hj := List.mem_range.mp hj
    have hm : O.getD j ([], 0) ∈ O := by
      rw [List.getD_eq_getElem?_getD, List.getElem?_eq_getElem hj]
      exact List.getElem_mem hj
    have hrj := hr (r.getD j 0) (by
      rw [List.getD_eq_getElem?_getD, List.getElem?_eq_getElem (by omega)]
      exact List.getElem_mem _)
    simp only [EV, ofs_get hj, off_0, row_get (xs := (O.getD j ([], 0)).1) (i := i) (by rw [hO _ hm]; exact hi), row_get (xs := r) (i := j) (by omega), mul_l (small_of hrj.1 (show r.getD j 0 ≤ 1000000 by omega))]
    rfl
theorem m_law_left_ok (h : r.length = O.length) (hO : ∀ o ∈ O, o.1.length = B.length) (hl : O.length ≤ 100) (hB : B.length ≤ 100) (hr : ∀ x ∈ r, 0 ≤ x ∧ x ≤ 1000) :
    m__law_left [some (.d (ofsT O)), some (.d (rowT B)), some (.d (rowT r))] = .ok (.list ((lf O r B).map PyData.int)) := by
  unfold m__law_left
  refine fn_rt (M := [some (.d (ofsT O)), some (.d (rowT B)), some (.d (rowT r)), none, none]) rfl (ret_rt ?_)
  have h1 : lc__law_left_1 [some (.d (ofsT O)), some (.d (rowT B)), some (.d (rowT r)), none, none] = .ok (.l ((lf O r B).map PyData.int)) := by
    unfold lc__law_left_1
    rw [← lf_range h hO, List.map_map]
    refine lc_map (List.range B.length) (fun (i : Nat) => PyData.int i) _ (by rfl) ?_ fun i hi => ⟨[some (.d (ofsT O)), some (.d (rowT B)), some (.d (rowT r)), some (.d (.int (i : Nat))), none], by rfl, ?_⟩
    · simp only [EV, row_len]
      exact rng_map (by omega)
    · have hi := List.mem_range.mp hi
      simp only [EV, ml0 h hO hl hr hi, sumD_l, row_get hi]
      rfl
  rw [toV_s, h1]
  rfl
theorem zip_of (r : List Int) (O : List Of) : zipL (r.map PyData.int) (O.map offD) = (r.zip O).map fun q => PyData.tuple [.int q.1, offD q.2] := by
  induction r generalizing O with
  | nil => rfl
  | cons x r ih =>
    cases O with
    | nil => rfl
    | cons o O => simp only [List.map_cons, zipL, List.zip_cons_cons, ih]
theorem lf_fold : ∀ {O : List Of} {r L : List Int}, (r.zip O).foldl (fun L q => subK L q.1 q.2.1) L = lf O r L
  | [], [], _ => rfl
  | [], _ :: _, _ => rfl
  | _ :: _, [], _ => rfl
  | o :: O, k :: r, L => lf_fold (O := O) (r := r) (L := subK L k o.1)
theorem lft1 {L : List Int} {q : Int × Of} (hq : 0 ≤ q.1 ∧ q.1 ≤ 1000) : fb__left_1 [some (.d (ofsT O)), none, some (.d (rowT r)), some (.d (.list (L.map PyData.int))), some (.d (.int q.1)), some (.d (rowT q.2.1)), some (.d (.int q.2.2)), none, none] = .nx [some (.d (ofsT O)), none, some (.d (rowT r)), some (.d (.list ((subK L q.1 q.2.1).map PyData.int))), none, none, none, none, none] := by
  unfold fb__left_1
  refine cut_go (m' := [some (.d (ofsT O)), none, some (.d (rowT r)), some (.d (.list ((subK L q.1 q.2.1).map PyData.int))), some (.d (.int q.1)), some (.d (rowT q.2.1)), some (.d (.int q.2.2)), none, none]) ?_ rfl
  have h : lc__left_0 [some (.d (ofsT O)), none, some (.d (rowT r)), some (.d (.list (L.map PyData.int))), some (.d (.int q.1)), some (.d (rowT q.2.1)), some (.d (.int q.2.2)), none, none] = .ok (.l ((subK L q.1 q.2.1).map PyData.int)) := by
    unfold lc__left_0 subK
    rw [List.map_map]
    refine lc_map (L.zip q.2.1) (fun q => PyData.tuple [.int q.1, .int q.2]) _ (by rfl) ?_ fun z hz => ⟨[some (.d (ofsT O)), none, some (.d (rowT r)), some (.d (.list (L.map PyData.int))), some (.d (.int q.1)), some (.d (rowT q.2.1)), some (.d (.int q.2.2)), some (.d (.int z.1)), some (.d (.int z.2))], by rfl, ?_⟩
    · simp only [EV]
      rw [zipG_s (xs := L.map PyData.int) (ys := q.2.1.map PyData.int) rfl rfl, zip_ints]
    · simp only [EV, mul_l (small_of hq.1 (show q.1 ≤ 1000000 by omega))]
      rfl
  simp only [EV, h]
  rfl
theorem m_left_ok (hr : ∀ x ∈ r, 0 ≤ x ∧ x ≤ 1000) : m__left [some (.d (ofsT O)), some (.d (rowT B)), some (.d (rowT r))] = .ok (.list ((lf O r B).map PyData.int)) := by
  unfold m__left
  refine fn_rt (M := [some (.d (ofsT O)), some (.d (rowT B)), some (.d (rowT r)), none, none, none, none, none, none]) rfl ?_
  unfold b__left
  refine seq_go (m' := [some (.d (ofsT O)), some (.d (rowT B)), some (.d (rowT r)), some (.d (.list (B.map PyData.int))), none, none, none, none, none]) (by rfl) ?_
  have e := for_fold (s := gTup' 2 (gCons (gSet 4) (gCons (gTup' 2 (gCons (gSet 5) (gCons (gSet 6) gNil))) gNil))) (b := fb__left_1) (fun (q : Int × Of) => PyData.tuple [.int q.1, offD q.2]) (fun (L : List Int) => ([some (.d (ofsT O)), none, some (.d (rowT r)), some (.d (.list (L.map PyData.int))), none, none, none, none, none] : Ms)) (fun (L : List Int) (q : Int × Of) => subK L q.1 q.2.1) (fun _ => True) (r.zip O) (st := B) trivial fun q hq L _ => ⟨_, rfl, lft1 (hr q.1 (List.of_mem_zip hq).1), trivial⟩
  have e := e.1
  rw [lf_fold] at e
  refine seq_go (m' := [none, none, none, some (.d (.list ((lf O r B).map PyData.int))), none, none, none, none, none]) (cut_go (pre_go rfl (for_go (xs := (r.zip O).map fun q => PyData.tuple [.int q.1, offD q.2]) ?_ e)) rfl) (by rfl)
  simp only [EV]
  rw [zipG_s (xs := r.map PyData.int) (ys := O.map offD) rfl rfl, zip_of]
/-! ### the price of a bill -/
def paidI (O : List Of) (r : List Int) : Int := ((r.zip O).map fun q => q.1 * q.2.2).sum
theorem paid_snoc {o : Of} {k : Int} (h : r.length = O.length) : paidI (O ++ [o]) (r ++ [k]) = paidI O r + k * o.2 := by
  unfold paidI
  rw [List.zip_append h]
  simp
theorem paid_range : ∀ {O : List Of} {r : List Int}, r.length = O.length → ((List.range O.length).map fun j => r.getD j 0 * (O.getD j ([], 0)).2).sum = paidI O r
  | [], [], _ => rfl
  | o :: O, k :: r, h => by
    have ih := paid_range (O := O) (r := r) (by simpa using h)
    rw [List.length_cons, List.range_succ_eq_map, List.map_cons, List.sum_cons, List.map_map]
    have e2 : ((fun j => (k :: r).getD j 0 * ((o :: O).getD j ([], 0)).2) ∘ Nat.succ) = fun j => r.getD j 0 * (O.getD j ([], 0)).2 := rfl
    rw [e2, ih]
    rfl
  | [], _ :: _, h => by simp at h
  | _ :: _, [], h => by simp at h
theorem m_law_price_ok {P : List Int} (hP : ∀ p ∈ P, 0 ≤ p ∧ p ≤ 1000000) (hPB : P.length = B.length) (h : r.length = O.length) (hO : ∀ o ∈ O, o.1.length = B.length) (hl : O.length ≤ 100) (hB : B.length ≤ 100) (hr : ∀ x ∈ r, 0 ≤ x ∧ x ≤ 1000) :
    m__law_price [some (.d (rowT P)), some (.d (ofsT O)), some (.d (rowT B)), some (.d (rowT r))] = .ok (.int (dotZ P (lf O r B) + paidI O r)) := by
  unfold m__law_price
  refine fn_rt (M := [some (.d (rowT P)), some (.d (ofsT O)), some (.d (rowT B)), some (.d (rowT r)), none, none, none]) rfl ?_
  unfold b__law_price
  refine seq_go (m' := [some (.d (rowT P)), some (.d (ofsT O)), some (.d (rowT B)), some (.d (rowT r)), some (.d (.list ((lf O r B).map PyData.int))), none, none]) ?_ (ret_rt ?_)
  · simp only [EV, List.map_cons, List.map_nil, m_law_left_ok h hO hl hB hr]
    rfl
  · have hlen : P.length = (lf O r B).length := by rw [lf_len hO, hPB]
    have h0 : lc__law_price_0 [some (.d (rowT P)), some (.d (ofsT O)), some (.d (rowT B)), some (.d (rowT r)), some (.d (.list ((lf O r B).map PyData.int))), none, none] = .ok (.l (((P.zip (lf O r B)).map fun q => q.1 * q.2).map PyData.int)) := by
      unfold lc__law_price_0
      rw [← range_zip (fun a b => a * b) P (lf O r B) hlen, List.map_map]
      refine lc_map (List.range P.length) (fun (i : Nat) => PyData.int i) _ (by rfl) ?_ fun i hi => ⟨[some (.d (rowT P)), some (.d (ofsT O)), some (.d (rowT B)), some (.d (rowT r)), some (.d (.list ((lf O r B).map PyData.int))), some (.d (.int (i : Nat))), none], by rfl, ?_⟩
      · simp only [EV, row_len]
        exact rng_map (by omega)
      · have hi := List.mem_range.mp hi
        have hp := hP (P.getD i 0) (by
          rw [List.getD_eq_getElem?_getD, List.getElem?_eq_getElem hi]
          exact List.getElem_mem _)
        simp only [EV, row_get hi, dr_get (D := lf O r B) (i := i) (by omega), at_get (xs := lf O r B) (i := i) (by omega), Option.map_some, mul_l (small_of hp.1 hp.2)]
        rfl
    have h1 : lc__law_price_1 [some (.d (rowT P)), some (.d (ofsT O)), some (.d (rowT B)), some (.d (rowT r)), some (.d (.list ((lf O r B).map PyData.int))), none, none] = .ok (.l (((List.range O.length).map fun j => r.getD j 0 * (O.getD j ([], 0)).2).map PyData.int)) := by
      unfold lc__law_price_1
      rw [List.map_map]
      refine lc_map (List.range O.length) (fun (i : Nat) => PyData.int i) _ (by rfl) ?_ fun j hj => ⟨[some (.d (rowT P)), some (.d (ofsT O)), some (.d (rowT B)), some (.d (rowT r)), some (.d (.list ((lf O r B).map PyData.int))), none, some (.d (.int (j : Nat)))], by rfl, ?_⟩
      · simp only [EV, ofs_len]
        exact rng_map (by omega)
      · have hj := List.mem_range.mp hj
        have hrj := hr (r.getD j 0) (by
          rw [List.getD_eq_getElem?_getD, List.getElem?_eq_getElem (by omega)]
          exact List.getElem_mem _)
        simp only [EV, ofs_get hj, off_1, row_get (xs := r) (i := j) (by omega), mul_l (small_of hrj.1 (show r.getD j 0 ≤ 1000000 by omega))]
        rfl
    simp only [EV, h0, h1, sumD_l, paid_range h]
    rfl
end
end Dl
set_option Elab.async false
set_option linter.all false
set_option maxRecDepth 100000
namespace Dl
open PySem PySem.Spec PyProof.Rows L2
theorem min_non {xs : List Int} (h : xs ≠ []) : (!decide (minL xs < 0)) = nonN xs := by
  cases xs with
  | nil => exact absurd rfl h
  | cons x xs =>
    obtain ⟨h1, h2, h3⟩ := foldl_min_mem xs x
    show (!decide (xs.foldl min x < 0)) = _
    rw [Bool.eq_iff_iff]
    simp only [Bool.not_eq_true', decide_eq_false_iff_not, nonN, List.all_eq_true, decide_eq_true_eq]
    constructor
    · intro h y hy
      rcases List.mem_cons.mp hy with rfl | hy
      · omega
      · have := h3 y hy; omega
    · intro h
      rcases h1 with h1 | h1
      · have := h x (by simp); omega
      · have := h _ (List.mem_cons_of_mem _ h1); omega
/-- the rows of one more offer -/
def rowsF (u k : Nat) (r : List Int) : List PyData := (List.range' k (u - k)).map fun (i : Nat) => rowT (r ++ [(i : Int)])
theorem rowsF_0 {u k : Nat} {r : List Int} (h : u ≤ k) : rowsF u k r = [] := by
  unfold rowsF; rw [show u - k = 0 by omega]; rfl
theorem rowsF_s {u k : Nat} {r : List Int} (h : k < u) : rowsF u k r = rowT (r ++ [(k : Int)]) :: rowsF u (k + 1) r := by
  unfold rowsF
  rw [show u - k = (u - (k + 1)) + 1 by omega, List.range'_succ, List.map_cons]
section
variable {O pre post : List Of} {o : Of} {r B L : List Int} {n : Nat}
noncomputable abbrev tB : Ms → Rz Bool := (t2 geD (toV (eCall (g12 minD1 minT2) [(vFn m__law_left [(toV (eSl (rVar 0) oNone (oSome (toV (e2 addD (rVar 3) (vC (.int 1))))))), (vVar 1), (toV (e2 addD (rVar 5) (eTup [(vVar 6)])))])])) (vC (.int 0)))
theorem of_take {i : Nat} : cutL (O.map offD) none (some ((i : Int) + 1)) = (O.take (i + 1)).map offD := by
  rw [show ((i : Int) + 1) = ((i + 1 : Nat) : Int) by omega, takeN, List.map_take]
theorem tB_ok {j k : Nat} {x2 x4 : Option W} (hO : O.take (j + 1) = pre ++ [o]) (hp : pre.length = j) (hr : r.length = j) (hL : lf pre r B = L) (hB : 1 ≤ B.length) (hB2 : B.length ≤ 100) (hlen : ∀ o ∈ O, o.1.length = B.length) (hj : j ≤ 90) (hb : ∀ x ∈ r, 0 ≤ x ∧ x ≤ 1000) (hk : k ≤ 1000) :
    tB [some (.d (ofsT O)), some (.d (rowT B)), x2, some (.d (.int (j : Nat))), x4, some (.d (rowT r)), some (.d (.int (k : Nat)))] = .ok (nonN (subK L k o.1)) := by
  have hpre : ∀ o' ∈ pre ++ [o], o'.1.length = B.length := fun o' h => hlen o' (List.mem_of_mem_take (by rw [hO]; exact h))
  have h1 := m_law_left_ok (O := pre ++ [o]) (r := r ++ [(k : Int)]) (B := B) (by simp; omega) hpre (by simp; omega) hB2 (fun x hx => by
    rcases List.mem_append.mp hx with hx | hx
    · exact hb x hx
    · rw [List.mem_singleton.mp hx]; omega)
  rw [lf_snoc (by omega), hL] at h1
  have h2 : (subK L k o.1) ≠ [] := by
    intro z
    have := subK_len (L := L) (c := o.1) (k := k) (by rw [← hL, lf_len fun o' h' => hpre o' (List.mem_append_left _ h')]; exact (hpre o (by simp)).symm)
    rw [z, ← hL, lf_len fun o' h' => hpre o' (List.mem_append_left _ h'), List.length_nil] at this
    omega
  rw [← min_non h2]
  have h3 : slD (ofsT O) none (some ((j : Int) + 1)) = some (.d (ofsT (pre ++ [o]))) := by
    show some (W.d (.tuple (cutL (O.map offD) none (some ((j : Int) + 1))))) = _
    rw [of_take, hO]
    rfl
  simp only [EV, h3, row_add (show r.length ≤ 1000 by omega), List.map_cons, List.map_nil, h1, minD1_L h2]
theorem bl0 {j k : Nat} {xs : List PyData} (hr : r.length ≤ 1000) (hx : xs.length ≤ 10000000) : fb__law_bills_0 [some (.d (ofsT O)), some (.d (rowT B)), none, some (.d (.int (j : Nat))), some (.l xs), some (.d (rowT r)), some (.d (.int (k : Nat)))] = .nx [some (.d (ofsT O)), some (.d (rowT B)), none, some (.d (.int (j : Nat))), some (.l (xs ++ [rowT (r ++ [(k : Int)])])), some (.d (rowT r)), some (.d (.int ((k + 1 : Nat) : Int)))] := by
  unfold fb__law_bills_0
  refine seq_go (m' := [some (.d (ofsT O)), some (.d (rowT B)), none, some (.d (.int (j : Nat))), some (.l (xs ++ [rowT (r ++ [(k : Int)])])), some (.d (rowT r)), some (.d (.int (k : Nat)))]) ?_ ?_
  · simp only [EV, lAt, row_add hr]
    rw [if_pos (by omega)]
  · simp only [EV]
    rfl
theorem bl_while {j : Nat} (hO : O.take (j + 1) = pre ++ [o]) (hp : pre.length = j) (hr : r.length = j) (hL : lf pre r B = L) (hB : 1 ≤ B.length) (hB2 : B.length ≤ 100) (hlen : ∀ o ∈ O, o.1.length = B.length) (hj : j ≤ 90) (hb : ∀ x ∈ r, 0 ≤ x ∧ x ≤ 1000) {u : Nat} (U : UpOk L o.1 u) :
    ∀ (f k : Nat) (xs : List PyData), u - k < f → k ≤ u → xs.length + (u - k) ≤ 10000000 →
    goWhile tB fb__law_bills_0 f [some (.d (ofsT O)), some (.d (rowT B)), none, some (.d (.int (j : Nat))), some (.l xs), some (.d (rowT r)), some (.d (.int (k : Nat)))] = .nx [some (.d (ofsT O)), some (.d (rowT B)), none, some (.d (.int (j : Nat))), some (.l (xs ++ rowsF u k r)), some (.d (rowT r)), some (.d (.int (u : Nat)))]
  | 0, k, xs, h, _, _ => by omega
  | f + 1, k, xs, h, hk, hx => by
    have ule := U.le
    unfold goWhile
    rw [tB_ok hO hp hr hL hB hB2 hlen hj hb (by omega)]
    rcases Nat.lt_or_ge k u with h1 | h1
    · rw [U.yes k h1]
      dsimp only
      rw [bl0 (by omega) (by omega)]
      dsimp only
      rw [bl_while hO hp hr hL hB hB2 hlen hj hb U f (k + 1) _ (by omega) (by omega) (by simp; omega), rowsF_s h1, List.append_assoc]
      rfl
    · have e : k = u := by omega
      subst e
      rw [U.no, rowsF_0 (Nat.le_refl _), List.append_nil]
theorem bl1 {j : Nat} {xs : List PyData} (hO : O.take (j + 1) = pre ++ [o]) (hp : pre.length = j) (hr : r.length = j) (hL : lf pre r B = L) (hB : 1 ≤ B.length) (hB2 : B.length ≤ 100) (hlen : ∀ o ∈ O, o.1.length = B.length) (hj : j ≤ 90) (hb : ∀ x ∈ r, 0 ≤ x ∧ x ≤ 1000) (U : UpOk L o.1 (upN L o.1)) (hx : xs.length ≤ 9000000) {x2 x6 : Option W} :
    fb__law_bills_1 [some (.d (ofsT O)), some (.d (rowT B)), x2, some (.d (.int (j : Nat))), some (.l xs), some (.d (rowT r)), x6] = .nx [some (.d (ofsT O)), some (.d (rowT B)), none, some (.d (.int (j : Nat))), some (.l (xs ++ rowsF (upN L o.1) 0 r)), none, none] := by
  have ule := U.le
  unfold fb__law_bills_1
  refine cut_go (m' := [some (.d (ofsT O)), some (.d (rowT B)), none, some (.d (.int (j : Nat))), some (.l (xs ++ rowsF (upN L o.1) 0 r)), none, none]) ?_ rfl
  refine seq_go (m' := [some (.d (ofsT O)), some (.d (rowT B)), x2, some (.d (.int (j : Nat))), some (.l xs), some (.d (rowT r)), some (.d (.int 0))]) (by rfl) ?_
  exact cut_go (pre_go rfl (bl_while hO hp hr hL hB hB2 hlen hj hb U 1000000 0 xs (by omega) (by omega) (by omega))) rfl
/-- the rows of a list of turns -/
theorem rows_step (s : Sb) : rowsF (upN s.1 o.1) 0 s.2.2 = (stepA o s).map fun x => rowT x.2.2 := by
  unfold rowsF stepA
  rw [List.map_map, Nat.sub_zero, ← List.range_eq_range']
  rfl
structure LfIn (n : Nat) (pre : List Of) (B : List Int) (s : Sb) : Prop where
  i : Sin n pre.length s
  f : lf pre s.2.2 B = s.1
theorem lf_step {n : Nat} {s x : Sb} (h : LfIn n pre B s) (ho : OfOk n o) (hx : x ∈ stepA o s) : LfIn n (pre ++ [o]) B x := by
  refine ⟨by rw [List.length_append]; exact step_in h.i ho hx, ?_⟩
  unfold stepA at hx
  obtain ⟨k, hk, rfl⟩ := List.mem_map.mp hx
  rw [lf_snoc h.i.l, h.f]
theorem lf_allG {n : Nat} {B : List Int} : ∀ (O pre : List Of) (S : List Sb), (∀ o ∈ O, OfOk n o) → (∀ s ∈ S, LfIn n pre B s) → ∀ s ∈ allA O S, LfIn n (pre ++ O) B s
  | [], pre, S, _, h, s, hs => by rw [List.append_nil]; exact h s hs
  | o :: O, pre, S, hO, h, s, hs => by
    have := lf_allG O (pre ++ [o]) (S.flatMap (stepA o)) (fun o' h' => hO o' (List.mem_cons_of_mem _ h')) (fun x hx => by
      obtain ⟨t, ht, hx⟩ := List.mem_flatMap.mp hx
      exact lf_step (h t ht) (hO o (by simp)) hx) s hs
    rw [List.append_assoc] at this
    exact this
theorem lf_all {n : Nat} {B : List Int} (h : Bk n B) (l : List Of) (hO : ∀ o ∈ l, OfOk n o) : ∀ s ∈ allA l (S0 B), LfIn n l B s := lf_allG l [] (S0 B) hO fun s hs => ⟨S0_in h s hs, by rw [List.mem_singleton.mp hs]; rfl⟩
theorem allA_lenG {n : Nat} : ∀ (O : List Of) (S : List Sb) (j : Nat), (∀ o ∈ O, OfOk n o) → (∀ s ∈ S, Sin n j s) → (allA O S).length ≤ 10 ^ O.length * S.length
  | [], S, _, _, _ => by simp [allA]
  | o :: O, S, j, hO, h => by
    have h1 := allA_lenG O (S.flatMap (stepA o)) (j + 1) (fun o' h' => hO o' (List.mem_cons_of_mem _ h')) (fun x hx => by
      obtain ⟨t, ht, hx⟩ := List.mem_flatMap.mp hx
      exact step_in (h t ht) (hO o (by simp)) hx)
    have h2 : (S.flatMap (stepA o)).length ≤ 10 * S.length := flat_le fun s hs => by
      have := (up_ok (h s hs).k (hO o (by simp))).le
      unfold stepA
      rw [List.length_map, List.length_range]
      exact this
    have h3 := Nat.mul_le_mul_left (10 ^ O.length) h2
    show (allA O (S.flatMap (stepA o))).length ≤ _
    rw [List.length_cons, Nat.pow_succ, Nat.mul_assoc]
    omega
theorem allA_len {n : Nat} {B : List Int} (h : Bk n B) (l : List Of) (hO : ∀ o ∈ l, OfOk n o) : (allA l (S0 B)).length ≤ 10 ^ l.length := by
  have := allA_lenG l (S0 B) 0 hO (S0_in h)
  simpa [S0] using this
end
end Dl
set_option Elab.async false
set_option linter.all false
set_option maxRecDepth 100000
namespace Dl
open PySem PySem.Spec PyProof.Rows L2
theorem range_split {n k : Nat} {l r : List Nat} (hy : List.range n = l ++ k :: r) : l.length < n ∧ k = l.length := by
  have h1 := congrArg List.length hy
  have h2 := congrArg (fun x => x[l.length]?) hy
  simp only [List.length_range, List.length_append, List.length_cons] at h1
  simp only [List.getElem?_range (show l.length < n by omega), List.getElem?_append_right (Nat.le_refl _), Nat.sub_self, List.getElem?_cons_zero, Option.some.injEq] at h2
  exact ⟨by omega, h2.symm⟩
theorem take_snoc {α : Type} {O : List α} {k : Nat} (h : k < O.length) : O.take (k + 1) = O.take k ++ [O[k]] := by
  rw [List.take_add_one, List.getElem?_eq_getElem h]
  rfl
def rowB (s : Sb) : PyData := rowT s.2.2
section
variable {O pre : List Of} {o : Of} {B : List Int} {n : Nat}
theorem bl2 {j : Nat} (hn : 1 ≤ n) (hn2 : n ≤ 100) (hB : Bk n B) (hOk : ∀ o ∈ O, OfOk n o) (hO : O.take (j + 1) = pre ++ [o]) (hp : pre.length = j) (hj : j ≤ 5) :
    fb__law_bills_2 [some (.d (ofsT O)), some (.d (rowT B)), some (.d (.list ((allA pre (S0 B)).map rowB))), some (.d (.int (j : Nat))), none, none, none] =
    .nx [some (.d (ofsT O)), some (.d (rowT B)), some (.d (.list ((allA (pre ++ [o]) (S0 B)).map rowB))), none, none, none, none] := by
  have hpre : ∀ o' ∈ pre ++ [o], OfOk n o' := fun o' h => hOk o' (List.mem_of_mem_take (by rw [hO]; exact h))
  have hpre' : ∀ o' ∈ pre, OfOk n o' := fun o' h => hpre o' (List.mem_append_left _ h)
  have ho : OfOk n o := hpre o (by simp)
  have hlen := allA_len hB pre hpre'
  have hlen : (allA pre (S0 B)).length ≤ 100000 := Nat.le_trans hlen (Nat.le_trans (Nat.pow_le_pow_right (by decide) (show pre.length ≤ 5 by omega)) (by decide))
  have hall := lf_all hB pre hpre'
  have hfin : allA (pre ++ [o]) (S0 B) = (allA pre (S0 B)).flatMap (stepA o) := by rw [allA_app]; rfl
  rw [hfin]
  clear hfin
  generalize allA pre (S0 B) = S at *
  have hflat : ∀ l : List Sb, (∀ s ∈ l, LfIn n pre B s) → (l.flatMap (stepA o)).length ≤ 10 * l.length := fun l hl => flat_le fun s hs => by
    have := (up_ok (hl s hs).i.k ho).le
    unfold stepA
    rw [List.length_map, List.length_range]
    exact this
  obtain ⟨m', e, x2, rfl⟩ := for_pre (s := gSet 5) (b := fb__law_bills_1) rowB (fun (l : List Sb) m => ∃ x2, m = [some (.d (ofsT O)), some (.d (rowT B)), x2, some (.d (.int (j : Nat))), some (.l ((l.flatMap (stepA o)).map rowB)), none, none]) S
    (m := [some (.d (ofsT O)), some (.d (rowT B)), some (.d (.list (S.map rowB))), some (.d (.int (j : Nat))), some (.l []), none, none]) rfl ⟨_, rfl⟩ fun l s r m hy ⟨x2, hm⟩ => by
    subst hm
    have hs := hall s (by rw [hy]; simp)
    have hl : l.length ≤ 100000 := by rw [hy, List.length_append] at hlen; omega
    have h2 := hflat l fun s hs => hall s (by rw [hy]; exact List.mem_append_left _ hs)
    refine ⟨_, rfl, _, .inl (bl1 (x2 := x2) (x6 := none) (pre := pre) (o := o) (r := s.2.2) (L := s.1) hO hp (by rw [hs.i.l, hp]) hs.f (by rw [hB.l]; exact hn) (by rw [hB.l]; exact hn2) (fun o' h => by rw [(hOk o' h).l, hB.l]) (by omega) (fun x hx => by have := hs.i.b x hx; omega) (up_ok hs.i.k ho) (by rw [List.length_map]; omega)), none, ?_⟩
    rw [rows_step, List.flatMap_append, List.flatMap_cons, List.flatMap_nil, List.append_nil, List.map_append]
    rfl
  unfold fb__law_bills_2
  refine cut_go (m' := [some (.d (ofsT O)), some (.d (rowT B)), some (.d (.list ((S.flatMap (stepA o)).map rowB))), none, some (.d (.list ((S.flatMap (stepA o)).map rowB))), none, none]) ?_ rfl
  refine seq_go (m' := [some (.d (ofsT O)), some (.d (rowT B)), some (.d (.list (S.map rowB))), some (.d (.int (j : Nat))), some (.l []), none, none]) (by rfl) ?_
  refine seq_go (m' := [some (.d (ofsT O)), some (.d (rowT B)), none, none, some (.l ((S.flatMap (stepA o)).map rowB)), none, none]) (cut_go (pre_go rfl (for_go (xs := S.map rowB) (by rfl) e)) rfl) (by rfl)
theorem bl_loop (hn : 1 ≤ n) (hn2 : n ≤ 100) (hB : Bk n B) (hOk : ∀ o ∈ O, OfOk n o) (hl : O.length ≤ 6) :
    goFor (gSet 3) fb__law_bills_2 ((List.range O.length).map fun (i : Nat) => PyData.int (i : Nat)) [some (.d (ofsT O)), some (.d (rowT B)), some (.d (.list ((S0 B).map rowB))), none, none, none, none] = .nx [some (.d (ofsT O)), some (.d (rowT B)), some (.d (.list ((allA O (S0 B)).map rowB))), none, none, none, none] := by
  obtain ⟨m', e, rfl⟩ := for_pre (s := gSet 3) (b := fb__law_bills_2) (fun (i : Nat) => PyData.int (i : Nat)) (fun (l : List Nat) m => m = [some (.d (ofsT O)), some (.d (rowT B)), some (.d (.list ((allA (O.take l.length) (S0 B)).map rowB))), none, none, none, none]) (List.range O.length) (m := [some (.d (ofsT O)), some (.d (rowT B)), some (.d (.list ((S0 B).map rowB))), none, none, none, none]) rfl (by rfl) fun l k r m hy hm => by
    subst hm
    obtain ⟨hk, rfl⟩ := range_split hy
    have ht := take_snoc hk
    refine ⟨_, rfl, _, .inl (bl2 (pre := O.take l.length) (o := O[l.length]) hn hn2 hB hOk ht (by rw [List.length_take]; omega) (by omega)), ?_⟩
    rw [List.length_append, List.length_singleton, ht]
  rw [e, List.length_range, List.take_length]
def billsS (O : List Of) (B : List Int) : List (List Int) := ((allA O (S0 B)).map fun s => s.2.2).mergeSort leR
theorem mem_bills {r : List Int} : r ∈ billsS O B ↔ ∃ s ∈ allA O (S0 B), s.2.2 = r := by
  unfold billsS
  rw [List.mem_mergeSort, List.mem_map]
theorem m_law_bills_ok (hn : 1 ≤ n) (hn2 : n ≤ 100) (hB : Bk n B) (hOk : ∀ o ∈ O, OfOk n o) (hl : O.length ≤ 6) :
    m__law_bills [some (.d (ofsT O)), some (.d (rowT B))] = .ok (.list ((billsS O B).map rowT)) := by
  have hlen : (allA O (S0 B)).length ≤ 1000000 := Nat.le_trans (allA_len hB O hOk) (Nat.le_trans (Nat.pow_le_pow_right (by decide) hl) (by decide))
  unfold m__law_bills
  refine fn_rt (M := [some (.d (ofsT O)), some (.d (rowT B)), none, none, none, none, none]) rfl ?_
  unfold b__law_bills
  refine seq_go (m' := [some (.d (ofsT O)), some (.d (rowT B)), some (.d (.list ((S0 B).map rowB))), none, none, none, none]) (by rfl) ?_
  refine seq_go (m' := [none, none, some (.d (.list ((allA O (S0 B)).map rowB))), none, none, none, none]) (cut_go (pre_go rfl (for_go ?_ (bl_loop hn hn2 hB hOk hl))) rfl) (ret_rt ?_)
  · simp only [EV, ofs_len]
    exact rng_map (by omega)
  · have e : (allA O (S0 B)).map rowB = ((allA O (S0 B)).map fun s => s.2.2).map rowT := by rw [List.map_map]; rfl
    rw [e]
    have h : sortE (.list (((allA O (S0 B)).map fun s => s.2.2).map rowT)) = some (.l ((billsS O B).map rowT)) := by
      cases O with
      | nil =>
        have e1 : ((allA [] (S0 B)).map fun s => s.2.2) = [[]] := rfl
        have e2 : billsS [] B = [[]] := by unfold billsS; rw [e1, List.mergeSort_singleton]
        rw [e1, e2]
        exact sortE_nil
      | cons o O =>
        refine sortE_rows (by rw [List.length_map]; omega) fun r hr => ?_
        obtain ⟨s, hs, rfl⟩ := List.mem_map.mp hr
        have := (allA_in hOk (S0_in hB) s hs).l
        intro z
        rw [z, List.length_cons, List.length_nil] at this
        omega
    simp only [EV, h]
end
end Dl
set_option Elab.async false
set_option linter.all false
set_option maxRecDepth 100000
namespace Dl
open PySem PySem.Spec PyProof.Rows L2
/-! ### dicts with rows for keys -/
theorem keys_row {x : Int} {r : List Int} : keysOfD (rowT (x :: r)) = some ((x :: r).map (.inl : Int → Key)) := by
  have h : ∀ r : List Int, keysOf (r.map PyData.int) = some (r.map (.inl : Int → Key)) := fun r => by
    induction r with
    | nil => rfl
    | cons y r ih => rw [List.map_cons, List.map_cons, keysOf, ih]; rfl
  show (keysOf (r.map PyData.int)).map (.inl x :: ·) = _
  rw [h]
  rfl
theorem keys_ne {k : List Int} (h : k ≠ []) : keysOfD (rowT k) = some (k.map (.inl : Int → Key)) := by
  cases k with
  | nil => exact absurd rfl h
  | cons x r => exact keys_row
theorem inl_inj : ∀ {a b : List Int}, a.map (.inl : Int → Key) = b.map (.inl : Int → Key) → a = b
  | [], [], _ => rfl
  | [], _ :: _, h => by simp at h
  | _ :: _, [], h => by simp at h
  | x :: a, y :: b, h => by
    rw [List.map_cons, List.map_cons, List.cons.injEq] at h
    rw [inl_inj h.2, Sum.inl.inj h.1]
theorem key_dec {a k : List Int} (ha : a ≠ []) : (keysOfD (rowT a) = some (k.map (.inl : Int → Key))) ↔ a = k := by
  rw [keys_ne ha]
  exact ⟨fun z => inl_inj (Option.some.inj z), fun z => by rw [z]⟩
section
variable {ν : Type} {vd : ν → PyData}
theorem dfind_row (k : List Int) : ∀ T : List (List Int × ν), (∀ p ∈ T, p.1 ≠ []) → dfind keysOfD (enc rowT vd T) (k.map (.inl : Int → Key)) = (alook T k).map vd
  | [], _ => rfl
  | p :: T, h => by
    have ih := dfind_row k T fun q hq => h q (List.mem_cons_of_mem _ hq)
    unfold dfind alook enc at ih ⊢
    rw [List.map_cons, List.find?_cons, List.find?_cons]
    by_cases e : p.1 = k
    · have e2 : decide (keysOfD (rowT p.1) = some (k.map (.inl : Int → Key))) = true := decide_eq_true ((key_dec (h p (by simp))).mpr e)
      rw [e2, decide_eq_true e]
      rfl
    · have e2 : decide (keysOfD (rowT p.1) = some (k.map (.inl : Int → Key))) = false := decide_eq_false fun z => e ((key_dec (h p (by simp))).mp z)
      rw [e2, decide_eq_false e]
      exact ih
theorem dset_row (k : List Int) (v : ν) (T : List (List Int × ν)) (h : ∀ p ∈ T, p.1 ≠ []) : dset keysOfD (enc rowT vd T) (k.map (.inl : Int → Key)) (rowT k) (vd v) = enc rowT vd (aset T k v) := by
  unfold dset aset enc
  have e1 : ((T.map fun p => (rowT p.1, vd p.2)).any fun p => decide (keysOfD p.1 = some (k.map (.inl : Int → Key)))) = T.any fun p => decide (p.1 = k) := by
    rw [List.any_map]
    refine Bool.eq_iff_iff.mpr ?_
    rw [List.any_eq_true, List.any_eq_true]
    constructor
    · rintro ⟨p, hp, hq⟩
      exact ⟨p, hp, decide_eq_true ((key_dec (h p hp)).mp (of_decide_eq_true hq))⟩
    · rintro ⟨p, hp, hq⟩
      exact ⟨p, hp, decide_eq_true ((key_dec (h p hp)).mpr (of_decide_eq_true hq))⟩
  rw [e1]
  split
  · rw [List.map_map, List.map_map]
    refine List.map_congr_left fun p hm => ?_
    by_cases hp : p.1 = k
    · have := (key_dec (k := k) (h p hm)).mpr hp
      simp [hp] at this ⊢
      simp [this]
    · have : ¬ keysOfD (rowT p.1) = some (k.map (.inl : Int → Key)) := fun z => hp ((key_dec (h p hm)).mp z)
      simp [hp, this]
  · simp
theorem get_encT (T : List (List Int × ν)) (h : ∀ p ∈ T, p.1 ≠ []) {k : List Int} (hk : k ≠ []) : dgetD true (enc rowT vd T) (rowT k) = some ((alook T k).map vd) := by
  show (keysOfD (rowT k)).map (dfind keysOfD (enc rowT vd T)) = _
  rw [keys_ne hk, Option.map_some, dfind_row k T h]
theorem put_encT (T : List (List Int × ν)) (h : ∀ p ∈ T, p.1 ≠ []) {k : List Int} (hk : k ≠ []) (v : ν) : dputD true (enc rowT vd T) (rowT k) (vd v) = some (enc rowT vd (aset T k v)) := by
  show (keysOfD (rowT k)).map (fun κ => dset keysOfD (enc rowT vd T) κ (rowT k) (vd v)) = _
  rw [keys_ne hk, Option.map_some, dset_row k v T h]
theorem dAt_qT {i : Nat} {m : Ms} {T : List (List Int × ν)} (h : m[i]? = some (some (.q (.dict (enc rowT vd T))))) (ne : T ≠ []) : dAt i m = some (true, enc rowT vd T) := by
  unfold dAt
  rw [h]
  cases T with
  | nil => exact absurd rfl ne
  | cons p T => rfl
end
/-! ### the law's own cheapest -/
section
variable {O : List Of} {P B : List Int} {n : Nat}
theorem paid_allG {n : Nat} : ∀ (O pre : List Of) (S : List Sb), (∀ o ∈ O, OfOk n o) → (∀ s ∈ S, Sin n pre.length s ∧ paidI pre s.2.2 = s.2.1) → ∀ s ∈ allA O S, paidI (pre ++ O) s.2.2 = s.2.1
  | [], pre, S, _, h, s, hs => by rw [List.append_nil]; exact (h s hs).2
  | o :: O, pre, S, hO, h, s, hs => by
    have := paid_allG O (pre ++ [o]) (S.flatMap (stepA o)) (fun o' h' => hO o' (List.mem_cons_of_mem _ h')) (fun x hx => by
      obtain ⟨t, ht, hx⟩ := List.mem_flatMap.mp hx
      refine ⟨by rw [List.length_append]; exact step_in (h t ht).1 (hO o (by simp)) hx, ?_⟩
      unfold stepA at hx
      obtain ⟨k, hk, rfl⟩ := List.mem_map.mp hx
      rw [paid_snoc (h t ht).1.l, (h t ht).2]) s hs
    rw [List.append_assoc] at this
    exact this
theorem paid_all (hB : Bk n B) (hO : ∀ o ∈ O, OfOk n o) : ∀ s ∈ allA O (S0 B), paidI O s.2.2 = s.2.1 := paid_allG O [] (S0 B) hO fun s hs => ⟨S0_in hB s hs, by rw [List.mem_singleton.mp hs]; rfl⟩
def billF (P : List Int) (O : List Of) (B r : List Int) : Pr := (dotZ P (lf O r B) + paidI O r, r)
theorem bill_of (hB : Bk n B) (hO : ∀ o ∈ O, OfOk n o) {s : Sb} (hs : s ∈ allA O (S0 B)) : billF P O B s.2.2 = (s.2.1 + dotZ P s.1, s.2.2) := by
  unfold billF
  rw [(lf_all hB O hO s hs).f, paid_all hB hO s hs, Int.add_comm]
theorem law_due (hB : Bk n B) (hO : ∀ o ∈ O, OfOk n o) : minF ((billsS O B).map (billF P O B)) = dueP P O B := by
  have mem : ∀ v, v ∈ (billsS O B).map (billF P O B) ↔ v ∈ allF P O B := fun v => by
    unfold allF
    rw [List.mem_map, List.mem_map]
    constructor
    · rintro ⟨r, hr, rfl⟩
      obtain ⟨s, hs, rfl⟩ := mem_bills.mp hr
      exact ⟨s, hs, (bill_of hB hO hs).symm⟩
    · rintro ⟨s, hs, rfl⟩
      exact ⟨s.2.2, mem_bills.mpr ⟨s, hs, rfl⟩, bill_of hB hO hs⟩
  have h1 := minF_least (allF_ne (P := P) hO hB)
  have ne : (billsS O B).map (billF P O B) ≠ [] := fun z => by
    have := (mem _).mpr h1.mem
    rw [z] at this; cases this
  have h2 := minF_least ne
  exact h2.uniq h1 ((mem _).mp h2.mem) ((mem _).mpr h1.mem)
theorem minD1_F {L : List Pr} (h : L ≠ []) : minD1 (.list (L.map prT)) = some (.d (prT (minF L))) := by
  cases L with
  | nil => exact absurd rfl h
  | cons p L => exact minD1_prs p L rfl
theorem bill_facts (hB : Bk n B) (hO : ∀ o ∈ O, OfOk n o) {r : List Int} (hr : r ∈ billsS O B) : r.length = O.length ∧ (∀ x ∈ r, 0 ≤ x ∧ x ≤ 10) ∧ Bk n (lf O r B) := by
  obtain ⟨s, hs, rfl⟩ := mem_bills.mp hr
  have := lf_all hB O hO s hs
  exact ⟨this.i.l, this.i.b, by rw [this.f]; exact this.i.k⟩
theorem m_law_cheapest_ok (hn : 1 ≤ n) (hn2 : n ≤ 100) (hP : ∀ p ∈ P, 0 ≤ p ∧ p ≤ 1000000) (hPn : P.length = n) (hB : Bk n B) (hO : ∀ o ∈ O, OfOk n o) (hl : O.length ≤ 6) :
    m__law_cheapest [some (.d (rowT P)), some (.d (ofsT O)), some (.d (rowT B))] = .ok (prT (dueP P O B)) := by
  unfold m__law_cheapest
  refine fn_rt (M := [some (.d (rowT P)), some (.d (ofsT O)), some (.d (rowT B)), none]) rfl (ret_rt ?_)
  have h : lc__law_cheapest_0 [some (.d (rowT P)), some (.d (ofsT O)), some (.d (rowT B)), none] = .ok (.l (((billsS O B).map (billF P O B)).map prT)) := by
    unfold lc__law_cheapest_0
    rw [List.map_map]
    refine lc_map (billsS O B) rowT _ (by rfl) ?_ fun r hr => ⟨[some (.d (rowT P)), some (.d (ofsT O)), some (.d (rowT B)), some (.d (rowT r))], by rfl, ?_⟩
    · simp only [EV, List.map_cons, List.map_nil, m_law_bills_ok hn hn2 hB hO hl]
    · obtain ⟨h1, h2, h3⟩ := bill_facts hB hO hr
      have q := m_law_price_ok (P := P) (O := O) (B := B) (r := r) hP (by rw [hPn, hB.l]) h1 (fun o h => by rw [(hO o h).l, hB.l]) (by omega) (by rw [hB.l]; exact hn2) (fun x hx => by have := h2 x hx; omega)
      simp only [EV, List.map_cons, List.map_nil, q]
      rfl
  have ne : (billsS O B).map (billF P O B) ≠ [] := fun z => by
    obtain ⟨s, hs⟩ := List.exists_mem_of_ne_nil _ (allA_ne hO hB)
    have : billF P O B s.2.2 ∈ (billsS O B).map (billF P O B) := List.mem_map.mpr ⟨_, mem_bills.mpr ⟨s, hs, rfl⟩, rfl⟩
    rw [z] at this; cases this
  simp only [EV, h, minD1_F ne, law_due hB hO]
end
end Dl
set_option Elab.async false
set_option linter.all false
set_option maxRecDepth 100000
namespace Dl
open PySem PySem.Spec PyProof.Rows L2
def putsT (T xs : List Sb) : List Sb := xs.foldl (fun T x => tput T x.1 x.2) T
theorem puts_tab : ∀ (xs : List Sb) {T S : List Sb}, Tab T S → Tab (putsT T xs) (S ++ xs)
  | [], T, S, h => by rw [List.append_nil]; exact h
  | x :: xs, T, S, h => by
    have := puts_tab xs (h.put (k := x.1) (v := x.2))
    rw [List.append_assoc] at this
    exact this
theorem puts_len : ∀ (xs : List Sb) {T : List Sb}, (putsT T xs).length ≤ T.length + xs.length
  | [], T => by simp [putsT]
  | x :: xs, T => by
    have h1 := puts_len xs (T := tput T x.1 x.2)
    have h2 : (tput T x.1 x.2).length ≤ T.length + 1 := aset_len
    show (putsT (tput T x.1 x.2) xs).length ≤ _
    rw [List.length_cons]
    omega
theorem puts_cons {T xs : List Sb} {x : Sb} : putsT T (x :: xs) = putsT (tput T x.1 x.2) xs := rfl
theorem puts_app {T xs ys : List Sb} : putsT T (xs ++ ys) = putsT (putsT T xs) ys := by unfold putsT; rw [List.foldl_append]
def itemA (o : Of) (s : Sb) (k : Nat) : Sb := (subK s.1 k o.1, (s.2.1 + (k : Int) * o.2, s.2.2 ++ [(k : Int)]))
def itemsF (u k : Nat) (o : Of) (s : Sb) : List Sb := (List.range' k (u - k)).map (itemA o s)
theorem itemsF_0 {u k : Nat} {o : Of} {s : Sb} (h : u ≤ k) : itemsF u k o s = [] := by
  unfold itemsF; rw [show u - k = 0 by omega]; rfl
theorem itemsF_s {u k : Nat} {o : Of} {s : Sb} (h : k < u) : itemsF u k o s = itemA o s k :: itemsF u (k + 1) o s := by
  unfold itemsF
  rw [show u - k = (u - (k + 1)) + 1 by omega, List.range'_succ, List.map_cons]
theorem items_step {o : Of} {s : Sb} : itemsF (upN s.1 o.1) 0 o s = stepA o s := by
  unfold itemsF stepA
  rw [Nat.sub_zero, ← List.range_eq_range']
  rfl
theorem sub_next : ∀ {L c : List Int} {k : Nat}, (((subK L k c).zip c).map fun q => q.1 - q.2) = subK L ((k + 1 : Nat) : Int) c
  | [], _, _ => rfl
  | _ :: _, [], _ => rfl
  | x :: L, y :: c, k => by
    have ih := sub_next (L := L) (c := c) (k := k)
    show (x - k * y - y) :: (((subK L k c).zip c).map fun q => q.1 - q.2) = (x - ((k + 1 : Nat) : Int) * y) :: subK L ((k + 1 : Nat) : Int) c
    rw [ih, Int.natCast_add, Int.add_mul]
    congr 1
    omega
section
variable {O pre : List Of} {o : Of} {P B : List Int} {n : Nat} {s : Sb} {x0 x1 x2 x3 : Option W}
theorem bb0 {k : Nat} : lc__best_0 [x0, none, none, x3, some (.d (rowT o.1)), some (.d (.int o.2)), x1, some (.d (rowT (subK s.1 k o.1))), some (.d (.int (k : Nat))), some (.d (.int s.2.1)), some (.d (rowT s.2.2)), x2, none, none] = .ok (.l ((subK s.1 ((k + 1 : Nat) : Int) o.1).map PyData.int)) := by
  unfold lc__best_0
  rw [← sub_next, List.map_map]
  refine lc_map ((subK s.1 k o.1).zip o.1) (fun q => PyData.tuple [.int q.1, .int q.2]) _ (by rfl) ?_ fun z hz => ⟨[x0, none, none, x3, some (.d (rowT o.1)), some (.d (.int o.2)), x1, some (.d (rowT (subK s.1 k o.1))), some (.d (.int (k : Nat))), some (.d (.int s.2.1)), some (.d (rowT s.2.2)), x2, some (.d (.int z.1)), some (.d (.int z.2))], by rfl, ?_⟩
  · simp only [EV]
    rw [zipG_s (xs := (subK s.1 k o.1).map PyData.int) (ys := o.1.map PyData.int) rfl rfl, zip_ints]
  · simp only [EV]
    rfl
def bS (x0 x3 : Option W) (o : Of) (T : List Sb) (s : Sb) (k : Nat) (x11 : Option W) : Ms := [x0, none, none, x3, some (.d (rowT o.1)), some (.d (.int o.2)), some (.m true (enc rowT prT T)), some (.d (rowT (subK s.1 k o.1))), some (.d (.int (k : Nat))), some (.d (.int s.2.1)), some (.d (rowT s.2.2)), x11, none, none]
theorem bb1 {k : Nat} {T : List Sb} (hT : ∀ p ∈ T, p.1 ≠ []) (hl : T.length < 10000000) (hs : subK s.1 k o.1 ≠ []) (hr : s.2.2.length ≤ 1000) (hk : k ≤ 1000) :
    fb__best_1 (bS x0 x3 o T s k none) = .nx (bS x0 x3 o (tput T (itemA o s k).1 (itemA o s k).2) s (k + 1) none) := by
  unfold fb__best_1 bS
  refine cut_go (m' := [x0, none, none, x3, some (.d (rowT o.1)), some (.d (.int o.2)), some (.m true (enc rowT prT (tput T (itemA o s k).1 (itemA o s k).2))), some (.d (rowT (subK s.1 ((k + 1 : Nat) : Int) o.1))), some (.d (.int ((k + 1 : Nat) : Int))), some (.d (.int s.2.1)), some (.d (rowT s.2.2)), some (.d (prT (itemA o s k).2)), none, none]) ?_ rfl
  refine seq_go (m' := [x0, none, none, x3, some (.d (rowT o.1)), some (.d (.int o.2)), some (.m true (enc rowT prT T)), some (.d (rowT (subK s.1 k o.1))), some (.d (.int (k : Nat))), some (.d (.int s.2.1)), some (.d (rowT s.2.2)), some (.d (prT (itemA o s k).2)), none, none]) ?_ ?_
  · simp only [EV, mul_l (small_of (show (0 : Int) ≤ (k : Int) by omega) (by omega)), row_add hr]
    rfl
  refine seq_go (m' := [x0, none, none, x3, some (.d (rowT o.1)), some (.d (.int o.2)), some (.m true (enc rowT prT (tput T (itemA o s k).1 (itemA o s k).2))), some (.d (rowT (subK s.1 k o.1))), some (.d (.int (k : Nat))), some (.d (.int s.2.1)), some (.d (rowT s.2.2)), some (.d (prT (itemA o s k).2)), none, none]) ?_ ?_
  · have h1 : eDget2 6 (vVar 7) (vVar 11) [x0, none, none, x3, some (.d (rowT o.1)), some (.d (.int o.2)), some (.m true (enc rowT prT T)), some (.d (rowT (subK s.1 k o.1))), some (.d (.int (k : Nat))), some (.d (.int s.2.1)), some (.d (rowT s.2.2)), some (.d (prT (itemA o s k).2)), none, none] = .ok (prT ((alook T (itemA o s k).1).getD (itemA o s k).2)) := by
      show (match dgetD true (enc rowT prT T) (rowT (subK s.1 k o.1)) with | some oo => Rz.ok (oo.getD (prT (itemA o s k).2)) | none => .st) = _
      rw [get_encT T hT hs]
      show Rz.ok (((alook T (itemA o s k).1).map prT).getD (prT (itemA o s k).2)) = _
      cases alook T (itemA o s k).1 <;> rfl
    have h2 : (toV (eCall (g12 minD1 minT2) [(eDget2 6 (vVar 7) (vVar 11)), (rVar 11)])) [x0, none, none, x3, some (.d (rowT o.1)), some (.d (.int o.2)), some (.m true (enc rowT prT T)), some (.d (rowT (subK s.1 k o.1))), some (.d (.int (k : Nat))), some (.d (.int s.2.1)), some (.d (rowT s.2.2)), some (.d (prT (itemA o s k).2)), none, none] = .ok (prT (if (itemA o s k).2.k < ((alook T (itemA o s k).1).getD (itemA o s k).2).k then (itemA o s k).2 else (alook T (itemA o s k).1).getD (itemA o s k).2)) := by
      simp only [EV, h1, minT2_pr]
    have hl2 : (enc rowT prT T).length < 10000000 := by unfold enc; rw [List.length_map]; exact hl
    exact dput_go h2 rfl rfl (put_encT T hT (k := subK s.1 k o.1) hs _) hl2
  refine seq_go (m' := [x0, none, none, x3, some (.d (rowT o.1)), some (.d (.int o.2)), some (.m true (enc rowT prT (tput T (itemA o s k).1 (itemA o s k).2))), some (.d (rowT (subK s.1 ((k + 1 : Nat) : Int) o.1))), some (.d (.int (k : Nat))), some (.d (.int s.2.1)), some (.d (rowT s.2.2)), some (.d (prT (itemA o s k).2)), none, none]) ?_ ?_
  · simp only [EV, bb0]
    rfl
  · simp only [EV]
    rfl
noncomputable abbrev tMin : Ms → Rz Bool := (t2 geD (toV (eCall (g12 minD1 minT2) [(rVar 7)])) (vC (.int 0)))
theorem minD1_T {xs : List Int} (h : xs ≠ []) : minD1 (rowT xs) = some (.d (.int (minL xs))) := by
  cases xs with
  | nil => exact absurd rfl h
  | cons x xs =>
    unfold minD1
    rw [show itemsD (rowT (x :: xs)) = some ((x :: xs).map PyData.int) from rfl, Option.bind_some, List.map_cons]
    dsimp only
    have h : alikeB (PyData.int x :: xs.map PyData.int) = true := by
      unfold alikeB
      rw [show PyData.int x :: xs.map PyData.int = (x :: xs).map PyData.int from rfl, intsOf_map]
    rw [if_pos h, PySem.W.minD_ints]
    rfl
theorem tMin_ok {k : Nat} {T : List Sb} {x11 : Option W} (hs : subK s.1 k o.1 ≠ []) : tMin (bS x0 x3 o T s k x11) = .ok (nonN (subK s.1 k o.1)) := by
  rw [← min_non hs]
  unfold bS
  simp only [EV, minD1_T hs]
end
end Dl
set_option Elab.async false
set_option linter.all false
set_option maxRecDepth 100000
namespace Dl
open PySem PySem.Spec PyProof.Rows L2
section
variable {O pre : List Of} {o : Of} {P B : List Int} {n : Nat} {s : Sb} {x0 x1 x2 x3 : Option W}
theorem goWhile_t {t : Ms → Rz Bool} {b : Ms → Fl} {f : Nat} {m m2 : Ms} {r : Fl} (h1 : t m = .ok true) (h2 : b m = .nx m2) (h3 : goWhile t b f m2 = r) : goWhile t b (f + 1) m = r := by
  rw [goWhile, h1]
  dsimp only
  rw [h2]
  exact h3
theorem goWhile_f {t : Ms → Rz Bool} {b : Ms → Fl} {f : Nat} {m : Ms} (h1 : t m = .ok false) : goWhile t b (f + 1) m = .nx m := by
  rw [goWhile, h1]
theorem bb_while (hs : ∀ k : Nat, subK s.1 k o.1 ≠ []) (hr : s.2.2.length ≤ 1000) {u : Nat} (U : UpOk s.1 o.1 u) (f : Nat) : ∀ (k : Nat) (T : List Sb), (∀ p ∈ T, p.1 ≠ []) → u - k < f → k ≤ u → T.length + (u - k) ≤ 9000000 →
    goWhile tMin fb__best_1 f (bS x0 x3 o T s k none) = .nx (bS x0 x3 o (putsT T (itemsF u k o s)) s u none) := by
  have ule := U.le
  induction f with
  | zero => intro k T _ h; omega
  | succ f ih =>
    intro k T hT h hk hl
    have ht := tMin_ok (x0 := x0) (x3 := x3) (T := T) (x11 := none) (hs k)
    rcases Nat.lt_or_ge k u with h1 | h1
    · rw [U.yes k h1] at ht
      have hlen : (tput T (itemA o s k).1 (itemA o s k).2).length ≤ T.length + 1 := aset_len
      have hne : ∀ p ∈ tput T (itemA o s k).1 (itemA o s k).2, p.1 ≠ [] := fun p hp => by
        rcases aset_mem hp with h2 | ⟨hp, _⟩
        · rw [h2]; exact hs k
        · exact hT p hp
      have hb := bb1 (x0 := x0) (x3 := x3) (o := o) (s := s) (k := k) hT (by omega) (hs k) hr (by omega)
      rw [itemsF_s h1, puts_cons]
      exact goWhile_t ht hb (ih (k + 1) _ hne (by omega) (by omega) (by omega))
    · have e : k = u := by omega
      subst e
      rw [U.no] at ht
      rw [itemsF_0 (Nat.le_refl _), show putsT T [] = T from rfl]
      exact goWhile_f ht
end
end Dl
set_option Elab.async false
set_option linter.all false
set_option maxRecDepth 100000
namespace Dl
open PySem PySem.Spec PyProof.Rows L2
/-- the table after some offers -/
structure BeT (n : Nat) (pre : List Of) (B : List Int) (T : List Sb) : Prop where
  tab : Tab T (allA pre (S0 B))
  len : T.length ≤ 10 ^ pre.length
section
variable {O pre : List Of} {o : Of} {P B : List Int} {n : Nat} {T : List Sb}
theorem step_len {l : List Sb} {j : Nat} (h : ∀ s ∈ l, Sin n j s) (ho : OfOk n o) : (l.flatMap (stepA o)).length ≤ 10 * l.length := flat_le fun s hs => by
  have := (up_ok (h s hs).k ho).le
  unfold stepA
  rw [List.length_map, List.length_range]
  exact this
theorem BeT.row (h : BeT n pre B T) (hB : Bk n B) (hO : ∀ o ∈ pre, OfOk n o) {s : Sb} (hs : s ∈ T) : Sin n pre.length s := (lf_all hB pre hO s (h.tab.mem s hs)).i
theorem BeT.step (h : BeT n pre B T) (hB : Bk n B) (hO : ∀ o ∈ pre, OfOk n o) (ho : OfOk n o) : BeT n (pre ++ [o]) B (putsT [] (T.flatMap (stepA o))) := by
  have h1 := puts_tab (T.flatMap (stepA o)) (T := []) (S := []) .nil
  rw [List.nil_append] at h1
  refine ⟨?_, ?_⟩
  · have e : allA (pre ++ [o]) (S0 B) = (allA pre (S0 B)).flatMap (stepA o) := by rw [allA_app]; rfl
    rw [e]
    refine h1.more (fun p hp => ?_) fun p hp => ?_
    · obtain ⟨s, hs, hp⟩ := List.mem_flatMap.mp hp
      exact List.mem_flatMap.mpr ⟨s, h.tab.mem s hs, hp⟩
    · obtain ⟨s, hs, hp⟩ := List.mem_flatMap.mp hp
      obtain ⟨t, ht, e1, e2⟩ := h.tab.le s hs
      have ls := (lf_all hB pre hO s hs).i.l
      have lt := (h.row hB hO ht).l
      unfold stepA at hp
      obtain ⟨k, hk, rfl⟩ := List.mem_map.mp hp
      refine ⟨itemA o t k, List.mem_flatMap.mpr ⟨t, ht, List.mem_map.mpr ⟨k, by rw [e1]; exact hk, rfl⟩⟩, ?_, ?_⟩
      · show subK t.1 k o.1 = subK s.1 k o.1
        rw [e1]
      · exact pr_snoc (p := s.2) (q := t.2) (c := (k : Int)) (d := (k : Int) * o.2) (by rw [ls, lt]) e2
  · have h2 := puts_len (T.flatMap (stepA o)) (T := [])
    have h3 := step_len (l := T) (o := o) (fun s hs => h.row hB hO hs) ho
    have h4 := h.len
    rw [List.length_append, List.length_singleton, Nat.pow_succ]
    rw [List.length_nil] at h2
    omega
theorem BeT.pow (h : BeT n pre B T) (hl : pre.length ≤ 6) : T.length ≤ 1000000 := Nat.le_trans h.len (Nat.le_trans (Nat.pow_le_pow_right (by decide) hl) (by decide))
def bQ (x0 : Option W) (T0 : List Sb) (o : Of) (T : List Sb) (x7 : Option W) : Ms := [x0, none, none, some (.q (.dict (enc rowT prT T0))), some (.d (rowT o.1)), some (.d (.int o.2)), some (.m true (enc rowT prT T)), x7, none, none, none, none, none, none]
theorem bb2 {x0 : Option W} {T0 : List Sb} {s : Sb} {j : Nat} (nd : (T0.map (·.1)).Nodup) (hk0 : ∀ p ∈ T0, p.1 ≠ []) (hs : s ∈ T0) (hS : Sin n j s) (hj : j ≤ 100) (hn : 1 ≤ n) (ho : OfOk n o) (hT : ∀ p ∈ T, p.1 ≠ []) (hl : T.length ≤ 8000000) :
    fb__best_2 (bQ x0 T0 o T (some (.d (rowT s.1)))) = .nx (bQ x0 T0 o (putsT T (stepA o s)) none) := by
  have hlen : s.1.length = o.1.length := by rw [hS.k.l, ho.l]
  have ne : ∀ k : Nat, subK s.1 k o.1 ≠ [] := fun k z => by
    have := subK_len (k := (k : Int)) hlen
    rw [z, hS.k.l, List.length_nil] at this
    omega
  have e0 : subK s.1 ((0 : Nat) : Int) o.1 = s.1 := subK_0 hlen
  have ne0 : s.1 ≠ [] := hk0 s hs
  have neT : T0 ≠ [] := fun z => by rw [z] at hs; cases hs
  have U := up_ok hS.k ho
  have ule := U.le
  have w := bb_while (x0 := x0) (x3 := some (.q (.dict (enc rowT prT T0)))) (s := s) (o := o) ne (by rw [hS.l]; omega) U 1000000 0 T hT (by omega) (by omega) (by omega)
  rw [items_step] at w
  unfold bS at w
  rw [e0] at w
  have hd : eDget 3 (vVar 7) (bQ x0 T0 o T (some (.d (rowT s.1)))) = .ok (prT s.2) := by
    rw [eDget_s, dAt_qT (T := T0) rfl neT]
    show (match dgetD true (enc rowT prT T0) (rowT s.1) with | some (some x) => Rz.ok x | _ => .st) = _
    rw [get_encT T0 hk0 ne0, alook_of nd hs]
    rfl
  unfold fb__best_2
  refine cut_go (m' := bQ x0 T0 o (putsT T (stepA o s)) none) ?_ rfl
  refine seq_go (m' := [x0, none, none, some (.q (.dict (enc rowT prT T0))), some (.d (rowT o.1)), some (.d (.int o.2)), some (.m true (enc rowT prT T)), some (.d (rowT s.1)), none, some (.d (.int s.2.1)), some (.d (rowT s.2.2)), none, none, none]) ?_ ?_
  · rw [sAsg_s, hd]
    rfl
  refine seq_go (m' := [x0, none, none, some (.q (.dict (enc rowT prT T0))), some (.d (rowT o.1)), some (.d (.int o.2)), some (.m true (enc rowT prT T)), some (.d (rowT s.1)), some (.d (.int 0)), some (.d (.int s.2.1)), some (.d (rowT s.2.2)), none, none, none]) (by rfl) ?_
  exact cut_go (pre_go rfl w) rfl
theorem bb3 {x0 x1 x2 : Option W} {w : W} (h : BeT n pre B T) (hB : Bk n B) (hO : ∀ o ∈ pre, OfOk n o) (ho : OfOk n o) (hn : 1 ≤ n) (hl : pre.length ≤ 5) (hw : w = .m true (enc rowT prT T) ∨ w = .q (.dict (enc rowT prT T))) :
    fb__best_3 [x0, x1, x2, some w, some (.d (rowT o.1)), some (.d (.int o.2)), none, none, none, none, none, none, none, none] =
    .nx [x0, none, none, some (.q (.dict (enc rowT prT (putsT [] (T.flatMap (stepA o)))))), none, none, none, none, none, none, none, none, none, none] := by
  have hrow : ∀ s ∈ T, Sin n pre.length s := fun s hs => h.row hB hO hs
  have hlen : T.length ≤ 100000 := Nat.le_trans h.len (Nat.le_trans (Nat.pow_le_pow_right (by decide) hl) (by decide))
  have hk0 : ∀ p ∈ T, p.1 ≠ [] := fun p hp z => by
    have := (hrow p hp).k.l
    rw [z, List.length_nil] at this
    omega
  obtain ⟨m', e, rfl⟩ := for_pre (s := gSet 7) (b := fb__best_2) (fun (p : Sb) => rowT p.1) (fun (l : List Sb) m => m = bQ x0 T o (putsT [] (l.flatMap (stepA o))) none) T (m := bQ x0 T o [] none) rfl rfl fun l s r m hy hm => by
    subst hm
    have hs : s ∈ T := by rw [hy]; simp
    have hl' : ∀ s ∈ l, Sin n pre.length s := fun s hs => hrow s (by rw [hy]; exact List.mem_append_left _ hs)
    have h2 := puts_len (l.flatMap (stepA o)) (T := [])
    have h3 := step_len (l := l) (o := o) hl' ho
    have h4 : l.length ≤ T.length := by rw [hy, List.length_append]; omega
    rw [List.length_nil] at h2
    refine ⟨bQ x0 T o (putsT [] (l.flatMap (stepA o))) (some (.d (rowT s.1))), rfl, _, .inl (bb2 (n := n) (j := pre.length) h.tab.nd hk0 hs (hrow s hs) (by omega) hn ho (fun p hp => ?_) ?_), ?_⟩
    · have t := puts_tab (l.flatMap (stepA o)) (T := []) (S := []) .nil
      rw [List.nil_append] at t
      obtain ⟨q, hq, hp⟩ := List.mem_flatMap.mp (t.mem p hp)
      have := (step_in (hl' q hq) ho hp).k.l
      intro z
      rw [z, List.length_nil] at this
      omega
    · omega
    · rw [List.flatMap_append, List.flatMap_cons, List.flatMap_nil, List.append_nil, puts_app]
  have hlen2 : (enc rowT prT T).length ≤ 10000000 := by
    unfold enc
    rw [List.length_map]
    omega
  unfold fb__best_3
  refine cut_go (m' := [x0, none, none, some (.q (.dict (enc rowT prT (putsT [] (T.flatMap (stepA o)))))), none, none, some (.q (.dict (enc rowT prT (putsT [] (T.flatMap (stepA o)))))), none, none, none, none, none, none, none]) ?_ rfl
  refine seq_go (m' := [x0, x1, x2, some w, some (.d (rowT o.1)), some (.d (.int o.2)), some (.m true []), none, none, none, none, none, none, none]) (by rfl) ?_
  refine seq_go (m' := [x0, none, none, none, none, none, some (.m true (enc rowT prT (putsT [] (T.flatMap (stepA o))))), none, none, none, none, none, none, none]) ?_ (by rfl)
  have hg : giveAt 3 [x0, x1, x2, some w, some (.d (rowT o.1)), some (.d (.int o.2)), some (.m true []), none, none, none, none, none, none, none] = [x0, x1, x2, some (.q (.dict (enc rowT prT T))), some (.d (rowT o.1)), some (.d (.int o.2)), some (.m true []), none, none, none, none, none, none, none] := by
    rcases hw with rfl | rfl <;> rfl
  rw [sGive_s, hg]
  refine cut_go (pre_go (m2 := bQ x0 T o [] none) rfl (for_go ?_ e)) rfl
  have : iKeysD 3 (bQ x0 T o [] none) = .ok ((enc rowT prT T).map fun p => p.1) := iKeys_go rfl hlen2
  rw [this]
  unfold enc
  rw [List.map_map]
  rfl
theorem pr_add {p q : Pr} {d : Int} (h : ¬ p.k < q.k) : ¬ (p.1 + d) :: p.2 < (q.1 + d) :: q.2 := by
  unfold Pr.k at h
  rw [List.cons_lt_cons_iff] at h ⊢
  intro z
  apply h
  rcases z with z | ⟨z, z2⟩
  · left; omega
  · right; exact ⟨by omega, z2⟩
theorem be_due (h : BeT n O B T) (hB : Bk n B) (hO : ∀ o ∈ O, OfOk n o) : minF (T.map fun s => ((s.2.1 + dotZ P s.1, s.2.2) : Pr)) = dueP P O B := by
  have h1 := minF_least (allF_ne (P := P) hO hB)
  have ne : T.map (fun s => ((s.2.1 + dotZ P s.1, s.2.2) : Pr)) ≠ [] := fun z => by
    rw [List.map_eq_nil_iff] at z
    obtain ⟨s, hs⟩ := List.exists_mem_of_ne_nil _ (allA_ne hO hB)
    obtain ⟨t, ht, _⟩ := h.tab.le s hs
    rw [z] at ht; cases ht
  have h2 := minF_least ne
  have h3 : Least (allF P O B) (minF (T.map fun s => ((s.2.1 + dotZ P s.1, s.2.2) : Pr))) := by
    refine ⟨?_, fun q hq => ?_⟩
    · obtain ⟨s, hs, e⟩ := List.mem_map.mp h2.mem
      rw [← e]
      exact List.mem_map.mpr ⟨s, h.tab.mem s hs, rfl⟩
    · obtain ⟨s, hs, rfl⟩ := List.mem_map.mp hq
      obtain ⟨t, ht, e1, e2⟩ := h.tab.le s hs
      have := h2.le (t.2.1 + dotZ P t.1, t.2.2) (List.mem_map.mpr ⟨t, ht, rfl⟩)
      refine le_tr this ?_
      have := pr_add (d := dotZ P s.1) e2
      unfold Pr.k
      rw [e1]
      exact this
  exact h3.uniq h1 h3.mem h1.mem
theorem m_best_ok (hn : 1 ≤ n) (hP : ∀ p ∈ P, 0 ≤ p ∧ p ≤ 1000000) (hB : Bk n B) (hO : ∀ o ∈ O, OfOk n o) (hl : O.length ≤ 6) :
    m__best [some (.d (rowT P)), some (.d (ofsT O)), some (.d (rowT B))] = .ok (prT (dueP P O B)) := by
  have neB : B ≠ [] := fun z => by
    have := hB.l
    rw [z, List.length_nil] at this
    omega
  obtain ⟨m', e, T, w, x1, hw, rfl, hT⟩ := for_pre (s := gTup' 2 (gCons (gSet 4) (gCons (gSet 5) gNil))) (b := fb__best_3) offD (fun (l : List Of) m => ∃ T w x1, (w = .m true (enc rowT prT T) ∨ w = .q (.dict (enc rowT prT T))) ∧ m = [some (.d (rowT P)), x1, none, some w, none, none, none, none, none, none, none, none, none, none] ∧ BeT n l B T)
    (m := [some (.d (rowT P)), some (.d (ofsT O)), none, some (.m true (enc rowT prT (S0 B))), none, none, none, none, none, none, none, none, none, none]) O rfl ⟨_, _, _, .inl rfl, rfl, ⟨⟨by show ((S0 B).map (·.1)).Nodup; simp [S0], fun p hp => hp, fun p hp => ⟨p, hp, rfl, List.lt_irrefl _⟩⟩, Nat.le_refl _⟩⟩ fun l o r m hy ⟨T, w, x1, hw, hm, hT⟩ => by
    subst hm
    have hl' : l.length ≤ 5 := by rw [hy, List.length_append, List.length_cons] at hl; omega
    have hOl : ∀ o ∈ l, OfOk n o := fun o h => hO o (by rw [hy]; exact List.mem_append_left _ h)
    have ho : OfOk n o := hO o (by rw [hy]; simp)
    exact ⟨_, rfl, _, .inl (bb3 hT hB hOl ho hn hl' hw), _, _, _, .inr rfl, rfl, hT.step hB hOl ho⟩
  have hlen := hT.pow hl
  have hrow : ∀ s ∈ T, Sin n O.length s := fun s hs => hT.row hB hO hs
  have hk0 : ∀ p ∈ T, p.1 ≠ [] := fun p hp z => by
    have := (hrow p hp).k.l
    rw [z, List.length_nil] at this
    omega
  have hlen2 : (enc rowT prT T).length ≤ 10000000 := by
    unfold enc
    rw [List.length_map]
    omega
  unfold m__best
  refine fn_rt (M := [some (.d (rowT P)), some (.d (ofsT O)), some (.d (rowT B)), none, none, none, none, none, none, none, none, none, none, none]) rfl ?_
  unfold b__best
  refine seq_go (m' := [some (.d (rowT P)), some (.d (ofsT O)), some (.d (rowT B)), some (.m true (enc rowT prT (S0 B))), none, none, none, none, none, none, none, none, none, none]) ?_ ?_
  · have : eDisp1T (vVar 2) (eTup [(vC (.int 0)), (eTup [])]) [some (.d (rowT P)), some (.d (ofsT O)), some (.d (rowT B)), none, none, none, none, none, none, none, none, none, none, none] = .ok (.m true (enc rowT prT (S0 B))) := by
      show (match keysOfD (rowT B) with | some _ => Rz.ok (W.m true [(rowT B, PyData.tuple [.int 0, .tuple []])]) | none => .st) = _
      rw [keys_ne neB]
      rfl
    rw [sSet_s, this]
    rfl
  refine seq_go (m' := [some (.d (rowT P)), none, none, some w, none, none, none, none, none, none, none, none, none, none]) (cut_go (pre_go rfl (for_go (xs := O.map offD) (by rfl) e)) rfl) ?_
  have hg : giveAt 3 [some (.d (rowT P)), none, none, some w, none, none, none, none, none, none, none, none, none, none] = [some (.d (rowT P)), none, none, some (.q (.dict (enc rowT prT T))), none, none, none, none, none, none, none, none, none, none] := by
    rcases hw with rfl | rfl <;> rfl
  rw [sGive_s, hg]
  refine ret_rt ?_
  have h : lc__best_4 [some (.d (rowT P)), none, none, some (.q (.dict (enc rowT prT T))), none, none, none, none, none, none, none, none, none, none] = .ok (.l ((T.map fun s => ((s.2.1 + dotZ P s.1, s.2.2) : Pr)).map prT)) := by
    unfold lc__best_4
    rw [List.map_map]
    refine lc_map T (fun s => rowT s.1) _ (by rfl) ?_ fun s hs => ⟨[some (.d (rowT P)), none, none, some (.q (.dict (enc rowT prT T))), none, none, none, some (.d (rowT s.1)), none, none, none, none, none, none], by rfl, ?_⟩
    · have : iKeysD 3 [some (.d (rowT P)), none, none, some (.q (.dict (enc rowT prT T))), none, none, none, none, none, none, none, none, none, none] = .ok ((enc rowT prT T).map fun p => p.1) := iKeys_go rfl hlen2
      rw [this]
      unfold enc
      rw [List.map_map]
      rfl
    · have hd : eDget 3 (vVar 7) [some (.d (rowT P)), none, none, some (.q (.dict (enc rowT prT T))), none, none, none, some (.d (rowT s.1)), none, none, none, none, none, none] = .ok (prT s.2) := by
        rw [eDget_s, dAt_qT (T := T) rfl (fun z => by rw [z] at hs; cases hs)]
        show (match dgetD true (enc rowT prT T) (rowT s.1) with | some (some x) => Rz.ok x | _ => .st) = _
        rw [get_encT T hk0 (hk0 s hs), alook_of hT.tab.nd hs]
        rfl
      have q := m_plain_ok (P := P) (L := s.1) (T := true) hP
      have q : m__plain [some (.d (rowT P)), some (.d (rowT s.1))] = .ok (.int (dotZ P s.1)) := q
      simp only [EV, hd, List.map_cons, List.map_nil, q]
      rfl
  have ne : T.map (fun s => ((s.2.1 + dotZ P s.1, s.2.2) : Pr)) ≠ [] := fun z => by
    rw [List.map_eq_nil_iff] at z
    obtain ⟨s, hs⟩ := List.exists_mem_of_ne_nil _ (allA_ne hO hB)
    obtain ⟨t, ht, _⟩ := hT.tab.le s hs
    rw [z] at ht; cases ht
  simp only [EV, h, minD1_F ne, be_due hT hB hO]
end
end Dl
set_option Elab.async false
set_option linter.all false
set_option maxRecDepth 100000
namespace Dl
open PySem PySem.Spec PyProof.Rows L2
structure PsOk (P : List Int) : Prop where
  l1 : 1 ≤ P.length
  l2 : P.length ≤ 6
  b : ∀ p ∈ P, 1 ≤ p ∧ p ≤ 10000
section
variable {O : List Of} {o : Of} {P B L r : List Int}
theorem m_check_prices_ok (h : PsOk P) : m__check_prices [some (.d (rowT P))] = .ok .none := by
  have h0 : lc__check_prices_0 [some (.d (rowT P)), none] = .ok (.l ((P.map fun _ => true).map PyData.bool)) := by
    rw [← all_num h.b]
    unfold lc__check_prices_0
    refine lc_map (P.map PyData.int) id _ (by rfl) (by rw [List.map_id]; rfl) fun z hz => ⟨[some (.d (rowT P)), some (.d z)], by rfl, ?_⟩
    simp only [EV, List.map_cons, List.map_nil, m_is_whole_ok]
  have hl1 := h.l1
  have hl2 := h.l2
  unfold m__check_prices
  refine fn_nx (M := [some (.d (rowT P)), none]) (m' := [some (.d (rowT P)), none]) rfl ?_
  unfold b__check_prices
  refine seq_go (m' := [some (.d (rowT P)), none]) (ifF_go ?_ rfl) (ifF_go ?_ rfl)
  · have e : toV (eCall (g1 lenD) [rVar 0]) [some (.d (rowT P)), none] = .ok (.int P.length) := by simp only [EV, row_len]
    have q1 : ¬ ((P.length : Int) < 1) := by omega
    have q2 : ¬ ((6 : Int) < P.length) := by omega
    rw [or_f (by rfl), tNot_s, t3_s, e]
    simp [q1, q2]
  · have r1 : (tV' (toV (eCall (g1 allD) [(toV lc__check_prices_0)]))) [some (.d (rowT P)), none] = .ok true := by
      simp only [EV, h0, allD_true]
    rw [tNot_s, r1]
    rfl
theorem m_are_counts_ok (h : Bk P.length L) : m__are_counts [some (.d (rowT P)), some (.d (rowT L))] = .ok (.bool true) := by
  have h0 : lc__are_counts_0 [some (.d (rowT P)), some (.d (rowT L)), none] = .ok (.l ((L.map fun _ => true).map PyData.bool)) := by
    rw [← all_num h.b]
    unfold lc__are_counts_0
    refine lc_map (L.map PyData.int) id _ (by rfl) (by rw [List.map_id]; rfl) fun z hz => ⟨[some (.d (rowT P)), some (.d (rowT L)), some (.d z)], by rfl, ?_⟩
    simp only [EV, List.map_cons, List.map_nil, m_is_whole_ok]
  unfold m__are_counts
  refine fn_rt (M := [some (.d (rowT P)), some (.d (rowT L)), none]) rfl ?_
  unfold b__are_counts
  refine seq_go (m' := [some (.d (rowT P)), some (.d (rowT L)), none]) (ifF_go ?_ rfl) (ret_rt ?_)
  · simp only [EV, row_len, h.l]
    simp [rowT]
  · simp only [EV, h0, allD_true]
theorem m_check_basket_ok (h : Bk P.length B) : m__check_basket [some (.d (rowT P)), some (.d (rowT B))] = .ok .none := by
  unfold m__check_basket
  refine fn_nx (M := [some (.d (rowT P)), some (.d (rowT B))]) (m' := [some (.d (rowT P)), some (.d (rowT B))]) rfl ?_
  unfold b__check_basket
  refine ifF_nil ?_
  simp only [EV, List.map_cons, List.map_nil, m_are_counts_ok h, Rz.map_ok]
  rfl
theorem m_plain_price_ok (hP : PsOk P) (h : Bk P.length B) : m_plain_price [some (.d (rowT P)), some (.d (rowT B))] = .ok (.int (dotZ P B)) := by
  have q := m_plain_ok (P := P) (L := B) (T := true) fun p hp => by have := hP.b p hp; omega
  have q : m__plain [some (.d (rowT P)), some (.d (rowT B))] = .ok (.int (dotZ P B)) := q
  unfold m_plain_price
  refine fn_rt (M := [some (.d (rowT P)), some (.d (rowT B))]) rfl ?_
  unfold b_plain_price
  exact seq_go (expr_nx (m_check_prices_ok hP)) (seq_go (expr_nx (m_check_basket_ok h)) (ret_rt q))
theorem m_is_offer_ok (h : OfOk P.length o) : m__is_offer [some (.d (rowT P)), some (.d (offD o))] = .ok (.bool true) := by
  have c := m_are_counts_ok (P := P) (L := o.1) ⟨h.l, h.b⟩
  have hs := h.s
  have hp := h.p
  unfold m__is_offer
  refine fn_rt (M := [some (.d (rowT P)), some (.d (offD o))]) rfl ?_
  unfold b__is_offer
  refine seq_go (m' := [some (.d (rowT P)), some (.d (offD o))]) (ifF_go ?_ rfl) (ret_rt ?_)
  · have r1 : (tNot' (tV' (vFn m__are_counts [(vVar 0), (toV (e2 ixD (rVar 1) (vC (.int 0))))]))) [some (.d (rowT P)), some (.d (offD o))] = .ok false := by
      simp only [EV, off_0, List.map_cons, List.map_nil, c, Rz.map_ok]
      rfl
    have r2 : (t2 eqD (toV (eCall (g1 sumD) [(toV (e2 ixD (rVar 1) (vC (.int 0))))])) (vC (.int 0))) [some (.d (rowT P)), some (.d (offD o))] = .ok false := by
      simp only [EV, off_0, row_sum]
      have : (o.1.sum == 0) = false := by rw [beq_eq_false_iff_ne]; omega
      rw [this]
    rw [or_f (by rfl), or_f (by rfl), or_f r1, r2]
  · simp only [EV, off_1, List.map_cons, List.map_nil, m_is_whole_ok, numB_of hp.1 hp.2]
theorem m_check_ok (hP : PsOk P) (hO : ∀ o ∈ O, OfOk P.length o) (hl : O.length ≤ 6) (h : Bk P.length B) : m__check [some (.d (rowT P)), some (.d (ofsT O)), some (.d (rowT B))] = .ok .none := by
  have h0 : lc__check_0 [some (.d (rowT P)), some (.d (ofsT O)), some (.d (rowT B)), none] = .ok (.l ((O.map fun _ => true).map PyData.bool)) := by
    unfold lc__check_0
    rw [List.map_map]
    refine lc_map O offD _ (by rfl) (by rfl) fun z hz => ⟨[some (.d (rowT P)), some (.d (ofsT O)), some (.d (rowT B)), some (.d (offD z))], by rfl, ?_⟩
    simp only [EV, List.map_cons, List.map_nil, m_is_offer_ok (hO z hz)]
    rfl
  have hall : allD (.list ((O.map fun _ => true).map PyData.bool)) = some (.d (.bool true)) := by
    show ((boolsOf ((O.map fun _ => true).map PyData.bool)).map fun bs => W.d (.bool (bs.all id))) = _
    rw [boolsOf_map]
    simp
  unfold m__check
  refine fn_nx (M := [some (.d (rowT P)), some (.d (ofsT O)), some (.d (rowT B)), none]) (m' := [some (.d (rowT P)), some (.d (ofsT O)), some (.d (rowT B)), none]) rfl ?_
  unfold b__check
  refine seq_go (expr_nx (m_check_prices_ok hP)) (seq_go (ifF_nil ?_) (seq_go (ifF_nil ?_) (expr_nx (m_check_basket_ok h))))
  · have q2 : ¬ ((6 : Int) < O.length) := by omega
    rw [or_f (by rfl)]
    simp only [EV, ofs_len, decide_eq_false q2]
  · simp only [EV, h0, hall, Rz.map_ok]
    rfl
def prodL (L : List Int) : Int := L.foldl (fun m x => m * (x + 1)) 1
theorem few_loop (hb : ∀ x ∈ B, 0 ≤ x ∧ x ≤ 9) : goFor (gSet 2) fb__check_few_0 (B.map PyData.int) [some (.d (rowT B)), some (.d (.int 1)), none] = .nx [some (.d (rowT B)), some (.d (.int (prodL B))), none] := by
  have e := for_fold (s := gSet 2) (b := fb__check_few_0) PyData.int (fun (m : Int) => ([some (.d (rowT B)), some (.d (.int m)), none] : Ms)) (fun (m x : Int) => m * (x + 1)) (fun _ => True) B (st := 1) trivial fun x hx m _ => ⟨_, rfl, by
    unfold fb__check_few_0
    refine cut_go (m' := [some (.d (rowT B)), some (.d (.int (m * (x + 1)))), some (.d (.int x))]) ?_ rfl
    have := hb x hx
    show flE (toV (e2 addD (rVar 2) (vC (.int 1)))) (fun y mm => match ipMD (.int m) y with | some z => if 1 < mm.length then .nx (mm.set 1 (some (.d z))) else .st | none => .st) [some (.d (rowT B)), some (.d (.int m)), some (.d (.int x))] = _
    have e1 : (toV (e2 addD (rVar 2) (vC (.int 1)))) [some (.d (rowT B)), some (.d (.int m)), some (.d (.int x))] = .ok (.int (x + 1)) := by simp only [EV]
    have e2 : ipMD (.int m) (.int (x + 1)) = some (.int (m * (x + 1))) := by
      show (if smallI m ∨ smallI (x + 1) then some (PyData.int (m * (x + 1))) else none) = _
      rw [if_pos (.inr (small_of (by omega) (by omega)))]
    unfold flE
    rw [e1]
    dsimp only
    rw [e2]
    rfl, trivial⟩
  exact e.1
theorem m_check_few_ok (hb : ∀ x ∈ B, 0 ≤ x ∧ x ≤ 9) (h : prodL B ≤ 3000) : m__check_few [some (.d (rowT B))] = .ok .none := by
  have e := few_loop hb
  have q2 : ¬ ((3000 : Int) < prodL B) := by omega
  unfold m__check_few
  refine fn_nx (M := [some (.d (rowT B)), none, none]) (m' := [none, some (.d (.int (prodL B))), none]) rfl ?_
  unfold b__check_few
  refine seq_go (m' := [some (.d (rowT B)), some (.d (.int 1)), none]) (by rfl) (seq_go (m' := [none, some (.d (.int (prodL B))), none]) (cut_go (pre_go rfl (for_go (xs := B.map PyData.int) (by rfl) e)) rfl) (ifF_nil ?_))
  simp only [EV, decide_eq_false q2]
theorem m_cheapest_ok (hP : PsOk P) (hO : ∀ o ∈ O, OfOk P.length o) (hl : O.length ≤ 6) (h : Bk P.length B) (hf : prodL B ≤ 3000) : m_cheapest [some (.d (rowT P)), some (.d (ofsT O)), some (.d (rowT B))] = .ok (prT (dueP P O B)) := by
  have q := m_best_ok (n := P.length) (P := P) (O := O) (B := B) hP.l1 (fun p hp => by have := hP.b p hp; omega) h hO hl
  unfold m_cheapest
  refine fn_rt (M := [some (.d (rowT P)), some (.d (ofsT O)), some (.d (rowT B))]) rfl ?_
  unfold b_cheapest
  exact seq_go (expr_nx (m_check_ok hP hO hl h)) (seq_go (expr_nx (m_check_few_ok h.b hf)) (ret_rt q))
theorem m_is_integer_ok {i : Int} : m_is_integer [some (.d (.int i))] = .ok (.bool true) := by
  unfold m_is_integer b_is_integer
  simp
theorem row_add0 (h : r.length ≤ 1000) : addD (.tuple [.int 0]) (rowT r) = some (.d (rowT (0 :: r))) := by
  show (if 1 + (r.map PyData.int).length ≤ 16000000 then some (W.d (.tuple ([.int 0] ++ r.map .int))) else none) = _
  rw [if_pos (by rw [List.length_map]; omega)]
  rfl
theorem m_bill_price_ok (hP : PsOk P) (hO : ∀ o ∈ O, OfOk P.length o) (hl : O.length ≤ 6) (h : Bk P.length B) (hr : r.length = O.length) (hb : ∀ x ∈ r, 0 ≤ x ∧ x ≤ 1000) :
    m_bill_price [some (.d (rowT P)), some (.d (ofsT O)), some (.d (rowT B)), some (.d (rowT r))] = if nonN (lf O r B) = true then .ok (.int (dotZ P (lf O r B) + paidI O r)) else .ex 6 := by
  have hlf := m_left_ok (O := O) (B := B) hb
  have hlen : (lf O r B).length = B.length := lf_len fun o ho => by rw [(hO o ho).l, h.l]
  have hne : lf O r B ≠ [] := fun z => by
    have h1 := hP.l1
    have h2 := h.l
    rw [z, List.length_nil] at hlen
    omega
  have h0 : lc_bill_price_0 [some (.d (rowT P)), some (.d (ofsT O)), some (.d (rowT B)), some (.d (rowT r)), none, none, none] = .ok (.l ((r.map fun _ => true).map PyData.bool)) := by
    unfold lc_bill_price_0
    rw [List.map_map]
    refine lc_map r PyData.int _ (by rfl) (by rfl) fun z hz => ⟨[some (.d (rowT P)), some (.d (ofsT O)), some (.d (rowT B)), some (.d (rowT r)), some (.d (.int z)), none, none], by rfl, ?_⟩
    simp only [EV, List.map_cons, List.map_nil, m_is_integer_ok]
    rfl
  have t1 : (tOr' (tNot' (tV' (vIsi isTup (rVar 3)))) (tOr' (t2 neD (toV (eCall (g1 lenD) [(rVar 3)])) (toV (eCall (g1 lenD) [(rVar 1)]))) (tNot' (tV' (toV (eCall (g1 allD) [(toV lc_bill_price_0)])))))) [some (.d (rowT P)), some (.d (ofsT O)), some (.d (rowT B)), some (.d (rowT r)), none, none, none] = .ok false := by
    rw [or_f (by rfl), or_f]
    · simp only [EV, h0, allD_true, Rz.map_ok]
      rfl
    · simp only [EV, row_len, ofs_len, hr]
      simp
  have t2a : (t2 ltD (toV (eCall (g12 minD1 minT2) [(toV (e2 addD (eTup [(vC (.int 0))]) (rVar 3)))])) (vC (.int 0))) [some (.d (rowT P)), some (.d (ofsT O)), some (.d (rowT B)), some (.d (rowT r)), none, none, none] = .ok false := by
    have : nonN (0 :: r) = true := by
      unfold nonN
      rw [List.all_eq_true]
      intro x hx
      rcases List.mem_cons.mp hx with rfl | hx
      · rfl
      · exact decide_eq_true (hb x hx).1
    rw [← min_non (by simp)] at this
    have this : decide (minL (0 :: r) < 0) = false := by simpa using this
    simp only [EV, row_add0 (show r.length ≤ 1000 by omega), minD1_T (show (0 :: r) ≠ [] by simp), this]
  have t2b : (t2 ltD (toV (eCall (g12 minD1 minT2) [(vFn m__left [(vVar 1), (vVar 2), (vVar 3)])])) (vC (.int 0))) [some (.d (rowT P)), some (.d (ofsT O)), some (.d (rowT B)), some (.d (rowT r)), none, none, none] = .ok (!nonN (lf O r B)) := by
    rw [← min_non hne, Bool.not_not]
    simp only [EV, List.map_cons, List.map_nil, hlf, minD1_L hne]
  have h1 : lc_bill_price_1 [some (.d (rowT P)), some (.d (ofsT O)), some (.d (rowT B)), some (.d (rowT r)), none, none, none] = .ok (.l (((r.zip O).map fun q => q.1 * q.2.2).map PyData.int)) := by
    unfold lc_bill_price_1
    rw [List.map_map]
    refine lc_map (r.zip O) (fun q => PyData.tuple [.int q.1, offD q.2]) _ (by rfl) ?_ fun q hq => ⟨[some (.d (rowT P)), some (.d (ofsT O)), some (.d (rowT B)), some (.d (rowT r)), none, some (.d (.int q.1)), some (.d (offD q.2))], by rfl, ?_⟩
    · simp only [EV]
      rw [zipG_s (xs := r.map PyData.int) (ys := O.map offD) rfl rfl, zip_of]
    · have := hb q.1 (List.of_mem_zip hq).1
      simp only [EV, off_1, mul_l (small_of this.1 (show q.1 ≤ 1000000 by omega))]
      rfl
  have q := m_plain_ok (P := P) (L := lf O r B) (T := false) fun p hp => by have := hP.b p hp; omega
  have q : m__plain [some (.d (rowT P)), some (.d (.list ((lf O r B).map PyData.int)))] = .ok (.int (dotZ P (lf O r B))) := q
  unfold m_bill_price
  cases hn : nonN (lf O r B) with
  | true =>
    rw [hn] at t2b
    rw [if_pos rfl]
    refine fn_rt (M := [some (.d (rowT P)), some (.d (ofsT O)), some (.d (rowT B)), some (.d (rowT r)), none, none, none]) rfl ?_
    unfold b_bill_price
    refine seq_go (expr_nx (m_check_ok hP hO hl h)) (seq_go (ifF_nil t1) (seq_go (ifF_nil ?_) (ret_rt ?_)))
    · rw [or_f t2a, t2b]; rfl
    · simp only [EV, List.map_cons, List.map_nil, hlf, q, h1, sumD_l]
      rfl
  | false =>
    rw [hn] at t2b
    rw [if_neg (by simp)]
    refine fn_ex (M := [some (.d (rowT P)), some (.d (ofsT O)), some (.d (rowT B)), some (.d (rowT r)), none, none, none]) (m' := [some (.d (rowT P)), some (.d (ofsT O)), some (.d (rowT B)), some (.d (rowT r)), none, none, none]) rfl ?_
    unfold b_bill_price
    refine seq_go (expr_nx (m_check_ok hP hO hl h)) (seq_go (ifF_nil t1) (seq_ex (ifT_go ?_ rfl)))
    rw [or_f t2a, t2b]; rfl
theorem m_worth_ok {O1 O2 : List Of} (hP : PsOk P) (hO : ∀ o' ∈ O1 ++ o :: O2, OfOk P.length o') (hl : (O1 ++ o :: O2).length ≤ 6) (h : Bk P.length B) (hf : prodL B ≤ 3000) :
    m_worth [some (.d (rowT P)), some (.d (ofsT (O1 ++ o :: O2))), some (.d (.int O1.length)), some (.d (rowT B))] = .ok (.int ((dueP P (O1 ++ O2) B).1 - (dueP P (O1 ++ o :: O2) B).1)) := by
  have hP' : ∀ p ∈ P, 0 ≤ p ∧ p ≤ 1000000 := fun p hp => by have := hP.b p hp; omega
  have hO' : ∀ o' ∈ O1 ++ O2, OfOk P.length o' := fun o' h' => hO o' (by
    rcases List.mem_append.mp h' with h' | h'
    · exact List.mem_append_left _ h'
    · exact List.mem_append_right _ (List.mem_cons_of_mem _ h'))
  have hl' : (O1 ++ O2).length ≤ 6 := by
    rw [List.length_append, List.length_cons] at hl
    rw [List.length_append]; omega
  have q1 := m_best_ok (n := P.length) (P := P) (O := O1 ++ o :: O2) (B := B) hP.l1 hP' h hO hl
  have q2 := m_best_ok (n := P.length) (P := P) (O := O1 ++ O2) (B := B) hP.l1 hP' h hO' hl'
  unfold m_worth
  refine fn_rt (M := [some (.d (rowT P)), some (.d (ofsT (O1 ++ o :: O2))), some (.d (.int O1.length)), some (.d (rowT B)), none]) rfl ?_
  unfold b_worth
  refine seq_go (expr_nx (m_check_ok hP hO hl h)) (seq_go (ifF_nil ?_) (seq_go (expr_nx (m_check_few_ok h.b hf)) (seq_go (m' := [some (.d (rowT P)), some (.d (ofsT (O1 ++ o :: O2))), some (.d (.int O1.length)), some (.d (rowT B)), some (.d (ofsT (O1 ++ O2)))]) ?_ (ret_rt ?_))))
  · have : numB (.int (O1.length : Int)) 0 ((O1 ++ o :: O2).length - 1 : Int) = true := numB_of (by omega) (by rw [List.length_append, List.length_cons]; omega)
    simp only [EV, ofs_len, List.map_cons, List.map_nil, m_is_whole_ok, this]
    rfl
  · have c1 : slD (ofsT (O1 ++ o :: O2)) none (some (O1.length : Int)) = some (.d (.tuple (O1.map offD))) := by
      show some (W.d (.tuple (cutL ((O1 ++ o :: O2).map offD) none (some (O1.length : Int))))) = _
      rw [takeN, ← List.map_take, List.take_left]
    have c2 : slD (ofsT (O1 ++ o :: O2)) (some ((O1.length : Int) + 1)) none = some (.d (.tuple (O2.map offD))) := by
      show some (W.d (.tuple (cutL ((O1 ++ o :: O2).map offD) (some ((O1.length : Int) + 1)) none))) = _
      have e : (O1 ++ o :: O2).drop (O1.length + 1) = O2 := by
        rw [show O1 ++ o :: O2 = (O1 ++ [o]) ++ O2 by simp, show O1.length + 1 = (O1 ++ [o]).length by simp, List.drop_left]
      rw [show ((O1.length : Int) + 1) = ((O1.length + 1 : Nat) : Int) by omega, dropN, ← List.map_drop, e]
    have c3 : addD (.tuple (O1.map offD)) (.tuple (O2.map offD)) = some (.d (ofsT (O1 ++ O2))) := by
      rw [add_t, if_pos (by rw [List.length_map, List.length_map]; rw [List.length_append] at hl'; omega)]
      unfold ofsT
      rw [List.map_append]
    simp only [EV, c1, c2, c3]
    rfl
  · simp only [EV, List.map_cons, List.map_nil, q1, q2]
    rfl
end
end Dl
set_option Elab.async false
set_option linter.all false
set_option maxRecDepth 100000
namespace Dl
open PySem PySem.Spec PyProof.Rows L2
/-! ### what is told -/
section
variable {one two three four : PyData}
def toldR : Rz PyData → Rz PyData
  | .ok x => .ok (.tuple [.str "told", x])
  | .ex 1 => .ok (.tuple [.str "many"])
  | .ex 2 => .ok (.tuple [.str "number"])
  | .ex 3 => .ok (.tuple [.str "prices"])
  | .ex 4 => .ok (.tuple [.str "basket"])
  | .ex 5 => .ok (.tuple [.str "offers"])
  | .ex 6 => .ok (.tuple [.str "bill"])
  | _ => .st
def endR (r : Rz PyData) (M : Ms) : Fl := match r with
  | .ok x => .rt (.tuple [.str "told", x])
  | .ex c => .ex c M
  | .st => .st
def clT : List Hz := [.un p_BadPrices (sRet (eTup [(vC (.str "prices"))])), .un p_BadOffers (sRet (eTup [(vC (.str "offers"))])), .un p_BadBasket (sRet (eTup [(vC (.str "basket"))])), .un p_BadBill (sRet (eTup [(vC (.str "bill"))])), .un p_BadNumber (sRet (eTup [(vC (.str "number"))])), .un p_TooMany (sRet (eTup [(vC (.str "many"))]))]
noncomputable def bdT : Ms → Fl := (sSeq
  (sIf (t2 eqD (rVar 0) (vC (.int 0)))
  (sRet (eTup [(vC (.str "told")), (vFn m_plain_price [(vVar 1), (vVar 3)])]))
  sNil)
  (sSeq
  (sIf (t2 eqD (rVar 0) (vC (.int 1)))
  (sRet (eTup [(vC (.str "told")), (vFn m_bill_price [(vVar 1), (vVar 2), (vVar 3), (vVar 4)])]))
  sNil)
  (sSeq
  (sIf (t2 eqD (rVar 0) (vC (.int 2)))
  (sRet (eTup [(vC (.str "told")), (vFn m_cheapest [(vVar 1), (vVar 2), (vVar 3)])]))
  sNil)
  (sRet (eTup [(vC (.str "told")), (vFn m_worth [(vVar 1), (vVar 2), (vVar 4), (vVar 3)])])))))
theorem told_eq : b__law_told = sTryM bdT clT := rfl
theorem told_end {i : Int} {r : Rz PyData} (hb : bdT [some (.d (.int i)), some (.d one), some (.d two), some (.d three), some (.d four)] = endR r [some (.d (.int i)), some (.d one), some (.d two), some (.d three), some (.d four)]) (ne : toldR r ≠ .st) :
    m__law_told [some (.d (.int i)), some (.d one), some (.d two), some (.d three), some (.d four)] = toldR r := by
  have h : ∃ x, sTryM bdT clT [some (.d (.int i)), some (.d one), some (.d two), some (.d three), some (.d four)] = .rt x ∧ toldR r = .ok x := by
    rw [sTryM_s, hb]
    match r, ne with
    | .ok x, _ => exact ⟨_, rfl, rfl⟩
    | .ex 1, _ => exact ⟨_, rfl, rfl⟩
    | .ex 2, _ => exact ⟨_, rfl, rfl⟩
    | .ex 3, _ => exact ⟨_, rfl, rfl⟩
    | .ex 4, _ => exact ⟨_, rfl, rfl⟩
    | .ex 5, _ => exact ⟨_, rfl, rfl⟩
    | .ex 6, _ => exact ⟨_, rfl, rfl⟩
    | .ex 0, ne => exact absurd rfl ne
    | .ex (_ + 7), ne => exact absurd rfl ne
    | .st, ne => exact absurd rfl ne
  obtain ⟨x, h1, h2⟩ := h
  rw [h2]
  unfold m__law_told
  rw [told_eq]
  exact fn_rt rfl h1
theorem ret_told {f : Ms → Rz PyData} {M : Ms} {r : Rz PyData} (h : f M = r) : sRet (eTup [(vC (.str "told")), f]) M = endR r M := by
  rw [sRet_s, eTup_s, evalAll_cons, evalAll_cons, evalAll_nil, h]
  cases r <;> rfl
theorem seq_rtd {f g : Ms → Fl} {M : Ms} {r : Rz PyData} (h : f M = endR r M) : sSeq f g M = endR r M := by
  cases r with
  | ok x => exact seq_rt h
  | ex c => exact seq_ex h
  | st => unfold sSeq; rw [h]; rfl
theorem told0 {r : Rz PyData} (h : m_plain_price [some (.d one), some (.d three)] = r) (ne : toldR r ≠ .st) : m__law_told [some (.d (.int 0)), some (.d one), some (.d two), some (.d three), some (.d four)] = toldR r := told_end (seq_rtd (ifT_go rfl (ret_told h))) ne
theorem told1 {r : Rz PyData} (h : m_bill_price [some (.d one), some (.d two), some (.d three), some (.d four)] = r) (ne : toldR r ≠ .st) : m__law_told [some (.d (.int 1)), some (.d one), some (.d two), some (.d three), some (.d four)] = toldR r := told_end ((seq_nx (ifF_nil rfl)).trans (seq_rtd (ifT_go rfl (ret_told h)))) ne
theorem told2 {r : Rz PyData} (h : m_cheapest [some (.d one), some (.d two), some (.d three)] = r) (ne : toldR r ≠ .st) : m__law_told [some (.d (.int 2)), some (.d one), some (.d two), some (.d three), some (.d four)] = toldR r := told_end ((seq_nx (ifF_nil rfl)).trans ((seq_nx (ifF_nil rfl)).trans (seq_rtd (ifT_go rfl (ret_told h))))) ne
theorem told3 {r : Rz PyData} (h : m_worth [some (.d one), some (.d two), some (.d four), some (.d three)] = r) (ne : toldR r ≠ .st) : m__law_told [some (.d (.int 3)), some (.d one), some (.d two), some (.d three), some (.d four)] = toldR r := told_end ((seq_nx (ifF_nil rfl)).trans ((seq_nx (ifF_nil rfl)).trans ((seq_nx (ifF_nil rfl)).trans (ret_told h)))) ne
end
end Dl
set_option Elab.async false
set_option linter.all false
set_option maxRecDepth 100000
namespace Dl
open PySem PySem.Spec PyProof.Rows L2
theorem mul_rep {xs : List PyData} {n : Nat} (h : n ≤ 1000) (h2 : xs.length ≤ 1000) : mulD (.list xs) (.int (n : Nat)) = some (.l (List.replicate n xs).flatten) := by
  show (if (-1000000 ≤ (n : Int) ∧ (n : Int) ≤ 1000000) ∧ xs.length * (n : Int).toNat ≤ 16000000 then some (W.l (List.replicate (n : Int).toNat xs).flatten) else none) = _
  have := Nat.mul_le_mul h2 h
  rw [if_pos (by refine ⟨by omega, ?_⟩; rw [Int.toNat_natCast]; exact Nat.le_trans this (by decide)), Int.toNat_natCast]
theorem mul_repT {xs : List PyData} {n : Nat} (h : n ≤ 1000) (h2 : xs.length ≤ 1000) : mulD (.tuple xs) (.int (n : Nat)) = some (.d (.tuple (List.replicate n xs).flatten)) := by
  show (if (-1000 ≤ (n : Int) ∧ (n : Int) ≤ 1000) ∧ xs.length ≤ 1000 then some (W.d (.tuple (List.replicate (n : Int).toNat xs).flatten)) else none) = _
  rw [if_pos (by refine ⟨by omega, h2⟩), Int.toNat_natCast]
def offer1 : PyData := .tuple [.tuple [.tuple [.int 1, .int 0], .int 3]]
def p57 : PyData := .tuple [.int 5, .int 7]
def p11 : PyData := .tuple [.int 1, .int 1]
section
variable {v w : PyData}
theorem ne_tst {s : Str} : toldR (.ex 3) ≠ .st ∧ toldR (.ex 4) ≠ .st ∧ toldR (.ex 5) ≠ .st ∧ toldR (.ex 6) ≠ .st ∧ toldR (.ex 2) ≠ .st ∧ toldR (.ex 1) ≠ .st := ⟨(by intro z; cases z), (by intro z; cases z), (by intro z; cases z), (by intro z; cases z), (by intro z; cases z), (by intro z; cases z)⟩
/-- the check fails: all fail -/
theorem told_ck {one two three four : PyData} {c : Nat} (h : m__check [some (.d one), some (.d two), some (.d three)] = .ex c) (ne : toldR (.ex c) ≠ .st) :
    m__law_told [some (.d (.int 1)), some (.d one), some (.d two), some (.d three), some (.d four)] = toldR (.ex c) ∧ m__law_told [some (.d (.int 2)), some (.d one), some (.d two), some (.d three), some (.d four)] = toldR (.ex c) ∧ m__law_told [some (.d (.int 3)), some (.d one), some (.d two), some (.d three), some (.d four)] = toldR (.ex c) :=
  ⟨told1 (r := .ex c) (fn_ex rfl (seq_ex (expr_ex h))) ne, told2 (r := .ex c) (fn_ex rfl (seq_ex (expr_ex h))) ne, told3 (r := .ex c) (fn_ex rfl (seq_ex (expr_ex h))) ne⟩
theorem rf0 {x0 : Option W} (h : m__check_prices [some (.d v)] = .ex 3) : fb__law_refuses_0 [x0, some (.d v)] = .nx [x0, none] := by
  have hk : ∀ x y : PyData, m__check [some (.d v), some (.d x), some (.d y)] = .ex 3 := fun x y => fn_ex rfl (seq_ex (expr_ex h))
  have e0 : m__law_told [some (.d (.int 0)), some (.d v), some (.d (.tuple [])), some (.d (.tuple [.int 0])), some (.d (.tuple []))] = .ok (.tuple [.str "prices"]) := told0 (r := .ex 3) (fn_ex rfl (seq_ex (expr_ex h))) (by intro z; cases z)
  have e1 : m__law_told [some (.d (.int 1)), some (.d v), some (.d (.tuple [])), some (.d (.tuple [.int 0])), some (.d (.tuple []))] = .ok (.tuple [.str "prices"]) := (told_ck (hk _ _) (by intro z; cases z)).1
  have e2' : m__law_told [some (.d (.int 2)), some (.d v), some (.d (.tuple [])), some (.d (.tuple [.int 0])), some (.d (.tuple []))] = .ok (.tuple [.str "prices"]) := (told_ck (hk _ _) (by intro z; cases z)).2.1
  have e3 : m__law_told [some (.d (.int 3)), some (.d v), some (.d (.tuple [])), some (.d (.tuple [.int 0])), some (.d (.int 0))] = .ok (.tuple [.str "prices"]) := (told_ck (hk _ _) (by intro z; cases z)).2.2
  have hm : mulD (.list [.tuple [.str "prices"]]) (.int 4) = some (.l [.tuple [.str "prices"], .tuple [.str "prices"], .tuple [.str "prices"], .tuple [.str "prices"]]) := mul_rep (n := 4) (by decide) (by decide)
  unfold fb__law_refuses_0
  refine cut_go (m' := [x0, some (.d v)]) (ifF_nil ?_) rfl
  simp only [EV, List.map_cons, List.map_nil, e0, e1, e2', e3, hm]
  rw [neSelf (by rfl) (by decide)]
  rfl
theorem rf1 {x0 : Option W} (h : m__check [some (.d p57), some (.d v), some (.d p11)] = .ex 5) : fb__law_refuses_1 [x0, some (.d v)] = .nx [x0, none] := by
  have e1 : m__law_told [some (.d (.int 1)), some (.d (.tuple [.int 5, .int 7])), some (.d v), some (.d (.tuple [.int 1, .int 1])), some (.d (.tuple []))] = .ok (.tuple [.str "offers"]) := (told_ck h (by intro z; cases z)).1
  have e2' : m__law_told [some (.d (.int 2)), some (.d (.tuple [.int 5, .int 7])), some (.d v), some (.d (.tuple [.int 1, .int 1])), some (.d .none)] = .ok (.tuple [.str "offers"]) := (told_ck h (by intro z; cases z)).2.1
  have e3 : m__law_told [some (.d (.int 3)), some (.d (.tuple [.int 5, .int 7])), some (.d v), some (.d (.tuple [.int 1, .int 1])), some (.d (.int 0))] = .ok (.tuple [.str "offers"]) := (told_ck h (by intro z; cases z)).2.2
  have hm : mulD (.list [.tuple [.str "offers"]]) (.int 3) = some (.l [.tuple [.str "offers"], .tuple [.str "offers"], .tuple [.str "offers"]]) := mul_rep (n := 3) (by decide) (by decide)
  unfold fb__law_refuses_1
  refine cut_go (m' := [x0, some (.d v)]) (ifF_nil ?_) rfl
  simp only [EV, List.map_cons, List.map_nil, e1, e2', e3, hm]
  rw [neSelf (by rfl) (by decide)]
  rfl
theorem rf2 (h : m_plain_price [some (.d p57), some (.d v)] = .ex 4) (hk : m__check [some (.d p57), some (.d offer1), some (.d v)] = .ex 4) : fb__law_refuses_2 [some (.d offer1), some (.d v)] = .nx [some (.d offer1), none] := by
  have e0 : m__law_told [some (.d (.int 0)), some (.d (.tuple [.int 5, .int 7])), some (.d .none), some (.d v), some (.d .none)] = .ok (.tuple [.str "basket"]) := told0 (r := .ex 4) h (by intro z; cases z)
  have e1 : m__law_told [some (.d (.int 1)), some (.d (.tuple [.int 5, .int 7])), some (.d offer1), some (.d v), some (.d (.tuple [.int 0]))] = .ok (.tuple [.str "basket"]) := (told_ck hk (by intro z; cases z)).1
  have e2' : m__law_told [some (.d (.int 2)), some (.d (.tuple [.int 5, .int 7])), some (.d offer1), some (.d v), some (.d .none)] = .ok (.tuple [.str "basket"]) := (told_ck hk (by intro z; cases z)).2.1
  have e3 : m__law_told [some (.d (.int 3)), some (.d (.tuple [.int 5, .int 7])), some (.d offer1), some (.d v), some (.d (.int 0))] = .ok (.tuple [.str "basket"]) := (told_ck hk (by intro z; cases z)).2.2
  have hm : mulD (.list [.tuple [.str "basket"]]) (.int 4) = some (.l [.tuple [.str "basket"], .tuple [.str "basket"], .tuple [.str "basket"], .tuple [.str "basket"]]) := mul_rep (n := 4) (by decide) (by decide)
  unfold fb__law_refuses_2
  refine cut_go (m' := [some (.d offer1), some (.d v)]) (ifF_nil ?_) rfl
  simp only [EV, List.map_cons, List.map_nil, e0, e1, e2', e3, hm]
  rw [neSelf (by rfl) (by decide)]
  rfl
end
def wrongP : List PyData := [.none, .tuple [], .list [.int 5], .tuple [.int 0], .tuple [.int 10001], .tuple [.bool true], .tuple [.int 1, .int 1, .int 1, .int 1, .int 1, .int 1, .int 1], .int 5]
theorem wrongP_ok : ∀ v ∈ wrongP, m__check_prices [some (.d v)] = .ex 3 := by
  intro v hv
  unfold wrongP at hv
  simp only [List.mem_cons, List.not_mem_nil, or_false] at hv
  rcases hv with rfl | rfl | rfl | rfl | rfl | rfl | rfl | rfl <;> rfl
def of1 : PyData := .tuple [.tuple [.int 1, .int 0], .int 3]
def wrongO : List PyData := [.none, .list [.tuple [.tuple [.int 1, .int 0], .int 3]], .tuple [.tuple [.tuple [.int 0, .int 0], .int 3]], .tuple [.tuple [.tuple [.int 1, .int 0], .int (-1)]], .tuple [.tuple [.tuple [.int 1], .int 3]], .tuple [.tuple [.tuple [.int 1, .int 10], .int 3]], .tuple [.tuple [.tuple [.int 1, .int 0], .int 100001]], .tuple [.tuple [.int 1, .int 0]], .tuple [of1, of1, of1, of1, of1, of1, of1], .tuple [.tuple [.tuple [.bool true, .int 0], .int 3]]]
theorem wrongO_ok : ∀ v ∈ wrongO, m__check [some (.d p57), some (.d v), some (.d p11)] = .ex 5 := by
  intro v hv
  unfold wrongO at hv
  simp only [List.mem_cons, List.not_mem_nil, or_false] at hv
  rcases hv with rfl | rfl | rfl | rfl | rfl | rfl | rfl | rfl | rfl | rfl <;> rfl
def wrongB : List PyData := [.none, .list [.int 1, .int 1], .tuple [.int 1], .tuple [.int 1, .int 10], .tuple [.int (-1), .int 0], .tuple [.bool true, .int 0], .tuple [.int 1, .int 1, .int 1]]
theorem wrongB_ok : ∀ v ∈ wrongB, m_plain_price [some (.d p57), some (.d v)] = .ex 4 ∧ m__check [some (.d p57), some (.d offer1), some (.d v)] = .ex 4 := by
  intro v hv
  unfold wrongB at hv
  simp only [List.mem_cons, List.not_mem_nil, or_false] at hv
  rcases hv with rfl | rfl | rfl | rfl | rfl | rfl | rfl <;> exact ⟨rfl, rfl⟩
end Dl
set_option Elab.async false
set_option linter.all false
set_option maxRecDepth 100000
namespace Dl
open PySem PySem.Spec PyProof.Rows L2
theorem ps57 : PsOk [5, 7] := ⟨by decide, by decide, by decide⟩
theorem few_many {B : List Int} (hb : ∀ x ∈ B, 0 ≤ x ∧ x ≤ 9) (h : 3000 < prodL B) : m__check_few [some (.d (rowT B))] = .ex 1 := by
  have e := few_loop hb
  unfold m__check_few
  refine fn_ex (M := [some (.d (rowT B)), none, none]) (m' := [none, some (.d (.int (prodL B))), none]) rfl ?_
  unfold b__check_few
  refine seq_go (m' := [some (.d (rowT B)), some (.d (.int 1)), none]) (by rfl) (seq_go (m' := [none, some (.d (.int (prodL B))), none]) (cut_go (pre_go rfl (for_go (xs := B.map PyData.int) (by rfl) e)) rfl) (ifT_go ?_ rfl))
  simp only [EV, decide_eq_true h]
def wrongBill : List PyData := [.none, .list [.int 0], .tuple [], .tuple [.int 0, .int 0], .tuple [.int (-1)], .tuple [.int 2], .tuple [.bool true], .tuple [.str "a"]]
theorem of_ok1 : ∀ o ∈ [(([1, 0], 3) : Of)], OfOk 2 o := fun o ho => by
  rw [List.mem_singleton.mp ho]
  exact ⟨by decide, by decide, by decide, by decide⟩
theorem ck1 : m__check [some (.d p57), some (.d offer1), some (.d p11)] = .ok .none := m_check_ok (P := [5, 7]) (O := [([1, 0], 3)]) (B := [1, 1]) ps57 of_ok1 (by decide) ⟨by decide, by decide⟩
theorem wrongBill_ok : ∀ v ∈ wrongBill, m_bill_price [some (.d p57), some (.d offer1), some (.d p11), some (.d v)] = .ex 6 := by
  intro v hv
  unfold wrongBill at hv
  simp only [List.mem_cons, List.not_mem_nil, or_false] at hv
  rcases hv with rfl | rfl | rfl | rfl | rfl | rfl | rfl | rfl
  · rfl
  · rfl
  · rfl
  · rfl
  · rfl
  · exact (m_bill_price_ok (P := [5, 7]) (O := [([1, 0], 3)]) (B := [1, 1]) (r := [2]) ps57 of_ok1 (by decide) ⟨by decide, by decide⟩ (by decide) (by decide)).trans rfl
  · rfl
  · rfl
def wrongN : List PyData := [.int 1, .int (-1), .bool true, .none]
theorem wrongN_ok : ∀ v ∈ wrongN, m_worth [some (.d p57), some (.d offer1), some (.d v), some (.d p11)] = .ex 2 := by
  intro v hv
  unfold wrongN at hv
  simp only [List.mem_cons, List.not_mem_nil, or_false] at hv
  rcases hv with rfl | rfl | rfl | rfl <;> rfl
theorem told_i {i : Int} {one two three four x : PyData} (h : m__law_told [some (.d (.int i)), some (.d one), some (.d two), some (.d three), some (.d four)] = .ok x) {m : Ms} {f1 f2 f3 f4 : Ms → Rz PyData} (h1 : f1 m = .ok one) (h2 : f2 m = .ok two) (h3 : f3 m = .ok three) (h4 : f4 m = .ok four) :
    vFn m__law_told [(vC (.int i)), f1, f2, f3, f4] m = .ok x := by
  simp only [EV, h1, h2, h3, h4, List.map_cons, List.map_nil, h]
theorem due1 : dueP [5, 7] [([2, 1], 12), ([1, 0], 4)] [3, 1] = (16, [1, 1]) := by decide +kernel
theorem due2 : dueP [5] [([1], 5)] [2] = (10, [0]) := by decide +kernel
theorem ch1 : m_cheapest [some (.d p57), some (.d (.tuple [.tuple [.tuple [.int 2, .int 1], .int 12], .tuple [.tuple [.int 1, .int 0], .int 4]])), some (.d (.tuple [.int 3, .int 1]))] = .ok (.tuple [.int 16, .tuple [.int 1, .int 1]]) :=
  (m_cheapest_ok (P := [5, 7]) (O := [([2, 1], 12), ([1, 0], 4)]) (B := [3, 1]) ps57 (fun o ho => by
    rcases List.mem_cons.mp ho with rfl | ho
    · exact ⟨by decide, by decide, by decide, by decide⟩
    · rw [List.mem_singleton.mp ho]
      exact ⟨by decide, by decide, by decide, by decide⟩) (by decide) ⟨by decide, by decide⟩ (by decide)).trans (by rw [due1]; rfl)
theorem ch2 : m_cheapest [some (.d (.tuple [.int 5])), some (.d (.tuple [.tuple [.tuple [.int 1], .int 5]])), some (.d (.tuple [.int 2]))] = .ok (.tuple [.int 10, .tuple [.int 0]]) :=
  (m_cheapest_ok (P := [5]) (O := [([1], 5)]) (B := [2]) ⟨by decide, by decide, by decide⟩ (fun o ho => by
    rw [List.mem_singleton.mp ho]
    exact ⟨by decide, by decide, by decide, by decide⟩) (by decide) ⟨by decide, by decide⟩ (by decide)).trans (by rw [due2]; rfl)
theorem ch3 : m_cheapest [some (.d (.tuple [.int 1, .int 1, .int 1, .int 1, .int 1, .int 1])), some (.d (.tuple [])), some (.d (.tuple [.int 3, .int 3, .int 3, .int 3, .int 3, .int 3]))] = .ex 1 :=
  fn_ex rfl (seq_go (expr_nx (m_check_ok (P := [1, 1, 1, 1, 1, 1]) (O := []) (B := [3, 3, 3, 3, 3, 3]) ⟨by decide, by decide, by decide⟩ (by simp) (by decide) ⟨by decide, by decide⟩)) (seq_ex (expr_ex (few_many (B := [3, 3, 3, 3, 3, 3]) (by decide) (by decide)))))
theorem m_law_refuses_ok : m__law_refuses [] = .ok (.bool true) := by
  have hT3 : toldR (.ex 6) ≠ .st := by intro z; cases z
  unfold m__law_refuses
  refine fn_rt (M := [none, none]) rfl ?_
  unfold b__law_refuses
  refine seq_go (m' := [some (.d offer1), none]) (by rfl) ?_
  have hm7 : mulD (.tuple [.int 1]) (.int 7) = some (.d (.tuple [.int 1, .int 1, .int 1, .int 1, .int 1, .int 1, .int 1])) := mul_repT (n := 7) (by decide) (by decide)
  have ho7 : mulD offer1 (.int 7) = some (.d (.tuple [of1, of1, of1, of1, of1, of1, of1])) := mul_repT (n := 7) (by decide) (by decide)
  refine seq_go (m' := [some (.d offer1), none]) (cut_go (pre_go rfl (for_go (xs := wrongP) ?_ (goFor_const fun v hv => ⟨[some (.d offer1), some (.d v)], rfl, rf0 (wrongP_ok v hv)⟩))) rfl) ?_
  · simp only [EV, hm7]
    rfl
  refine seq_go (m' := [some (.d offer1), none]) (cut_go (pre_go rfl (for_go (xs := wrongO) ?_ (goFor_const fun v hv => ⟨[some (.d offer1), some (.d v)], rfl, rf1 (wrongO_ok v hv)⟩))) rfl) ?_
  · simp only [EV, ho7]
    rfl
  refine seq_go (m' := [some (.d offer1), none]) (cut_go (pre_go rfl (for_go (xs := wrongB) (by rfl) (goFor_const fun v hv => ⟨[some (.d offer1), some (.d v)], rfl, rf2 (wrongB_ok v hv).1 (wrongB_ok v hv).2⟩))) rfl) ?_
  refine seq_go (m' := [some (.d offer1), none]) (ifF_nil ?_) ?_
  · have h0 : lc__law_refuses_3 [some (.d offer1), none] = .ok (.l (wrongBill.map fun _ => PyData.tuple [.str "bill"])) := by
      unfold lc__law_refuses_3
      refine lc_map wrongBill id _ (by rfl) (by rw [List.map_id]; rfl) fun v hv => ⟨[some (.d offer1), some (.d v)], by rfl, ?_⟩
      exact told_i (told1 (r := .ex 6) (wrongBill_ok v hv) (by intro z; cases z)) rfl rfl rfl rfl
    have hm : mulD (.list [.tuple [.str "bill"]]) (.int 8) = some (.l (wrongBill.map fun _ => PyData.tuple [.str "bill"])) := mul_rep (n := 8) (by decide) (by decide)
    simp only [EV, h0, hm]
    rw [neSelf (by rfl) (by decide)]
    rfl
  have m1 : mulD (.tuple [.int 1]) (.int 6) = some (.d (.tuple [.int 1, .int 1, .int 1, .int 1, .int 1, .int 1])) := mul_repT (n := 6) (by decide) (by decide)
  have m3 : mulD (.tuple [.int 3]) (.int 6) = some (.d (.tuple [.int 3, .int 3, .int 3, .int 3, .int 3, .int 3])) := mul_repT (n := 6) (by decide) (by decide)
  refine seq_go (m' := [some (.d offer1), none]) (ifF_nil ?_) ?_
  · have h0 : lc__law_refuses_4 [some (.d offer1), none] = .ok (.l (wrongN.map fun _ => PyData.tuple [.str "number"])) := by
      unfold lc__law_refuses_4
      refine lc_map wrongN id _ (by rfl) (by rw [List.map_id]; rfl) fun v hv => ⟨[some (.d offer1), some (.d v)], by rfl, ?_⟩
      exact told_i (told3 (r := .ex 2) (wrongN_ok v hv) (by intro z; cases z)) rfl rfl rfl rfl
    have hm : mulD (.list [.tuple [.str "number"]]) (.int 4) = some (.l (wrongN.map fun _ => PyData.tuple [.str "number"])) := mul_rep (n := 4) (by decide) (by decide)
    rw [or_f]
    · have a := told2 (r := .ex 1) (four := .none) ch3 (by intro z; cases z)
      have a : m__law_told _ = .ok (.tuple [.str "many"]) := a
      simp only [EV, List.map_cons, List.map_nil, m1, m3, a]
      rw [neSelf (by rfl) (by decide)]
      rfl
    · simp only [EV, h0, hm]
      rw [neSelf (by rfl) (by decide)]
      rfl
  refine ret_rt ?_
  have a1 := told2 (four := .none) ch1 (by intro z; cases z)
  have a2 := told2 (four := .none) ch2 (by intro z; cases z)
  have a1 : m__law_told [some (.d (.int 2)), some (.d (.tuple [.int 5, .int 7])), some (.d (.tuple [.tuple [.tuple [.int 2, .int 1], .int 12], .tuple [.tuple [.int 1, .int 0], .int 4]])), some (.d (.tuple [.int 3, .int 1])), some (.d .none)] = .ok (.tuple [.str "told", .tuple [.int 16, .tuple [.int 1, .int 1]]]) := a1
  have a2 : m__law_told [some (.d (.int 2)), some (.d (.tuple [.int 5])), some (.d (.tuple [.tuple [.tuple [.int 1], .int 5]])), some (.d (.tuple [.int 2])), some (.d .none)] = .ok (.tuple [.str "told", .tuple [.int 10, .tuple [.int 0]]]) := a2
  rw [vAnd_s]
  have b1 : (v2 eqD (vFn m__law_told [(vC (.int 2)), (eTup [(vC (.int 5)), (vC (.int 7))]), (eTup [(eTup [(eTup [(vC (.int 2)), (vC (.int 1))]), (vC (.int 12))]), (eTup [(eTup [(vC (.int 1)), (vC (.int 0))]), (vC (.int 4))])]), (eTup [(vC (.int 3)), (vC (.int 1))]), (vC .none)]) (eTup [(vC (.str "told")), (eTup [(vC (.int 16)), (eTup [(vC (.int 1)), (vC (.int 1))])])])) [some (.d offer1), none] = .ok (.bool true) := by
    simp only [EV, List.map_cons, List.map_nil, a1]
    rw [eqSelf (by rfl) (by decide)]
    rfl
  rw [b1, Rz.bind_ok, boolD_s, Rz.bind_ok, if_pos rfl]
  simp only [EV, List.map_cons, List.map_nil, a2]
  rw [eqSelf (by rfl) (by decide)]
  rfl
end Dl
set_option Elab.async false
set_option linter.all false
set_option maxRecDepth 100000
namespace Dl
open PySem PySem.Spec PyProof.Rows L2
def pOf (D : List Int) (n : Nat) : List Int := (List.range n).map fun k => 1 + D.getD (1 + k) 0 % 30
def bOf (D : List Int) (n : Nat) : List Int := (List.range n).map fun k => D.getD (4 + k) 0 % 6
def cOf (D : List Int) (n j : Nat) : List Int := (List.range n).map fun k => D.getD (8 + 3 * j + k) 0 % 3
def ofOf (D P : List Int) (n j : Nat) : Of := (cOf D n j, max 0 (dotZ P (cOf D n j) - D.getD (17 + j) 0 % 20 + 4))
theorem pOf_len {D : List Int} {n : Nat} : (pOf D n).length = n := by simp [pOf]
theorem bOf_len {D : List Int} {n : Nat} : (bOf D n).length = n := by simp [bOf]
theorem cOf_len {D : List Int} {n j : Nat} : (cOf D n j).length = n := by simp [cOf]
theorem pOf_b {D : List Int} {n : Nat} : ∀ x ∈ pOf D n, 1 ≤ x ∧ x ≤ 30 := by
  intro x hx
  obtain ⟨k, _, rfl⟩ := List.mem_map.mp hx
  have := Int.emod_lt_of_pos (D.getD (1 + k) 0) (show (0 : Int) < 30 by decide)
  have := Int.emod_nonneg (D.getD (1 + k) 0) (show (30 : Int) ≠ 0 by decide)
  omega
theorem bOf_b {D : List Int} {n : Nat} : ∀ x ∈ bOf D n, 0 ≤ x ∧ x ≤ 5 := by
  intro x hx
  obtain ⟨k, _, rfl⟩ := List.mem_map.mp hx
  have := Int.emod_lt_of_pos (D.getD (4 + k) 0) (show (0 : Int) < 6 by decide)
  have := Int.emod_nonneg (D.getD (4 + k) 0) (show (6 : Int) ≠ 0 by decide)
  omega
theorem cOf_b {D : List Int} {n j : Nat} : ∀ x ∈ cOf D n j, 0 ≤ x ∧ x ≤ 2 := by
  intro x hx
  obtain ⟨k, _, rfl⟩ := List.mem_map.mp hx
  have := Int.emod_lt_of_pos (D.getD (8 + 3 * j + k) 0) (show (0 : Int) < 3 by decide)
  have := Int.emod_nonneg (D.getD (8 + 3 * j + k) 0) (show (3 : Int) ≠ 0 by decide)
  omega
theorem dot_bd {a b : Int} (ha : 0 ≤ a) (hb : 0 ≤ b) : ∀ (cs ps : List Int), (∀ c ∈ cs, 0 ≤ c ∧ c ≤ a) → (∀ p ∈ ps, 0 ≤ p ∧ p ≤ b) → dotZ cs ps ≤ a * b * cs.length
  | [], _, _, _ => by simp [dotZ]
  | c :: cs, [], _, _ => by
    have : dotZ (c :: cs) [] = 0 := rfl
    rw [this]
    exact Int.mul_nonneg (Int.mul_nonneg ha hb) (by omega)
  | c :: cs, p :: ps, h1, h2 => by
    have ih := dot_bd ha hb cs ps (fun x hx => h1 x (List.mem_cons_of_mem _ hx)) fun x hx => h2 x (List.mem_cons_of_mem _ hx)
    have hc := h1 c (by simp)
    have hp := h2 p (by simp)
    have d1 : dotZ (c :: cs) (p :: ps) = c * p + dotZ cs ps := rfl
    have m1 : c * p ≤ a * b := Int.mul_le_mul hc.2 hp.2 hp.1 ha
    rw [d1, List.length_cons, Int.natCast_add, Int.mul_add]
    have : a * b * ((1 : Nat) : Int) = a * b := by simp
    omega
theorem of_of {D : List Int} {n j : Nat} (hn : n ≤ 3) (hs : 0 < (cOf D n j).sum) : OfOk n (ofOf D (pOf D n) n j) := by
  refine ⟨cOf_len, fun x hx => by have := cOf_b x hx; omega, hs, ?_⟩
  have h1 := dot_bd (a := 30) (b := 2) (by decide) (by decide) (pOf D n) (cOf D n j) (fun x hx => by have := pOf_b x hx; omega) cOf_b
  rw [pOf_len] at h1
  have h2 := Int.emod_nonneg (D.getD (17 + j) 0) (show (20 : Int) ≠ 0 by decide)
  show 0 ≤ max 0 (dotZ (pOf D n) (cOf D n j) - D.getD (17 + j) 0 % 20 + 4) ∧ max 0 (dotZ (pOf D n) (cOf D n j) - D.getD (17 + j) 0 % 20 + 4) ≤ 100000
  omega
theorem max2_i {a b : Int} : max2D (.int a) (.int b) = some (.d (.int (max a b))) := by
  first
  | rfl
  | (show _ = some (W.d (.int (max a b))); unfold max2D; simp)
section
variable {D P B : List Int} {n j k : Nat} {O : List Of}
theorem dr_at (D : List Int) {i : Nat} {z : Int} (hi : i < D.length) (hz : (i : Int) = z) : atI (D.map PyData.int) z = some (.int (D.getD i 0)) := by
  rw [← hz]
  exact at_get hi
theorem ll2 (hD : D.length = 40) (hn : n ≤ 3) (hj : j < 3) : lc_law_2 [none, some (.d (.list (D.map PyData.int))), some (.d (.int (n : Nat))), some (.d (rowT P)), some (.d (rowT B)), some (.l (O.map offD)), some (.d (.int (j : Nat))), none, none, none, none, none, none, none, none, none] = .ok (.l ((cOf D n j).map PyData.int)) := by
  unfold lc_law_2 cOf
  rw [List.map_map]
  refine lc_map (List.range n) (fun (i : Nat) => PyData.int i) _ (by rfl) ?_ fun k hk => ⟨[none, some (.d (.list (D.map PyData.int))), some (.d (.int (n : Nat))), some (.d (rowT P)), some (.d (rowT B)), some (.l (O.map offD)), some (.d (.int (j : Nat))), some (.d (.int (k : Nat))), none, none, none, none, none, none, none, none], by rfl, ?_⟩
  · simp only [EV]
    exact rng_map (by omega)
  · have hk := List.mem_range.mp hk
    have hm : mulD (.int 3) (.int (j : Nat)) = some (.d (.int (3 * (j : Int)))) := mul_l (small_of (by decide) (by decide))
    have g := dr_at D (i := 8 + 3 * j + k) (z := 8 + 3 * (j : Int) + (k : Int)) (by omega) (by omega)
    simp only [EV, hm, g, Option.map_some, mod_p (show (0 : Int) < 3 by decide)]
    rfl
theorem ll3 (hP : ∀ p ∈ P, 0 ≤ p ∧ p ≤ 1000000) (hPn : P.length = n) (hn : n ≤ 3) : lc_law_3 [none, some (.d (.list (D.map PyData.int))), some (.d (.int (n : Nat))), some (.d (rowT P)), some (.d (rowT B)), some (.l (O.map offD)), some (.d (.int (j : Nat))), none, some (.d (rowT (cOf D n j))), none, none, none, none, none, none, none] = .ok (.l (((P.zip (cOf D n j)).map fun q => q.1 * q.2).map PyData.int)) := by
  unfold lc_law_3
  rw [← range_zip (fun a b => a * b) P (cOf D n j) (by rw [hPn, cOf_len]), hPn, List.map_map]
  refine lc_map (List.range n) (fun (i : Nat) => PyData.int i) _ (by rfl) ?_ fun k hk => ⟨[none, some (.d (.list (D.map PyData.int))), some (.d (.int (n : Nat))), some (.d (rowT P)), some (.d (rowT B)), some (.l (O.map offD)), some (.d (.int (j : Nat))), some (.d (.int (k : Nat))), some (.d (rowT (cOf D n j))), none, none, none, none, none, none, none], by rfl, ?_⟩
  · simp only [EV]
    exact rng_map (by omega)
  · have hk := List.mem_range.mp hk
    have hp := hP (P.getD k 0) (by
      rw [List.getD_eq_getElem?_getD, List.getElem?_eq_getElem (show k < P.length by omega)]
      exact List.getElem_mem _)
    simp only [EV, row_get (xs := P) (i := k) (by omega), row_get (xs := cOf D n j) (i := k) (by rw [cOf_len]; exact hk), mul_l (small_of hp.1 hp.2)]
    rfl
theorem f4 (hD : D.length = 40) (hn : n ≤ 3) (hj : j < 3) (hP : ∀ p ∈ P, 0 ≤ p ∧ p ≤ 1000000) (hPn : P.length = n) (hO : O.length ≤ 1000) :
    fb_law_4 [none, some (.d (.list (D.map PyData.int))), some (.d (.int (n : Nat))), some (.d (rowT P)), some (.d (rowT B)), some (.l (O.map offD)), some (.d (.int (j : Nat))), none, none, none, none, none, none, none, none, none] = if 0 < (cOf D n j).sum then .nx [none, some (.d (.list (D.map PyData.int))), some (.d (.int (n : Nat))), some (.d (rowT P)), some (.d (rowT B)), some (.l ((O ++ [ofOf D P n j]).map offD)), none, none, none, none, none, none, none, none, none, none] else .nx [none, some (.d (.list (D.map PyData.int))), some (.d (.int (n : Nat))), some (.d (rowT P)), some (.d (rowT B)), some (.l (O.map offD)), none, none, none, none, none, none, none, none, none, none] := by
  have s8 : sSet 8 (ofV (toV (eCall (g1 tupleD) [(toV lc_law_2)]))) [none, some (.d (.list (D.map PyData.int))), some (.d (.int (n : Nat))), some (.d (rowT P)), some (.d (rowT B)), some (.l (O.map offD)), some (.d (.int (j : Nat))), none, none, none, none, none, none, none, none, none] = .nx [none, some (.d (.list (D.map PyData.int))), some (.d (.int (n : Nat))), some (.d (rowT P)), some (.d (rowT B)), some (.l (O.map offD)), some (.d (.int (j : Nat))), none, some (.d (rowT (cOf D n j))), none, none, none, none, none, none, none] := by
    simp only [EV, ll2 hD hn hj, tupD_l]
    rfl
  have t : (t2 gtD (toV (eCall (g1 sumD) [(rVar 8)])) (vC (.int 0))) [none, some (.d (.list (D.map PyData.int))), some (.d (.int (n : Nat))), some (.d (rowT P)), some (.d (rowT B)), some (.l (O.map offD)), some (.d (.int (j : Nat))), none, some (.d (rowT (cOf D n j))), none, none, none, none, none, none, none] = .ok (decide (0 < (cOf D n j).sum)) := by
    simp only [EV, row_sum]
  unfold fb_law_4
  by_cases hs : 0 < (cOf D n j).sum
  · rw [if_pos hs]
    rw [decide_eq_true hs] at t
    refine cut_go (m' := [none, some (.d (.list (D.map PyData.int))), some (.d (.int (n : Nat))), some (.d (rowT P)), some (.d (rowT B)), some (.l ((O ++ [ofOf D P n j]).map offD)), some (.d (.int (j : Nat))), none, some (.d (rowT (cOf D n j))), none, none, none, none, none, none, none]) (seq_go s8 (cut_go (m' := [none, some (.d (.list (D.map PyData.int))), some (.d (.int (n : Nat))), some (.d (rowT P)), some (.d (rowT B)), some (.l ((O ++ [ofOf D P n j]).map offD)), some (.d (.int (j : Nat))), none, some (.d (rowT (cOf D n j))), none, none, none, none, none, none, some (.d (.int (dotZ P (cOf D n j))))]) (ifT_go t (seq_go (m' := [none, some (.d (.list (D.map PyData.int))), some (.d (.int (n : Nat))), some (.d (rowT P)), some (.d (rowT B)), some (.l (O.map offD)), some (.d (.int (j : Nat))), none, some (.d (rowT (cOf D n j))), none, none, none, none, none, none, some (.d (.int (dotZ P (cOf D n j))))]) ?_ ?_)) rfl)) rfl
    · simp only [EV, ll3 hP hPn hn, sumD_l]
      rfl
    · have g := dr_at D (i := 17 + j) (z := 17 + (j : Int)) (by omega) (by omega)
      simp only [EV, lAt, g, Option.map_some, mod_p (show (0 : Int) < 20 by decide), max2_i]
      rw [if_pos (by rw [List.length_map]; omega), List.map_append]
      rfl
  · rw [if_neg hs]
    rw [decide_eq_false hs] at t
    exact cut_go (m' := [none, some (.d (.list (D.map PyData.int))), some (.d (.int (n : Nat))), some (.d (rowT P)), some (.d (rowT B)), some (.l (O.map offD)), some (.d (.int (j : Nat))), none, some (.d (rowT (cOf D n j))), none, none, none, none, none, none, none]) (seq_go s8 (cut_go (m' := [none, some (.d (.list (D.map PyData.int))), some (.d (.int (n : Nat))), some (.d (rowT P)), some (.d (rowT B)), some (.l (O.map offD)), some (.d (.int (j : Nat))), none, some (.d (rowT (cOf D n j))), none, none, none, none, none, none, none]) (ifF_nil t) rfl)) rfl
/-- all offers -/
theorem g4 (hD : D.length = 40) (hn : n ≤ 3) (hP : P = pOf D n) {J : Nat} (hJ : J ≤ 3) : ∃ O : List Of, goFor (gSet 6) fb_law_4 ((List.range J).map fun (i : Nat) => PyData.int (i : Nat)) [none, some (.d (.list (D.map PyData.int))), some (.d (.int (n : Nat))), some (.d (rowT P)), some (.d (rowT B)), some (.l []), none, none, none, none, none, none, none, none, none, none] = .nx [none, some (.d (.list (D.map PyData.int))), some (.d (.int (n : Nat))), some (.d (rowT P)), some (.d (rowT B)), some (.l (O.map offD)), none, none, none, none, none, none, none, none, none, none] ∧ (∀ o ∈ O, OfOk n o) ∧ O.length ≤ 3 := by
  have hP' : ∀ p ∈ P, 0 ≤ p ∧ p ≤ 1000000 := fun p hp => by
    rw [hP] at hp
    have := pOf_b p hp
    omega
  have hPn : P.length = n := by rw [hP, pOf_len]
  obtain ⟨m', e, O, rfl, h1, h2⟩ := for_pre (s := gSet 6) (b := fb_law_4) (fun (i : Nat) => PyData.int (i : Nat)) (fun (l : List Nat) m => ∃ O : List Of, m = [none, some (.d (.list (D.map PyData.int))), some (.d (.int (n : Nat))), some (.d (rowT P)), some (.d (rowT B)), some (.l (O.map offD)), none, none, none, none, none, none, none, none, none, none] ∧ (∀ o ∈ O, OfOk n o) ∧ O.length ≤ l.length) (List.range J) (m := [none, some (.d (.list (D.map PyData.int))), some (.d (.int (n : Nat))), some (.d (rowT P)), some (.d (rowT B)), some (.l []), none, none, none, none, none, none, none, none, none, none]) rfl ⟨[], rfl, fun o h => by (cases h), Nat.le_refl _⟩ fun l j r m hy ⟨O, hm, h1, h2⟩ => by
    subst hm
    obtain ⟨hj, rfl⟩ := range_split hy
    have f := f4 (B := B) (O := O) (j := l.length) hD hn (by omega) hP' hPn (by omega)
    by_cases hs : 0 < (cOf D n l.length).sum
    · rw [if_pos hs] at f
      refine ⟨_, rfl, _, .inl f, O ++ [ofOf D P n l.length], rfl, fun o ho => ?_, by simp; omega⟩
      rcases List.mem_append.mp ho with ho | ho
      · exact h1 o ho
      · rw [List.mem_singleton.mp ho, hP]
        exact of_of hn hs
    · rw [if_neg hs] at f
      exact ⟨_, rfl, _, .inl f, O, rfl, h1, by simp; omega⟩
  exact ⟨O, e, h1, by rw [List.length_range] at h2; omega⟩
end
end Dl

set_option Elab.async false
set_option linter.all false
set_option maxRecDepth 100000
namespace Dl
open PySem PySem.Spec PyProof.Rows L2
def drOf (D : List Int) (k m : Nat) : List Int := (List.range m).map fun j => D.getD (25 + k + j) 0 % 4
theorem drOf_b {D : List Int} {k m : Nat} : ∀ x ∈ drOf D k m, 0 ≤ x ∧ x ≤ 3 := by
  intro x hx
  obtain ⟨j, _, rfl⟩ := List.mem_map.mp hx
  have := Int.emod_lt_of_pos (D.getD (25 + k + j) 0) (show (0 : Int) < 4 by decide)
  have := Int.emod_nonneg (D.getD (25 + k + j) 0) (show (4 : Int) ≠ 0 by decide)
  omega
section
variable {D P B r : List Int} {n k j : Nat} {O O1 O2 : List Of} {o : Of}
theorem ll6 (hD : D.length = 40) (hk : k < 5) (hl : O.length ≤ 3) : lc_law_6 [none, some (.d (.list (D.map PyData.int))), none, some (.d (rowT P)), some (.d (rowT B)), some (.d (ofsT O)), none, some (.d (.int (k : Nat))), none, some (.d (.list ((billsS O B).map rowT))), some (.d (prT (dueP P O B))), some (.d (rowT r)), none, none, none, none] = .ok (.l ((drOf D k O.length).map PyData.int)) := by
  unfold lc_law_6 drOf
  rw [List.map_map]
  refine lc_map (List.range O.length) (fun (i : Nat) => PyData.int i) _ (by rfl) ?_ fun j hj => ⟨[none, some (.d (.list (D.map PyData.int))), none, some (.d (rowT P)), some (.d (rowT B)), some (.d (ofsT O)), some (.d (.int (j : Nat))), some (.d (.int (k : Nat))), none, some (.d (.list ((billsS O B).map rowT))), some (.d (prT (dueP P O B))), some (.d (rowT r)), none, none, none, none], by rfl, ?_⟩
  · simp only [EV, ofs_len]
    exact rng_map (by omega)
  · have hj := List.mem_range.mp hj
    have g := dr_at D (i := 25 + k + j) (z := 25 + (k : Int) + (j : Int)) (by omega) (by omega)
    simp only [EV, g, Option.map_some, mod_p (show (0 : Int) < 4 by decide)]
    rfl
theorem f7 (hD : D.length = 40) (hk : k < 5) (hP : PsOk P) (hn : P.length = n) (hB : Bk n B) (hO : ∀ o ∈ O, OfOk n o) (hl : O.length ≤ 3) : fb_law_7 [none, some (.d (.list (D.map PyData.int))), none, some (.d (rowT P)), some (.d (rowT B)), some (.d (ofsT O)), none, some (.d (.int (k : Nat))), none, some (.d (.list ((billsS O B).map rowT))), some (.d (prT (dueP P O B))), none, none, none, none, none] = .nx [none, some (.d (.list (D.map PyData.int))), none, some (.d (rowT P)), some (.d (rowT B)), some (.d (ofsT O)), none, none, none, some (.d (.list ((billsS O B).map rowT))), some (.d (prT (dueP P O B))), none, none, none, none, none] := by
  subst hn
  have hP' : ∀ p ∈ P, 0 ≤ p ∧ p ≤ 1000000 := fun p hp => by have := hP.b p hp; omega
  have hpos : 0 < (billsS O B).length := by
    obtain ⟨s, hs⟩ := List.exists_mem_of_ne_nil _ (allA_ne hO hB)
    exact List.length_pos_of_mem (mem_bills.mpr ⟨s, hs, rfl⟩)
  obtain ⟨i, hi, ei⟩ : ∃ i : Nat, i < (billsS O B).length ∧ (i : Int) = D.getD (20 + k) 0 % ((billsS O B).length : Int) := by
    have h1 := Int.emod_lt_of_pos (D.getD (20 + k) 0) (show (0 : Int) < ((billsS O B).length : Int) by omega)
    have h2 := Int.emod_nonneg (D.getD (20 + k) 0) (show ((billsS O B).length : Int) ≠ 0 by omega)
    exact ⟨(D.getD (20 + k) 0 % ((billsS O B).length : Int)).toNat, by omega, by omega⟩
  obtain ⟨r, hr, er⟩ : ∃ r, r ∈ billsS O B ∧ (billsS O B)[i]? = some r := ⟨(billsS O B)[i], List.getElem_mem _, List.getElem?_eq_getElem hi⟩
  obtain ⟨r1, r2, r3⟩ := bill_facts hB hO hr
  have q1 := m_bill_price_ok hP hO (by omega) hB r1 (fun x hx => by have := r2 x hx; omega)
  rw [if_pos (nonN_Bk r3)] at q1
  have hlO : ∀ o ∈ O, o.1.length = B.length := fun o h => by rw [(hO o h).l, hB.l]
  have hB6 := hP.l2
  have hB1 := hP.l1
  have q2 := m_law_price_ok (r := r) hP' (by rw [hB.l]) r1 hlO (by omega) (by rw [hB.l]; omega) (fun x hx => by have := r2 x hx; omega)
  have dl : (drOf D k O.length).length = O.length := by simp [drOf]
  have db : ∀ x ∈ drOf D k O.length, 0 ≤ x ∧ x ≤ 1000 := fun x hx => by have := drOf_b x hx; omega
  have q3 := m_bill_price_ok hP hO (by omega) hB dl db
  have q4 := m_law_price_ok (r := drOf D k O.length) hP' (by rw [hB.l]) dl hlO (by omega) (by rw [hB.l]; omega) db
  have q5 := m_law_left_ok dl hlO (by omega) (by rw [hB.l]; omega) db
  have hne : lf O (drOf D k O.length) B ≠ [] := fun z => by
    have := lf_len (r := drOf D k O.length) hlO
    rw [z, List.length_nil, hB.l] at this
    omega
  have s11 : sSet 11 (ofV (toV (e2 ixD (rVar 9) (toV (e2 modD (toV (eCall (g1 toIntD) [(toV (e2 ixD (rVar 1) (toV (e2 addD (vC (.int 20)) (rVar 7)))))])) (toV (eCall (g1 lenD) [(rVar 9)]))))))) [none, some (.d (.list (D.map PyData.int))), none, some (.d (rowT P)), some (.d (rowT B)), some (.d (ofsT O)), none, some (.d (.int (k : Nat))), none, some (.d (.list ((billsS O B).map rowT))), some (.d (prT (dueP P O B))), none, none, none, none, none] = .nx [none, some (.d (.list (D.map PyData.int))), none, some (.d (rowT P)), some (.d (rowT B)), some (.d (ofsT O)), none, some (.d (.int (k : Nat))), none, some (.d (.list ((billsS O B).map rowT))), some (.d (prT (dueP P O B))), some (.d (rowT r)), none, none, none, none] := by
    have g := dr_at D (i := 20 + k) (z := 20 + (k : Int)) (by omega) (by omega)
    have g2 : atI ((billsS O B).map rowT) (D.getD (20 + k) 0 % ((billsS O B).length : Int)) = some (rowT r) := by
      rw [← ei, atI_nat, List.getElem?_map, er]
      rfl
    simp only [EV, g, Option.map_some, List.length_map, mod_p (show (0 : Int) < ((billsS O B).length : Int) by omega), g2]
    rfl
  have t1 : (t2 neD (vFn m_bill_price [(vVar 3), (vVar 5), (vVar 4), (vVar 11)]) (vFn m__law_price [(vVar 3), (vVar 5), (vVar 4), (vVar 11)])) [none, some (.d (.list (D.map PyData.int))), none, some (.d (rowT P)), some (.d (rowT B)), some (.d (ofsT O)), none, some (.d (.int (k : Nat))), none, some (.d (.list ((billsS O B).map rowT))), some (.d (prT (dueP P O B))), some (.d (rowT r)), none, none, none, none] = .ok false := by
    simp only [EV, List.map_cons, List.map_nil, q1, q2]
    simp
  have s12 : sSet 12 (ofV (toV (eCall (g1 tupleD) [(toV lc_law_6)]))) [none, some (.d (.list (D.map PyData.int))), none, some (.d (rowT P)), some (.d (rowT B)), some (.d (ofsT O)), none, some (.d (.int (k : Nat))), none, some (.d (.list ((billsS O B).map rowT))), some (.d (prT (dueP P O B))), some (.d (rowT r)), none, none, none, none] = .nx [none, some (.d (.list (D.map PyData.int))), none, some (.d (rowT P)), some (.d (rowT B)), some (.d (ofsT O)), none, some (.d (.int (k : Nat))), none, some (.d (.list ((billsS O B).map rowT))), some (.d (prT (dueP P O B))), some (.d (rowT r)), some (.d (rowT (drOf D k O.length))), none, none, none] := by
    simp only [EV, ll6 hD hk hl, tupD_l]
    rfl
  have s13 : sFrz 5 (sSet 13 (ofV (v2 geD (toV (eCall (g12 minD1 minT2) [(vFn m__law_left [(vVar 5), (vVar 4), (vVar 12)])])) (vC (.int 0))))) [none, some (.d (.list (D.map PyData.int))), none, some (.d (rowT P)), some (.d (rowT B)), some (.d (ofsT O)), none, some (.d (.int (k : Nat))), none, some (.d (.list ((billsS O B).map rowT))), some (.d (prT (dueP P O B))), some (.d (rowT r)), some (.d (rowT (drOf D k O.length))), none, none, none] = .nx [none, some (.d (.list (D.map PyData.int))), none, some (.d (rowT P)), some (.d (rowT B)), some (.d (ofsT O)), none, some (.d (.int (k : Nat))), none, some (.d (.list ((billsS O B).map rowT))), some (.d (prT (dueP P O B))), some (.d (rowT r)), some (.d (rowT (drOf D k O.length))), some (.d (.bool (nonN (lf O (drOf D k O.length) B)))), none, none] := by
    show sSet 13 (ofV (v2 geD (toV (eCall (g12 minD1 minT2) [(vFn m__law_left [(vVar 5), (vVar 4), (vVar 12)])])) (vC (.int 0)))) [none, some (.d (.list (D.map PyData.int))), none, some (.d (rowT P)), some (.d (rowT B)), some (.d (ofsT O)), none, some (.d (.int (k : Nat))), none, some (.d (.list ((billsS O B).map rowT))), some (.d (prT (dueP P O B))), some (.d (rowT r)), some (.d (rowT (drOf D k O.length))), none, none, none] = .nx [none, some (.d (.list (D.map PyData.int))), none, some (.d (rowT P)), some (.d (rowT B)), some (.d (ofsT O)), none, some (.d (.int (k : Nat))), none, some (.d (.list ((billsS O B).map rowT))), some (.d (prT (dueP P O B))), some (.d (rowT r)), some (.d (rowT (drOf D k O.length))), some (.d (.bool (nonN (lf O (drOf D k O.length) B)))), none, none]
    simp only [EV, List.map_cons, List.map_nil, q5, minD1_L hne, min_non hne]
    rfl
  have t3 : (t2 neD (vFn m__law_told [(vC (.int 1)), (vVar 3), (vVar 5), (vVar 4), (vVar 12)]) (vIf (tV' (rVar 13)) (eTup [(vC (.str "told")), (vFn m__law_price [(vVar 3), (vVar 5), (vVar 4), (vVar 12)])]) (eTup [(vC (.str "bill"))]))) [none, some (.d (.list (D.map PyData.int))), none, some (.d (rowT P)), some (.d (rowT B)), some (.d (ofsT O)), none, some (.d (.int (k : Nat))), none, some (.d (.list ((billsS O B).map rowT))), some (.d (prT (dueP P O B))), some (.d (rowT r)), some (.d (rowT (drOf D k O.length))), some (.d (.bool (nonN (lf O (drOf D k O.length) B)))), none, none] = .ok false := by
    cases hg : nonN (lf O (drOf D k O.length) B) with
    | true =>
      rw [hg, if_pos rfl] at q3
      have a := told1 q3 (by intro z; cases z)
      have a : m__law_told [some (.d (.int 1)), some (.d (rowT P)), some (.d (ofsT O)), some (.d (rowT B)), some (.d (rowT (drOf D k O.length)))] = .ok (.tuple [.str "told", .int (dotZ P (lf O (drOf D k O.length) B) + paidI O (drOf D k O.length))]) := a
      simp only [EV, List.map_cons, List.map_nil, a, q4, if_true]
      rw [neSelf (by rfl) (by simp [PyData.depth, PyData.depthAll])]
      rfl
    | false =>
      rw [hg, if_neg (by simp)] at q3
      have a := told1 q3 (by intro z; cases z)
      have a : m__law_told [some (.d (.int 1)), some (.d (rowT P)), some (.d (ofsT O)), some (.d (rowT B)), some (.d (rowT (drOf D k O.length)))] = .ok (.tuple [.str "bill"]) := a
      simp only [EV, List.map_cons, List.map_nil, a, Bool.false_eq_true, if_false]
      rw [neSelf (by rfl) (by decide)]
      rfl
  unfold fb_law_7
  exact cut_go (m' := [none, some (.d (.list (D.map PyData.int))), none, some (.d (rowT P)), some (.d (rowT B)), some (.d (ofsT O)), none, some (.d (.int (k : Nat))), none, some (.d (.list ((billsS O B).map rowT))), some (.d (prT (dueP P O B))), some (.d (rowT r)), some (.d (rowT (drOf D k O.length))), some (.d (.bool (nonN (lf O (drOf D k O.length) B)))), none, none]) (seq_go s11 (seq_go (ifF_nil t1) (seq_go s12 (seq_go s13 (ifF_nil t3))))) rfl
theorem rest_1 : slD (ofsT (O1 ++ o :: O2)) none (some (O1.length : Int)) = some (.d (.tuple (O1.map offD))) := by
  show some (W.d (.tuple (cutL ((O1 ++ o :: O2).map offD) none (some (O1.length : Int))))) = _
  rw [takeN, ← List.map_take, List.take_left]
theorem rest_2 : slD (ofsT (O1 ++ o :: O2)) (some ((O1.length : Int) + 1)) none = some (.d (.tuple (O2.map offD))) := by
  show some (W.d (.tuple (cutL ((O1 ++ o :: O2).map offD) (some ((O1.length : Int) + 1)) none))) = _
  have e : (O1 ++ o :: O2).drop (O1.length + 1) = O2 := by
    rw [show O1 ++ o :: O2 = (O1 ++ [o]) ++ O2 by simp, show O1.length + 1 = (O1 ++ [o]).length by simp, List.drop_left]
  rw [show ((O1.length : Int) + 1) = ((O1.length + 1 : Nat) : Int) by omega, dropN, ← List.map_drop, e]
theorem rest_3 (h : O1.length + O2.length ≤ 1000) : addD (.tuple (O1.map offD)) (.tuple (O2.map offD)) = some (.d (ofsT (O1 ++ O2))) := by
  rw [add_t, if_pos (by rw [List.length_map, List.length_map]; omega)]
  unfold ofsT
  rw [List.map_append]
theorem prT_0 {p : Pr} : ixD (prT p) (.int 0) = some (.d (.int p.1)) := rfl
theorem f8 (hP : PsOk P) (hn : P.length = n) (hB : Bk n B) (hf : prodL B ≤ 3000) (hO : ∀ o' ∈ O1 ++ o :: O2, OfOk n o') (hl : (O1 ++ o :: O2).length ≤ 3) : fb_law_8 [none, none, none, some (.d (rowT P)), some (.d (rowT B)), some (.d (ofsT (O1 ++ o :: O2))), some (.d (.int (O1.length : Nat))), none, none, none, some (.d (prT (dueP P (O1 ++ o :: O2) B))), none, none, none, none, none] = .nx [none, none, none, some (.d (rowT P)), some (.d (rowT B)), some (.d (ofsT (O1 ++ o :: O2))), none, none, none, none, some (.d (prT (dueP P (O1 ++ o :: O2) B))), none, none, none, none, none] := by
  subst hn
  have hP' : ∀ p ∈ P, 0 ≤ p ∧ p ≤ 1000000 := fun p hp => by have := hP.b p hp; omega
  have hO' : ∀ o' ∈ O1 ++ O2, OfOk P.length o' := fun o' h' => hO o' (by
    rcases List.mem_append.mp h' with h' | h'
    · exact List.mem_append_left _ h'
    · exact List.mem_append_right _ (List.mem_cons_of_mem _ h'))
  have hl' : O1.length + O2.length ≤ 3 := by
    rw [List.length_append, List.length_cons] at hl; omega
  have hB6 := hP.l2
  have q1 := m_law_cheapest_ok (O := O1 ++ O2) hP.l1 (by omega) hP' rfl hB hO' (by rw [List.length_append]; omega)
  have q2 := m_worth_ok hP hO (by omega) hB hf
  have hm := due_more (P := P) hO hB
  unfold fb_law_8
  refine cut_go (m' := [none, none, none, some (.d (rowT P)), some (.d (rowT B)), some (.d (ofsT (O1 ++ o :: O2))), some (.d (.int (O1.length : Nat))), none, none, none, some (.d (prT (dueP P (O1 ++ o :: O2) B))), none, none, none, some (.d (.int (dueP P (O1 ++ O2) B).1)), none]) (seq_go (m' := [none, none, none, some (.d (rowT P)), some (.d (rowT B)), some (.d (ofsT (O1 ++ o :: O2))), some (.d (.int (O1.length : Nat))), none, none, none, some (.d (prT (dueP P (O1 ++ o :: O2) B))), none, none, none, some (.d (.int (dueP P (O1 ++ O2) B).1)), none]) ?_ (ifF_nil ?_)) rfl
  · simp only [EV, rest_1, rest_2, rest_3 (show O1.length + O2.length ≤ 1000 by omega), List.map_cons, List.map_nil, q1]
    rfl
  · rw [or_f]
    · have : (t2 ltD (rVar 14) (toV (e2 ixD (rVar 10) (vC (.int 0))))) [none, none, none, some (.d (rowT P)), some (.d (rowT B)), some (.d (ofsT (O1 ++ o :: O2))), some (.d (.int (O1.length : Nat))), none, none, none, some (.d (prT (dueP P (O1 ++ o :: O2) B))), none, none, none, some (.d (.int (dueP P (O1 ++ O2) B).1)), none] = .ok (decide ((dueP P (O1 ++ O2) B).1 < (dueP P (O1 ++ o :: O2) B).1)) := by rfl
      rw [this, decide_eq_false (by omega)]
    · simp only [EV, List.map_cons, List.map_nil, q2, prT_0]
      simp
end
end Dl

set_option Elab.async false
set_option linter.all false
set_option maxRecDepth 100000
namespace Dl
open PySem PySem.Spec PyProof.Rows L2
theorem prod_le {b : Int} (hb : 0 ≤ b) : ∀ (L : List Int) (m : Int), 0 ≤ m → (∀ x ∈ L, 0 ≤ x ∧ x + 1 ≤ b) → L.foldl (fun m x => m * (x + 1)) m ≤ m * b ^ L.length
  | [], m, _, _ => by simp
  | x :: L, m, hm, h => by
    have hx := h x (by simp)
    have h1 : m * (x + 1) ≤ m * b := Int.mul_le_mul_of_nonneg_left hx.2 hm
    have h0 : 0 ≤ m * (x + 1) := Int.mul_nonneg hm (by omega)
    have ih := prod_le hb L (m * (x + 1)) h0 fun y hy => h y (List.mem_cons_of_mem _ hy)
    rw [List.foldl_cons, List.length_cons, Int.pow_succ]
    have h2 : m * (x + 1) * b ^ L.length ≤ m * b * b ^ L.length := Int.mul_le_mul_of_nonneg_right h1 (Int.pow_nonneg hb)
    have e : m * (b ^ L.length * b) = m * b * b ^ L.length := by rw [Int.mul_comm (b ^ L.length) b, ← Int.mul_assoc]
    rw [e]
    omega
section
variable {D ns : List Int} {n : Nat} {O : List Of}
theorem la0 (hD : D.length = 40) (hn : n ≤ 3) : lc_law_0 [some (.r ns), some (.d (.list (D.map PyData.int))), some (.d (.int (n : Nat))), none, none, none, none, none, none, none, none, none, none, none, none, none] = .ok (.l ((pOf D n).map PyData.int)) := by
  unfold lc_law_0 pOf
  rw [List.map_map]
  refine lc_map (List.range n) (fun (i : Nat) => PyData.int i) _ (by rfl) ?_ fun k hk => ⟨[some (.r ns), some (.d (.list (D.map PyData.int))), some (.d (.int (n : Nat))), none, none, none, none, some (.d (.int (k : Nat))), none, none, none, none, none, none, none, none], by rfl, ?_⟩
  · simp only [EV]
    exact rng_map (by omega)
  · have hk := List.mem_range.mp hk
    have g := dr_at D (i := 1 + k) (z := 1 + (k : Int)) (by omega) (by omega)
    simp only [EV, g, Option.map_some, mod_p (show (0 : Int) < 30 by decide)]
    rfl
theorem la1 (hD : D.length = 40) (hn : n ≤ 3) : lc_law_1 [some (.r ns), some (.d (.list (D.map PyData.int))), some (.d (.int (n : Nat))), some (.d (rowT (pOf D n))), none, none, none, none, none, none, none, none, none, none, none, none] = .ok (.l ((bOf D n).map PyData.int)) := by
  unfold lc_law_1 bOf
  rw [List.map_map]
  refine lc_map (List.range n) (fun (i : Nat) => PyData.int i) _ (by rfl) ?_ fun k hk => ⟨[some (.r ns), some (.d (.list (D.map PyData.int))), some (.d (.int (n : Nat))), some (.d (rowT (pOf D n))), none, none, none, some (.d (.int (k : Nat))), none, none, none, none, none, none, none, none], by rfl, ?_⟩
  · simp only [EV]
    exact rng_map (by omega)
  · have hk := List.mem_range.mp hk
    have g := dr_at D (i := 4 + k) (z := 4 + (k : Int)) (by omega) (by omega)
    simp only [EV, g, Option.map_some, mod_p (show (0 : Int) < 6 by decide)]
    rfl
theorem la5 (hn : n ≤ 3) : lc_law_5 [none, some (.d (.list (D.map PyData.int))), some (.d (.int (n : Nat))), some (.d (rowT (pOf D n))), some (.d (rowT (bOf D n))), some (.d (ofsT O)), none, none, none, none, none, none, none, none, none, none] = .ok (.l ((((pOf D n).zip (bOf D n)).map fun q => q.1 * q.2).map PyData.int)) := by
  unfold lc_law_5
  rw [← range_zip (fun a b => a * b) (pOf D n) (bOf D n) (by rw [pOf_len, bOf_len]), pOf_len, List.map_map]
  refine lc_map (List.range n) (fun (i : Nat) => PyData.int i) _ (by rfl) ?_ fun k hk => ⟨[none, some (.d (.list (D.map PyData.int))), some (.d (.int (n : Nat))), some (.d (rowT (pOf D n))), some (.d (rowT (bOf D n))), some (.d (ofsT O)), none, some (.d (.int (k : Nat))), none, none, none, none, none, none, none, none], by rfl, ?_⟩
  · simp only [EV]
    exact rng_map (by omega)
  · have hk := List.mem_range.mp hk
    have hk1 : k < (pOf D n).length := by rw [pOf_len]; exact hk
    have hp := pOf_b ((pOf D n).getD k 0) (by
      rw [List.getD_eq_getElem?_getD, List.getElem?_eq_getElem hk1]
      exact List.getElem_mem _)
    simp only [EV, row_get (xs := pOf D n) (i := k) hk1, row_get (xs := bOf D n) (i := k) (by rw [bOf_len]; exact hk), mul_l (small_of (show 0 ≤ (pOf D n).getD k 0 by omega) (by omega))]
    rfl
set_option maxHeartbeats 4000000 in
theorem m_law_ok (ns : List Int) (h : ns.length ≤ 63) : fnW N_law.length b_law [some (.r ns)] = .ok (.bool true) := by
  obtain ⟨D, e, hD, hnn⟩ := m_draws_N (N := 40) (by decide) ns h
  obtain ⟨n, hn1, hn3, hn⟩ : ∃ n : Nat, 1 ≤ n ∧ n ≤ 3 ∧ 1 + D.getD 0 0 % 3 = (n : Int) := by
    have h1 := Int.emod_lt_of_pos (D.getD 0 0) (show (0 : Int) < 3 by decide)
    have h2 := Int.emod_nonneg (D.getD 0 0) (show (3 : Int) ≠ 0 by decide)
    exact ⟨(1 + D.getD 0 0 % 3).toNat, by omega, by omega, by omega⟩
  obtain ⟨J, hJ, hJe⟩ : ∃ J : Nat, J ≤ 3 ∧ D.getD 7 0 % 4 = (J : Int) := by
    have h1 := Int.emod_lt_of_pos (D.getD 7 0) (show (0 : Int) < 4 by decide)
    have h2 := Int.emod_nonneg (D.getD 7 0) (show (4 : Int) ≠ 0 by decide)
    exact ⟨(D.getD 7 0 % 4).toNat, by omega, by omega⟩
  obtain ⟨O, hO1, hO, hl⟩ := g4 (B := bOf D n) hD hn3 (rfl : pOf D n = pOf D n) hJ
  have hP : PsOk (pOf D n) := ⟨by rw [pOf_len]; exact hn1, by rw [pOf_len]; omega, fun p hp => by have := pOf_b p hp; omega⟩
  have hB : Bk n (bOf D n) := ⟨bOf_len, fun x hx => by have := bOf_b x hx; omega⟩
  have hB' : Bk (pOf D n).length (bOf D n) := by rw [pOf_len]; exact hB
  have hO' : ∀ o ∈ O, OfOk (pOf D n).length o := by rw [pOf_len]; exact hO
  have hf : prodL (bOf D n) ≤ 3000 := by
    have := prod_le (b := 6) (by decide) (bOf D n) 1 (by decide) fun x hx => by have := bOf_b x hx; omega
    rw [bOf_len] at this
    have h2 : (6 : Int) ^ n ≤ 216 := by
      match n, hn3 with
      | 0, _ => decide
      | 1, _ => decide
      | 2, _ => decide
      | 3, _ => decide
    unfold prodL
    omega
  have hP' : ∀ p ∈ pOf D n, 0 ≤ p ∧ p ≤ 1000000 := fun p hp => by have := pOf_b p hp; omega
  have q1 := m_plain_price_ok hP hB'
  have q2 := m_law_bills_ok hn1 (show n ≤ 100 by omega) hB hO (by omega)
  have q3 := m_law_cheapest_ok hn1 (show n ≤ 100 by omega) hP' pOf_len hB hO (by omega)
  have q4 := m_cheapest_ok hP hO' (by omega) hB' hf
  have q5 := due_le (P := pOf D n) hO hB
  refine fn_rt (M := [some (.r ns), none, none, none, none, none, none, none, none, none, none, none, none, none, none, none]) rfl ?_
  unfold b_law
  refine seq_go (m' := [some (.r ns), some (.d (.list (D.map PyData.int))), none, none, none, none, none, none, none, none, none, none, none, none, none, none]) ?_ ?_
  · refine set_nx (w := .d (.list (D.map PyData.int))) ?_ (by simp)
    have e : m__law_draws [some (.r ns), some (.d (.int 40))] = .ok (.list (D.map PyData.int)) := e
    simp only [EV, vFnR, rAt, e]
  refine seq_go (m' := [some (.r ns), some (.d (.list (D.map PyData.int))), some (.d (.int (n : Nat))), none, none, none, none, none, none, none, none, none, none, none, none, none]) ?_ ?_
  · have g := dr_at D (i := 0) (z := 0) (by omega) rfl
    simp only [EV, g, Option.map_some, mod_p (show (0 : Int) < 3 by decide), hn]
    rfl
  refine seq_go (m' := [some (.r ns), some (.d (.list (D.map PyData.int))), some (.d (.int (n : Nat))), some (.d (rowT (pOf D n))), none, none, none, none, none, none, none, none, none, none, none, none]) ?_ ?_
  · simp only [EV, la0 hD hn3, tupD_l]
    rfl
  refine seq_go (m' := [some (.r ns), some (.d (.list (D.map PyData.int))), some (.d (.int (n : Nat))), some (.d (rowT (pOf D n))), some (.d (rowT (bOf D n))), none, none, none, none, none, none, none, none, none, none, none]) ?_ ?_
  · simp only [EV, la1 hD hn3, tupD_l]
    rfl
  refine seq_go (m' := [some (.r ns), some (.d (.list (D.map PyData.int))), some (.d (.int (n : Nat))), some (.d (rowT (pOf D n))), some (.d (rowT (bOf D n))), some (.l []), none, none, none, none, none, none, none, none, none, none]) (by rfl) ?_
  refine seq_go (m' := [none, some (.d (.list (D.map PyData.int))), some (.d (.int (n : Nat))), some (.d (rowT (pOf D n))), some (.d (rowT (bOf D n))), some (.l (O.map offD)), none, none, none, none, none, none, none, none, none, none]) ?_ ?_
  · refine cut_go (pre_go rfl (for_go ?_ hO1)) rfl
    have g := dr_at D (i := 7) (z := 7) (by omega) rfl
    simp only [EV, g, Option.map_some, mod_p (show (0 : Int) < 4 by decide), hJe]
    exact rng_map (by omega)
  refine seq_go (m' := [none, some (.d (.list (D.map PyData.int))), some (.d (.int (n : Nat))), some (.d (rowT (pOf D n))), some (.d (rowT (bOf D n))), some (.d (ofsT O)), none, none, none, none, none, none, none, none, none, none]) (by rfl) ?_
  refine seq_go (m' := [none, some (.d (.list (D.map PyData.int))), some (.d (.int (n : Nat))), some (.d (rowT (pOf D n))), some (.d (rowT (bOf D n))), some (.d (ofsT O)), none, none, none, none, none, none, none, none, none, none]) (ifF_nil ?_) ?_
  · simp only [EV, List.map_cons, List.map_nil, q1, la5 hn3, sumD_l]
    show Rz.ok (!(dotZ (pOf D n) (bOf D n) == dotZ (pOf D n) (bOf D n))) = _
    simp
  refine seq_go (m' := [none, some (.d (.list (D.map PyData.int))), some (.d (.int (n : Nat))), some (.d (rowT (pOf D n))), some (.d (rowT (bOf D n))), some (.d (ofsT O)), none, none, none, some (.d (.list ((billsS O (bOf D n)).map rowT))), some (.d (prT (dueP (pOf D n) O (bOf D n)))), none, none, none, none, none]) ?_ ?_
  · show sPar 9 10 (vFn m__law_bills [(vVar 5), (vVar 4)]) (vFn m__law_cheapest [(vVar 3), (vVar 5), (vVar 4)]) [none, some (.d (.list (D.map PyData.int))), some (.d (.int (n : Nat))), some (.d (rowT (pOf D n))), some (.d (rowT (bOf D n))), some (.d (ofsT O)), none, none, none, none, none, none, none, none, none, none] = _
    have e1 : vFn m__law_bills [(vVar 5), (vVar 4)] [none, some (.d (.list (D.map PyData.int))), some (.d (.int (n : Nat))), some (.d (rowT (pOf D n))), some (.d (rowT (bOf D n))), some (.d (ofsT O)), none, none, none, none, none, none, none, none, none, none] = .ok (.list ((billsS O (bOf D n)).map rowT)) := by
      simp only [EV, List.map_cons, List.map_nil, q2]
    have e2' : vFn m__law_cheapest [(vVar 3), (vVar 5), (vVar 4)] [none, some (.d (.list (D.map PyData.int))), some (.d (.int (n : Nat))), some (.d (rowT (pOf D n))), some (.d (rowT (bOf D n))), some (.d (ofsT O)), none, none, none, none, none, none, none, none, none, none] = .ok (prT (dueP (pOf D n) O (bOf D n))) := by
      simp only [EV, List.map_cons, List.map_nil, q3]
    unfold sPar flE
    simp only [evalAllD, e1, e2', Rz.bind_ok]
    rfl
  refine seq_go (m' := [none, some (.d (.list (D.map PyData.int))), some (.d (.int (n : Nat))), some (.d (rowT (pOf D n))), some (.d (rowT (bOf D n))), some (.d (ofsT O)), none, none, none, some (.d (.list ((billsS O (bOf D n)).map rowT))), some (.d (prT (dueP (pOf D n) O (bOf D n)))), none, none, none, none, none]) (ifF_nil ?_) ?_
  · rw [or_f]
    · simp only [EV, List.map_cons, List.map_nil, q1, prT_0]
      rw [decide_eq_false (by omega)]
    · simp only [EV, List.map_cons, List.map_nil, q4]
      have pl : (prT (dueP (pOf D n) O (bOf D n))).plain = true := by
        unfold prT
        simp [PyData.plain, PyData.plainAll, row_plain]
      rw [neSelf pl (Nat.le_trans (depth_pr _) (by decide))]
      rfl
  refine seq_go (m' := [none, none, none, some (.d (rowT (pOf D n))), some (.d (rowT (bOf D n))), some (.d (ofsT O)), none, none, none, none, some (.d (prT (dueP (pOf D n) O (bOf D n)))), none, none, none, none, none]) ?_ ?_
  · obtain ⟨m', e5, rfl⟩ := for_pre (s := gSet 7) (b := fb_law_7) (fun (i : Nat) => PyData.int (i : Nat)) (fun l m => m = [none, some (.d (.list (D.map PyData.int))), none, some (.d (rowT (pOf D n))), some (.d (rowT (bOf D n))), some (.d (ofsT O)), none, none, none, some (.d (.list ((billsS O (bOf D n)).map rowT))), some (.d (prT (dueP (pOf D n) O (bOf D n)))), none, none, none, none, none]) (List.range 5) rfl rfl fun l k r m hy hm => by
      subst hm
      have hk : k < 5 := List.mem_range.mp (by rw [hy]; simp)
      exact ⟨_, rfl, _, .inl (f7 hD hk hP pOf_len hB hO hl), rfl⟩
    exact cut_go (pre_go rfl (for_go (by rw [iArg_s]; exact rng_map (n := 5) (by decide)) e5)) rfl
  refine seq_go (m' := [none, none, none, none, none, none, none, none, none, none, none, none, none, none, none, none]) ?_ ?_
  · obtain ⟨m', e5, rfl⟩ := for_pre (s := gSet 6) (b := fb_law_8) (fun (i : Nat) => PyData.int (i : Nat)) (fun l m => m = [none, none, none, some (.d (rowT (pOf D n))), some (.d (rowT (bOf D n))), some (.d (ofsT O)), none, none, none, none, some (.d (prT (dueP (pOf D n) O (bOf D n)))), none, none, none, none, none]) (List.range O.length) rfl rfl fun l j r m hy hm => by
      subst hm
      obtain ⟨hj, rfl⟩ := range_split hy
      have eO : O = O.take l.length ++ O[l.length] :: O.drop (l.length + 1) := by
        rw [List.getElem_cons_drop, List.take_append_drop]
      have et : (O.take l.length).length = l.length := by rw [List.length_take]; omega
      have f := f8 (P := pOf D n) (B := bOf D n) (O1 := O.take l.length) (o := O[l.length]) (O2 := O.drop (l.length + 1)) hP pOf_len hB hf (by rw [← eO]; exact hO) (by rw [← eO]; exact hl)
      rw [← eO, et] at f
      exact ⟨_, rfl, _, .inl f, rfl⟩
    refine cut_go (pre_go rfl (for_go ?_ e5)) rfl
    simp only [EV, ofs_len]
    exact rng_map (by omega)
  refine ret_rt ?_
  exact m_law_refuses_ok
end
end Dl

set_option Elab.async false
set_option linter.all false
set_option maxRecDepth 100000
/-! the end, printed by gen.py -/
namespace Dl
open PySem PySem.Spec PyProof.Rows L2
set_option maxHeartbeats 8000000 in
theorem fx_of {K : PySem.W.Frag} {h : Heap} {mg : Str → Option Value} (X : K.In h) (G : h.Ns mainGlobals mg)
  {tk_MOST_BASKETS : Tok}
  {tk_MOST_COUNT : Tok}
  {tk_MOST_OFFERS : Tok}
  {tk_MOST_OFFER_PRICE : Tok}
  {tk_MOST_PRICE : Tok}
  {tk_MOST_THINGS : Tok}
  {f__law_draws : Addr} {oc__law_draws : Value} {od__law_draws an__law_draws : Option Addr} {sl__law_draws : Array (Option Value)} {kV__law_draws dc__law_draws pm__law_draws cd__law_draws ct__law_draws : Value}
  {f_is_whole : Addr} {oc_is_whole : Value} {od_is_whole an_is_whole : Option Addr} {sl_is_whole : Array (Option Value)} {kV_is_whole dc_is_whole pm_is_whole cd_is_whole ct_is_whole : Value}
  {f__check_prices : Addr} {oc__check_prices : Value} {od__check_prices an__check_prices : Option Addr} {sl__check_prices : Array (Option Value)} {kV__check_prices dc__check_prices pm__check_prices cd__check_prices ct__check_prices : Value}
  {f__are_counts : Addr} {oc__are_counts : Value} {od__are_counts an__are_counts : Option Addr} {sl__are_counts : Array (Option Value)} {kV__are_counts dc__are_counts pm__are_counts cd__are_counts ct__are_counts : Value}
  {f__check_basket : Addr} {oc__check_basket : Value} {od__check_basket an__check_basket : Option Addr} {sl__check_basket : Array (Option Value)} {kV__check_basket dc__check_basket pm__check_basket cd__check_basket ct__check_basket : Value}
  {f__plain : Addr} {oc__plain : Value} {od__plain an__plain : Option Addr} {sl__plain : Array (Option Value)} {kV__plain dc__plain pm__plain cd__plain ct__plain : Value}
  {f_plain_price : Addr} {oc_plain_price : Value} {od_plain_price an_plain_price : Option Addr} {sl_plain_price : Array (Option Value)} {kV_plain_price dc_plain_price pm_plain_price cd_plain_price ct_plain_price : Value}
  {f__law_left : Addr} {oc__law_left : Value} {od__law_left an__law_left : Option Addr} {sl__law_left : Array (Option Value)} {kV__law_left dc__law_left pm__law_left cd__law_left ct__law_left : Value}
  {f__law_bills : Addr} {oc__law_bills : Value} {od__law_bills an__law_bills : Option Addr} {sl__law_bills : Array (Option Value)} {kV__law_bills dc__law_bills pm__law_bills cd__law_bills ct__law_bills : Value}
  {f__law_price : Addr} {oc__law_price : Value} {od__law_price an__law_price : Option Addr} {sl__law_price : Array (Option Value)} {kV__law_price dc__law_price pm__law_price cd__law_price ct__law_price : Value}
  {f__law_cheapest : Addr} {oc__law_cheapest : Value} {od__law_cheapest an__law_cheapest : Option Addr} {sl__law_cheapest : Array (Option Value)} {kV__law_cheapest dc__law_cheapest pm__law_cheapest cd__law_cheapest ct__law_cheapest : Value}
  {f__is_offer : Addr} {oc__is_offer : Value} {od__is_offer an__is_offer : Option Addr} {sl__is_offer : Array (Option Value)} {kV__is_offer dc__is_offer pm__is_offer cd__is_offer ct__is_offer : Value}
  {f__check : Addr} {oc__check : Value} {od__check an__check : Option Addr} {sl__check : Array (Option Value)} {kV__check dc__check pm__check cd__check ct__check : Value}
  {f__check_few : Addr} {oc__check_few : Value} {od__check_few an__check_few : Option Addr} {sl__check_few : Array (Option Value)} {kV__check_few dc__check_few pm__check_few cd__check_few ct__check_few : Value}
  {f__best : Addr} {oc__best : Value} {od__best an__best : Option Addr} {sl__best : Array (Option Value)} {kV__best dc__best pm__best cd__best ct__best : Value}
  {f_cheapest : Addr} {oc_cheapest : Value} {od_cheapest an_cheapest : Option Addr} {sl_cheapest : Array (Option Value)} {kV_cheapest dc_cheapest pm_cheapest cd_cheapest ct_cheapest : Value}
  {f_is_integer : Addr} {oc_is_integer : Value} {od_is_integer an_is_integer : Option Addr} {sl_is_integer : Array (Option Value)} {kV_is_integer dc_is_integer pm_is_integer cd_is_integer ct_is_integer : Value}
  {f__left : Addr} {oc__left : Value} {od__left an__left : Option Addr} {sl__left : Array (Option Value)} {kV__left dc__left pm__left cd__left ct__left : Value}
  {f_bill_price : Addr} {oc_bill_price : Value} {od_bill_price an_bill_price : Option Addr} {sl_bill_price : Array (Option Value)} {kV_bill_price dc_bill_price pm_bill_price cd_bill_price ct_bill_price : Value}
  {f_worth : Addr} {oc_worth : Value} {od_worth an_worth : Option Addr} {sl_worth : Array (Option Value)} {kV_worth dc_worth pm_worth cd_worth ct_worth : Value}
  {f__law_told : Addr} {oc__law_told : Value} {od__law_told an__law_told : Option Addr} {sl__law_told : Array (Option Value)} {kV__law_told dc__law_told pm__law_told cd__law_told ct__law_told : Value}
  {f__law_refuses : Addr} {oc__law_refuses : Value} {od__law_refuses an__law_refuses : Option Addr} {sl__law_refuses : Array (Option Value)} {kV__law_refuses dc__law_refuses pm__law_refuses cd__law_refuses ct__law_refuses : Value}
  {f_law : Addr} {oc_law : Value} {od_law an_law : Option Addr} {sl_law : Array (Option Value)} {kV_law dc_law pm_law cd_law ct_law : Value}
  {C1 : Addr} {C2 : Addr} {C3 : Addr} {C4 : Addr} {C5 : Addr} {C6 : Addr}
  (z_abs : PySem.W.nsIn K mainGlobals "abs" = some none)
  (z_all : PySem.W.nsIn K mainGlobals "all" = some none)
  (z_bool : PySem.W.nsIn K mainGlobals "bool" = some none)
  (z_int : PySem.W.nsIn K mainGlobals "int" = some none)
  (z_isinstance : PySem.W.nsIn K mainGlobals "isinstance" = some none)
  (z_len : PySem.W.nsIn K mainGlobals "len" = some none)
  (z_list : PySem.W.nsIn K mainGlobals "list" = some none)
  (z_max : PySem.W.nsIn K mainGlobals "max" = some none)
  (z_min : PySem.W.nsIn K mainGlobals "min" = some none)
  (z_range : PySem.W.nsIn K mainGlobals "range" = some none)
  (z_sorted : PySem.W.nsIn K mainGlobals "sorted" = some none)
  (z_sum : PySem.W.nsIn K mainGlobals "sum" = some none)
  (z_tuple : PySem.W.nsIn K mainGlobals "tuple" = some none)
  (z_zip : PySem.W.nsIn K mainGlobals "zip" = some none)
  (v_MOST_BASKETS : PySem.W.nsIn K mainGlobals "MOST_BASKETS" = some (some (.int 3000 tk_MOST_BASKETS)))
  (v_MOST_COUNT : PySem.W.nsIn K mainGlobals "MOST_COUNT" = some (some (.int 9 tk_MOST_COUNT)))
  (v_MOST_OFFERS : PySem.W.nsIn K mainGlobals "MOST_OFFERS" = some (some (.int 6 tk_MOST_OFFERS)))
  (v_MOST_OFFER_PRICE : PySem.W.nsIn K mainGlobals "MOST_OFFER_PRICE" = some (some (.int 100000 tk_MOST_OFFER_PRICE)))
  (v_MOST_PRICE : PySem.W.nsIn K mainGlobals "MOST_PRICE" = some (some (.int 10000 tk_MOST_PRICE)))
  (v_MOST_THINGS : PySem.W.nsIn K mainGlobals "MOST_THINGS" = some (some (.int 6 tk_MOST_THINGS)))
  (a__law_draws : PySem.W.nsIn K mainGlobals "_law_draws" = some (some (.ref f__law_draws)))
  (l__law_draws : K.lookup f__law_draws = some ⟨oc__law_draws, od__law_draws, .func (PySem.W.fnOf "_law_draws" "_law_draws" (defArgs s__law_draws) (defBody s__law_draws) (defScope s__law_draws) .none kV__law_draws dc__law_draws pm__law_draws an__law_draws cd__law_draws ct__law_draws), sl__law_draws⟩)
  (c__law_draws : PySem.W.codeIn K cd__law_draws "_law_draws" = true) (k__law_draws : PySem.W.keepIn K (.ref f__law_draws) = true)
  (a_is_whole : PySem.W.nsIn K mainGlobals "is_whole" = some (some (.ref f_is_whole)))
  (l_is_whole : K.lookup f_is_whole = some ⟨oc_is_whole, od_is_whole, .func (PySem.W.fnOf "is_whole" "is_whole" (defArgs s_is_whole) (defBody s_is_whole) (defScope s_is_whole) .none kV_is_whole dc_is_whole pm_is_whole an_is_whole cd_is_whole ct_is_whole), sl_is_whole⟩)
  (c_is_whole : PySem.W.codeIn K cd_is_whole "is_whole" = true) (k_is_whole : PySem.W.keepIn K (.ref f_is_whole) = true)
  (a__check_prices : PySem.W.nsIn K mainGlobals "_check_prices" = some (some (.ref f__check_prices)))
  (l__check_prices : K.lookup f__check_prices = some ⟨oc__check_prices, od__check_prices, .func (PySem.W.fnOf "_check_prices" "_check_prices" (defArgs s__check_prices) (defBody s__check_prices) (defScope s__check_prices) .none kV__check_prices dc__check_prices pm__check_prices an__check_prices cd__check_prices ct__check_prices), sl__check_prices⟩)
  (c__check_prices : PySem.W.codeIn K cd__check_prices "_check_prices" = true) (k__check_prices : PySem.W.keepIn K (.ref f__check_prices) = true)
  (a__are_counts : PySem.W.nsIn K mainGlobals "_are_counts" = some (some (.ref f__are_counts)))
  (l__are_counts : K.lookup f__are_counts = some ⟨oc__are_counts, od__are_counts, .func (PySem.W.fnOf "_are_counts" "_are_counts" (defArgs s__are_counts) (defBody s__are_counts) (defScope s__are_counts) .none kV__are_counts dc__are_counts pm__are_counts an__are_counts cd__are_counts ct__are_counts), sl__are_counts⟩)
  (c__are_counts : PySem.W.codeIn K cd__are_counts "_are_counts" = true) (k__are_counts : PySem.W.keepIn K (.ref f__are_counts) = true)
  (a__check_basket : PySem.W.nsIn K mainGlobals "_check_basket" = some (some (.ref f__check_basket)))
  (l__check_basket : K.lookup f__check_basket = some ⟨oc__check_basket, od__check_basket, .func (PySem.W.fnOf "_check_basket" "_check_basket" (defArgs s__check_basket) (defBody s__check_basket) (defScope s__check_basket) .none kV__check_basket dc__check_basket pm__check_basket an__check_basket cd__check_basket ct__check_basket), sl__check_basket⟩)
  (c__check_basket : PySem.W.codeIn K cd__check_basket "_check_basket" = true) (k__check_basket : PySem.W.keepIn K (.ref f__check_basket) = true)
  (a__plain : PySem.W.nsIn K mainGlobals "_plain" = some (some (.ref f__plain)))
  (l__plain : K.lookup f__plain = some ⟨oc__plain, od__plain, .func (PySem.W.fnOf "_plain" "_plain" (defArgs s__plain) (defBody s__plain) (defScope s__plain) .none kV__plain dc__plain pm__plain an__plain cd__plain ct__plain), sl__plain⟩)
  (c__plain : PySem.W.codeIn K cd__plain "_plain" = true) (k__plain : PySem.W.keepIn K (.ref f__plain) = true)
  (a_plain_price : PySem.W.nsIn K mainGlobals "plain_price" = some (some (.ref f_plain_price)))
  (l_plain_price : K.lookup f_plain_price = some ⟨oc_plain_price, od_plain_price, .func (PySem.W.fnOf "plain_price" "plain_price" (defArgs s_plain_price) (defBody s_plain_price) (defScope s_plain_price) .none kV_plain_price dc_plain_price pm_plain_price an_plain_price cd_plain_price ct_plain_price), sl_plain_price⟩)
  (c_plain_price : PySem.W.codeIn K cd_plain_price "plain_price" = true) (k_plain_price : PySem.W.keepIn K (.ref f_plain_price) = true)
  (a__law_left : PySem.W.nsIn K mainGlobals "_law_left" = some (some (.ref f__law_left)))
  (l__law_left : K.lookup f__law_left = some ⟨oc__law_left, od__law_left, .func (PySem.W.fnOf "_law_left" "_law_left" (defArgs s__law_left) (defBody s__law_left) (defScope s__law_left) .none kV__law_left dc__law_left pm__law_left an__law_left cd__law_left ct__law_left), sl__law_left⟩)
  (c__law_left : PySem.W.codeIn K cd__law_left "_law_left" = true) (k__law_left : PySem.W.keepIn K (.ref f__law_left) = true)
  (a__law_bills : PySem.W.nsIn K mainGlobals "_law_bills" = some (some (.ref f__law_bills)))
  (l__law_bills : K.lookup f__law_bills = some ⟨oc__law_bills, od__law_bills, .func (PySem.W.fnOf "_law_bills" "_law_bills" (defArgs s__law_bills) (defBody s__law_bills) (defScope s__law_bills) .none kV__law_bills dc__law_bills pm__law_bills an__law_bills cd__law_bills ct__law_bills), sl__law_bills⟩)
  (c__law_bills : PySem.W.codeIn K cd__law_bills "_law_bills" = true) (k__law_bills : PySem.W.keepIn K (.ref f__law_bills) = true)
  (a__law_price : PySem.W.nsIn K mainGlobals "_law_price" = some (some (.ref f__law_price)))
  (l__law_price : K.lookup f__law_price = some ⟨oc__law_price, od__law_price, .func (PySem.W.fnOf "_law_price" "_law_price" (defArgs s__law_price) (defBody s__law_price) (defScope s__law_price) .none kV__law_price dc__law_price pm__law_price an__law_price cd__law_price ct__law_price), sl__law_price⟩)
  (c__law_price : PySem.W.codeIn K cd__law_price "_law_price" = true) (k__law_price : PySem.W.keepIn K (.ref f__law_price) = true)
  (a__law_cheapest : PySem.W.nsIn K mainGlobals "_law_cheapest" = some (some (.ref f__law_cheapest)))
  (l__law_cheapest : K.lookup f__law_cheapest = some ⟨oc__law_cheapest, od__law_cheapest, .func (PySem.W.fnOf "_law_cheapest" "_law_cheapest" (defArgs s__law_cheapest) (defBody s__law_cheapest) (defScope s__law_cheapest) .none kV__law_cheapest dc__law_cheapest pm__law_cheapest an__law_cheapest cd__law_cheapest ct__law_cheapest), sl__law_cheapest⟩)
  (c__law_cheapest : PySem.W.codeIn K cd__law_cheapest "_law_cheapest" = true) (k__law_cheapest : PySem.W.keepIn K (.ref f__law_cheapest) = true)
  (a__is_offer : PySem.W.nsIn K mainGlobals "_is_offer" = some (some (.ref f__is_offer)))
  (l__is_offer : K.lookup f__is_offer = some ⟨oc__is_offer, od__is_offer, .func (PySem.W.fnOf "_is_offer" "_is_offer" (defArgs s__is_offer) (defBody s__is_offer) (defScope s__is_offer) .none kV__is_offer dc__is_offer pm__is_offer an__is_offer cd__is_offer ct__is_offer), sl__is_offer⟩)
  (c__is_offer : PySem.W.codeIn K cd__is_offer "_is_offer" = true) (k__is_offer : PySem.W.keepIn K (.ref f__is_offer) = true)
  (a__check : PySem.W.nsIn K mainGlobals "_check" = some (some (.ref f__check)))
  (l__check : K.lookup f__check = some ⟨oc__check, od__check, .func (PySem.W.fnOf "_check" "_check" (defArgs s__check) (defBody s__check) (defScope s__check) .none kV__check dc__check pm__check an__check cd__check ct__check), sl__check⟩)
  (c__check : PySem.W.codeIn K cd__check "_check" = true) (k__check : PySem.W.keepIn K (.ref f__check) = true)
  (a__check_few : PySem.W.nsIn K mainGlobals "_check_few" = some (some (.ref f__check_few)))
  (l__check_few : K.lookup f__check_few = some ⟨oc__check_few, od__check_few, .func (PySem.W.fnOf "_check_few" "_check_few" (defArgs s__check_few) (defBody s__check_few) (defScope s__check_few) .none kV__check_few dc__check_few pm__check_few an__check_few cd__check_few ct__check_few), sl__check_few⟩)
  (c__check_few : PySem.W.codeIn K cd__check_few "_check_few" = true) (k__check_few : PySem.W.keepIn K (.ref f__check_few) = true)
  (a__best : PySem.W.nsIn K mainGlobals "_best" = some (some (.ref f__best)))
  (l__best : K.lookup f__best = some ⟨oc__best, od__best, .func (PySem.W.fnOf "_best" "_best" (defArgs s__best) (defBody s__best) (defScope s__best) .none kV__best dc__best pm__best an__best cd__best ct__best), sl__best⟩)
  (c__best : PySem.W.codeIn K cd__best "_best" = true) (k__best : PySem.W.keepIn K (.ref f__best) = true)
  (a_cheapest : PySem.W.nsIn K mainGlobals "cheapest" = some (some (.ref f_cheapest)))
  (l_cheapest : K.lookup f_cheapest = some ⟨oc_cheapest, od_cheapest, .func (PySem.W.fnOf "cheapest" "cheapest" (defArgs s_cheapest) (defBody s_cheapest) (defScope s_cheapest) .none kV_cheapest dc_cheapest pm_cheapest an_cheapest cd_cheapest ct_cheapest), sl_cheapest⟩)
  (c_cheapest : PySem.W.codeIn K cd_cheapest "cheapest" = true) (k_cheapest : PySem.W.keepIn K (.ref f_cheapest) = true)
  (a_is_integer : PySem.W.nsIn K mainGlobals "is_integer" = some (some (.ref f_is_integer)))
  (l_is_integer : K.lookup f_is_integer = some ⟨oc_is_integer, od_is_integer, .func (PySem.W.fnOf "is_integer" "is_integer" (defArgs s_is_integer) (defBody s_is_integer) (defScope s_is_integer) .none kV_is_integer dc_is_integer pm_is_integer an_is_integer cd_is_integer ct_is_integer), sl_is_integer⟩)
  (c_is_integer : PySem.W.codeIn K cd_is_integer "is_integer" = true) (k_is_integer : PySem.W.keepIn K (.ref f_is_integer) = true)
  (a__left : PySem.W.nsIn K mainGlobals "_left" = some (some (.ref f__left)))
  (l__left : K.lookup f__left = some ⟨oc__left, od__left, .func (PySem.W.fnOf "_left" "_left" (defArgs s__left) (defBody s__left) (defScope s__left) .none kV__left dc__left pm__left an__left cd__left ct__left), sl__left⟩)
  (c__left : PySem.W.codeIn K cd__left "_left" = true) (k__left : PySem.W.keepIn K (.ref f__left) = true)
  (a_bill_price : PySem.W.nsIn K mainGlobals "bill_price" = some (some (.ref f_bill_price)))
  (l_bill_price : K.lookup f_bill_price = some ⟨oc_bill_price, od_bill_price, .func (PySem.W.fnOf "bill_price" "bill_price" (defArgs s_bill_price) (defBody s_bill_price) (defScope s_bill_price) .none kV_bill_price dc_bill_price pm_bill_price an_bill_price cd_bill_price ct_bill_price), sl_bill_price⟩)
  (c_bill_price : PySem.W.codeIn K cd_bill_price "bill_price" = true) (k_bill_price : PySem.W.keepIn K (.ref f_bill_price) = true)
  (a_worth : PySem.W.nsIn K mainGlobals "worth" = some (some (.ref f_worth)))
  (l_worth : K.lookup f_worth = some ⟨oc_worth, od_worth, .func (PySem.W.fnOf "worth" "worth" (defArgs s_worth) (defBody s_worth) (defScope s_worth) .none kV_worth dc_worth pm_worth an_worth cd_worth ct_worth), sl_worth⟩)
  (c_worth : PySem.W.codeIn K cd_worth "worth" = true) (k_worth : PySem.W.keepIn K (.ref f_worth) = true)
  (a__law_told : PySem.W.nsIn K mainGlobals "_law_told" = some (some (.ref f__law_told)))
  (l__law_told : K.lookup f__law_told = some ⟨oc__law_told, od__law_told, .func (PySem.W.fnOf "_law_told" "_law_told" (defArgs s__law_told) (defBody s__law_told) (defScope s__law_told) .none kV__law_told dc__law_told pm__law_told an__law_told cd__law_told ct__law_told), sl__law_told⟩)
  (c__law_told : PySem.W.codeIn K cd__law_told "_law_told" = true) (k__law_told : PySem.W.keepIn K (.ref f__law_told) = true)
  (a__law_refuses : PySem.W.nsIn K mainGlobals "_law_refuses" = some (some (.ref f__law_refuses)))
  (l__law_refuses : K.lookup f__law_refuses = some ⟨oc__law_refuses, od__law_refuses, .func (PySem.W.fnOf "_law_refuses" "_law_refuses" (defArgs s__law_refuses) (defBody s__law_refuses) (defScope s__law_refuses) .none kV__law_refuses dc__law_refuses pm__law_refuses an__law_refuses cd__law_refuses ct__law_refuses), sl__law_refuses⟩)
  (c__law_refuses : PySem.W.codeIn K cd__law_refuses "_law_refuses" = true) (k__law_refuses : PySem.W.keepIn K (.ref f__law_refuses) = true)
  (a_law : PySem.W.nsIn K mainGlobals "law" = some (some (.ref f_law)))
  (l_law : K.lookup f_law = some ⟨oc_law, od_law, .func (PySem.W.fnOf "law" "law" (defArgs s_law) (defBody s_law) (defScope s_law) .none kV_law dc_law pm_law an_law cd_law ct_law), sl_law⟩)
  (c_law : PySem.W.codeIn K cd_law "law" = true) (k_law : PySem.W.keepIn K (.ref f_law) = true)
  (aC1 : PySem.W.nsIn K mainGlobals "TooMany" = some (some (.ref C1)))
  (bC1 : PySem.W.subIn K (.ref C1) (.type "BaseException") = some true) (tC1 : PySem.W.typeIn K (.ref C1) = some (.type "type"))
  (aC2 : PySem.W.nsIn K mainGlobals "BadNumber" = some (some (.ref C2)))
  (bC2 : PySem.W.subIn K (.ref C2) (.type "BaseException") = some true) (tC2 : PySem.W.typeIn K (.ref C2) = some (.type "type"))
  (aC3 : PySem.W.nsIn K mainGlobals "BadPrices" = some (some (.ref C3)))
  (bC3 : PySem.W.subIn K (.ref C3) (.type "BaseException") = some true) (tC3 : PySem.W.typeIn K (.ref C3) = some (.type "type"))
  (aC4 : PySem.W.nsIn K mainGlobals "BadBasket" = some (some (.ref C4)))
  (bC4 : PySem.W.subIn K (.ref C4) (.type "BaseException") = some true) (tC4 : PySem.W.typeIn K (.ref C4) = some (.type "type"))
  (aC5 : PySem.W.nsIn K mainGlobals "BadOffers" = some (some (.ref C5)))
  (bC5 : PySem.W.subIn K (.ref C5) (.type "BaseException") = some true) (tC5 : PySem.W.typeIn K (.ref C5) = some (.type "type"))
  (aC6 : PySem.W.nsIn K mainGlobals "BadBill" = some (some (.ref C6)))
  (bC6 : PySem.W.subIn K (.ref C6) (.type "BaseException") = some true) (tC6 : PySem.W.typeIn K (.ref C6) = some (.type "type"))
  (xC1 : PySem.W.excIn K C1 [.type "ValueError", .type "Exception", .type "BaseException", .type "object"] "ValueError.__new__" = true) (kC1 : PySem.W.keepIn K (.ref C1) = true)
  (xC2 : PySem.W.excIn K C2 [.type "ValueError", .type "Exception", .type "BaseException", .type "object"] "ValueError.__new__" = true) (kC2 : PySem.W.keepIn K (.ref C2) = true)
  (xC3 : PySem.W.excIn K C3 [.type "ValueError", .type "Exception", .type "BaseException", .type "object"] "ValueError.__new__" = true) (kC3 : PySem.W.keepIn K (.ref C3) = true)
  (xC4 : PySem.W.excIn K C4 [.type "ValueError", .type "Exception", .type "BaseException", .type "object"] "ValueError.__new__" = true) (kC4 : PySem.W.keepIn K (.ref C4) = true)
  (xC5 : PySem.W.excIn K C5 [.type "ValueError", .type "Exception", .type "BaseException", .type "object"] "ValueError.__new__" = true) (kC5 : PySem.W.keepIn K (.ref C5) = true)
  (xC6 : PySem.W.excIn K C6 [.type "ValueError", .type "Exception", .type "BaseException", .type "object"] "ValueError.__new__" = true) (kC6 : PySem.W.keepIn K (.ref C6) = true)
  (hC1 : PySem.W.hasDictIn K C1 = true)
  (s1_1 : PySem.W.subIn K (.ref C1) (.ref C1) = some true)
  (s2_1 : PySem.W.subIn K (.ref C2) (.ref C1) = some false)
  (s3_1 : PySem.W.subIn K (.ref C3) (.ref C1) = some false)
  (s4_1 : PySem.W.subIn K (.ref C4) (.ref C1) = some false)
  (s5_1 : PySem.W.subIn K (.ref C5) (.ref C1) = some false)
  (s6_1 : PySem.W.subIn K (.ref C6) (.ref C1) = some false)
  (hC2 : PySem.W.hasDictIn K C2 = true)
  (s1_2 : PySem.W.subIn K (.ref C1) (.ref C2) = some false)
  (s2_2 : PySem.W.subIn K (.ref C2) (.ref C2) = some true)
  (s3_2 : PySem.W.subIn K (.ref C3) (.ref C2) = some false)
  (s4_2 : PySem.W.subIn K (.ref C4) (.ref C2) = some false)
  (s5_2 : PySem.W.subIn K (.ref C5) (.ref C2) = some false)
  (s6_2 : PySem.W.subIn K (.ref C6) (.ref C2) = some false)
  (hC3 : PySem.W.hasDictIn K C3 = true)
  (s1_3 : PySem.W.subIn K (.ref C1) (.ref C3) = some false)
  (s2_3 : PySem.W.subIn K (.ref C2) (.ref C3) = some false)
  (s3_3 : PySem.W.subIn K (.ref C3) (.ref C3) = some true)
  (s4_3 : PySem.W.subIn K (.ref C4) (.ref C3) = some false)
  (s5_3 : PySem.W.subIn K (.ref C5) (.ref C3) = some false)
  (s6_3 : PySem.W.subIn K (.ref C6) (.ref C3) = some false)
  (hC4 : PySem.W.hasDictIn K C4 = true)
  (s1_4 : PySem.W.subIn K (.ref C1) (.ref C4) = some false)
  (s2_4 : PySem.W.subIn K (.ref C2) (.ref C4) = some false)
  (s3_4 : PySem.W.subIn K (.ref C3) (.ref C4) = some false)
  (s4_4 : PySem.W.subIn K (.ref C4) (.ref C4) = some true)
  (s5_4 : PySem.W.subIn K (.ref C5) (.ref C4) = some false)
  (s6_4 : PySem.W.subIn K (.ref C6) (.ref C4) = some false)
  (hC5 : PySem.W.hasDictIn K C5 = true)
  (s1_5 : PySem.W.subIn K (.ref C1) (.ref C5) = some false)
  (s2_5 : PySem.W.subIn K (.ref C2) (.ref C5) = some false)
  (s3_5 : PySem.W.subIn K (.ref C3) (.ref C5) = some false)
  (s4_5 : PySem.W.subIn K (.ref C4) (.ref C5) = some false)
  (s5_5 : PySem.W.subIn K (.ref C5) (.ref C5) = some true)
  (s6_5 : PySem.W.subIn K (.ref C6) (.ref C5) = some false)
  (hC6 : PySem.W.hasDictIn K C6 = true)
  (s1_6 : PySem.W.subIn K (.ref C1) (.ref C6) = some false)
  (s2_6 : PySem.W.subIn K (.ref C2) (.ref C6) = some false)
  (s3_6 : PySem.W.subIn K (.ref C3) (.ref C6) = some false)
  (s4_6 : PySem.W.subIn K (.ref C4) (.ref C6) = some false)
  (s5_6 : PySem.W.subIn K (.ref C5) (.ref C6) = some false)
  (s6_6 : PySem.W.subIn K (.ref C6) (.ref C6) = some true) : Fx K mg (ctL [C1, C1, C2, C3, C4, C5, C6]) where
  b_abs := PySem.W.mg_none_of X G z_abs
  b_all := PySem.W.mg_none_of X G z_all
  b_bool := PySem.W.mg_none_of X G z_bool
  b_int := PySem.W.mg_none_of X G z_int
  b_isinstance := PySem.W.mg_none_of X G z_isinstance
  b_len := PySem.W.mg_none_of X G z_len
  b_list := PySem.W.mg_none_of X G z_list
  b_max := PySem.W.mg_none_of X G z_max
  b_min := PySem.W.mg_none_of X G z_min
  b_range := PySem.W.mg_none_of X G z_range
  b_sorted := PySem.W.mg_none_of X G z_sorted
  b_sum := PySem.W.mg_none_of X G z_sum
  b_tuple := PySem.W.mg_none_of X G z_tuple
  b_zip := PySem.W.mg_none_of X G z_zip
  g_MOST_BASKETS := ⟨.int 3000, .int 3000 tk_MOST_BASKETS, PySem.W.mg_of X G v_MOST_BASKETS, ⟨tk_MOST_BASKETS, rfl⟩, fun _ _ => .int 3000⟩
  g_MOST_COUNT := ⟨.int 9, .int 9 tk_MOST_COUNT, PySem.W.mg_of X G v_MOST_COUNT, ⟨tk_MOST_COUNT, rfl⟩, fun _ _ => .int 9⟩
  g_MOST_OFFERS := ⟨.int 6, .int 6 tk_MOST_OFFERS, PySem.W.mg_of X G v_MOST_OFFERS, ⟨tk_MOST_OFFERS, rfl⟩, fun _ _ => .int 6⟩
  g_MOST_OFFER_PRICE := ⟨.int 100000, .int 100000 tk_MOST_OFFER_PRICE, PySem.W.mg_of X G v_MOST_OFFER_PRICE, ⟨tk_MOST_OFFER_PRICE, rfl⟩, fun _ _ => .int 100000⟩
  g_MOST_PRICE := ⟨.int 10000, .int 10000 tk_MOST_PRICE, PySem.W.mg_of X G v_MOST_PRICE, ⟨tk_MOST_PRICE, rfl⟩, fun _ _ => .int 10000⟩
  g_MOST_THINGS := ⟨.int 6, .int 6 tk_MOST_THINGS, PySem.W.mg_of X G v_MOST_THINGS, ⟨tk_MOST_THINGS, rfl⟩, fun _ _ => .int 6⟩
  d__law_draws := ⟨f__law_draws, _, fun_mk (st := s__law_draws) l__law_draws c__law_draws k__law_draws, PySem.W.mg_of X G a__law_draws, (fun_mk (st := s__law_draws) l__law_draws c__law_draws k__law_draws).binds (ps := ["script", "many"]) fun _ _ _ _ _ _ us hl => match us, hl with | [_, _], _ => rfl⟩
  d_is_whole := ⟨f_is_whole, _, fun_mk (st := s_is_whole) l_is_whole c_is_whole k_is_whole, PySem.W.mg_of X G a_is_whole, (fun_mk (st := s_is_whole) l_is_whole c_is_whole k_is_whole).binds (ps := ["value", "least", "most"]) fun _ _ _ _ _ _ us hl => match us, hl with | [_, _, _], _ => rfl⟩
  d__check_prices := ⟨f__check_prices, _, fun_mk (st := s__check_prices) l__check_prices c__check_prices k__check_prices, PySem.W.mg_of X G a__check_prices, (fun_mk (st := s__check_prices) l__check_prices c__check_prices k__check_prices).binds (ps := ["prices"]) fun _ _ _ _ _ _ us hl => match us, hl with | [_], _ => rfl⟩
  d__are_counts := ⟨f__are_counts, _, fun_mk (st := s__are_counts) l__are_counts c__are_counts k__are_counts, PySem.W.mg_of X G a__are_counts, (fun_mk (st := s__are_counts) l__are_counts c__are_counts k__are_counts).binds (ps := ["prices", "value"]) fun _ _ _ _ _ _ us hl => match us, hl with | [_, _], _ => rfl⟩
  d__check_basket := ⟨f__check_basket, _, fun_mk (st := s__check_basket) l__check_basket c__check_basket k__check_basket, PySem.W.mg_of X G a__check_basket, (fun_mk (st := s__check_basket) l__check_basket c__check_basket k__check_basket).binds (ps := ["prices", "basket"]) fun _ _ _ _ _ _ us hl => match us, hl with | [_, _], _ => rfl⟩
  d__plain := ⟨f__plain, _, fun_mk (st := s__plain) l__plain c__plain k__plain, PySem.W.mg_of X G a__plain, (fun_mk (st := s__plain) l__plain c__plain k__plain).binds (ps := ["prices", "basket"]) fun _ _ _ _ _ _ us hl => match us, hl with | [_, _], _ => rfl⟩
  d_plain_price := ⟨f_plain_price, _, fun_mk (st := s_plain_price) l_plain_price c_plain_price k_plain_price, PySem.W.mg_of X G a_plain_price, (fun_mk (st := s_plain_price) l_plain_price c_plain_price k_plain_price).binds (ps := ["prices", "basket"]) fun _ _ _ _ _ _ us hl => match us, hl with | [_, _], _ => rfl⟩
  d__law_left := ⟨f__law_left, _, fun_mk (st := s__law_left) l__law_left c__law_left k__law_left, PySem.W.mg_of X G a__law_left, (fun_mk (st := s__law_left) l__law_left c__law_left k__law_left).binds (ps := ["offers", "basket", "bill"]) fun _ _ _ _ _ _ us hl => match us, hl with | [_, _, _], _ => rfl⟩
  d__law_bills := ⟨f__law_bills, _, fun_mk (st := s__law_bills) l__law_bills c__law_bills k__law_bills, PySem.W.mg_of X G a__law_bills, (fun_mk (st := s__law_bills) l__law_bills c__law_bills k__law_bills).binds (ps := ["offers", "basket"]) fun _ _ _ _ _ _ us hl => match us, hl with | [_, _], _ => rfl⟩
  d__law_price := ⟨f__law_price, _, fun_mk (st := s__law_price) l__law_price c__law_price k__law_price, PySem.W.mg_of X G a__law_price, (fun_mk (st := s__law_price) l__law_price c__law_price k__law_price).binds (ps := ["prices", "offers", "basket", "bill"]) fun _ _ _ _ _ _ us hl => match us, hl with | [_, _, _, _], _ => rfl⟩
  d__law_cheapest := ⟨f__law_cheapest, _, fun_mk (st := s__law_cheapest) l__law_cheapest c__law_cheapest k__law_cheapest, PySem.W.mg_of X G a__law_cheapest, (fun_mk (st := s__law_cheapest) l__law_cheapest c__law_cheapest k__law_cheapest).binds (ps := ["prices", "offers", "basket"]) fun _ _ _ _ _ _ us hl => match us, hl with | [_, _, _], _ => rfl⟩
  d__is_offer := ⟨f__is_offer, _, fun_mk (st := s__is_offer) l__is_offer c__is_offer k__is_offer, PySem.W.mg_of X G a__is_offer, (fun_mk (st := s__is_offer) l__is_offer c__is_offer k__is_offer).binds (ps := ["prices", "value"]) fun _ _ _ _ _ _ us hl => match us, hl with | [_, _], _ => rfl⟩
  d__check := ⟨f__check, _, fun_mk (st := s__check) l__check c__check k__check, PySem.W.mg_of X G a__check, (fun_mk (st := s__check) l__check c__check k__check).binds (ps := ["prices", "offers", "basket"]) fun _ _ _ _ _ _ us hl => match us, hl with | [_, _, _], _ => rfl⟩
  d__check_few := ⟨f__check_few, _, fun_mk (st := s__check_few) l__check_few c__check_few k__check_few, PySem.W.mg_of X G a__check_few, (fun_mk (st := s__check_few) l__check_few c__check_few k__check_few).binds (ps := ["basket"]) fun _ _ _ _ _ _ us hl => match us, hl with | [_], _ => rfl⟩
  d__best := ⟨f__best, _, fun_mk (st := s__best) l__best c__best k__best, PySem.W.mg_of X G a__best, (fun_mk (st := s__best) l__best c__best k__best).binds (ps := ["prices", "offers", "basket"]) fun _ _ _ _ _ _ us hl => match us, hl with | [_, _, _], _ => rfl⟩
  d_cheapest := ⟨f_cheapest, _, fun_mk (st := s_cheapest) l_cheapest c_cheapest k_cheapest, PySem.W.mg_of X G a_cheapest, (fun_mk (st := s_cheapest) l_cheapest c_cheapest k_cheapest).binds (ps := ["prices", "offers", "basket"]) fun _ _ _ _ _ _ us hl => match us, hl with | [_, _, _], _ => rfl⟩
  d_is_integer := ⟨f_is_integer, _, fun_mk (st := s_is_integer) l_is_integer c_is_integer k_is_integer, PySem.W.mg_of X G a_is_integer, (fun_mk (st := s_is_integer) l_is_integer c_is_integer k_is_integer).binds (ps := ["value"]) fun _ _ _ _ _ _ us hl => match us, hl with | [_], _ => rfl⟩
  d__left := ⟨f__left, _, fun_mk (st := s__left) l__left c__left k__left, PySem.W.mg_of X G a__left, (fun_mk (st := s__left) l__left c__left k__left).binds (ps := ["offers", "basket", "bill"]) fun _ _ _ _ _ _ us hl => match us, hl with | [_, _, _], _ => rfl⟩
  d_bill_price := ⟨f_bill_price, _, fun_mk (st := s_bill_price) l_bill_price c_bill_price k_bill_price, PySem.W.mg_of X G a_bill_price, (fun_mk (st := s_bill_price) l_bill_price c_bill_price k_bill_price).binds (ps := ["prices", "offers", "basket", "bill"]) fun _ _ _ _ _ _ us hl => match us, hl with | [_, _, _, _], _ => rfl⟩
  d_worth := ⟨f_worth, _, fun_mk (st := s_worth) l_worth c_worth k_worth, PySem.W.mg_of X G a_worth, (fun_mk (st := s_worth) l_worth c_worth k_worth).binds (ps := ["prices", "offers", "number", "basket"]) fun _ _ _ _ _ _ us hl => match us, hl with | [_, _, _, _], _ => rfl⟩
  d__law_told := ⟨f__law_told, _, fun_mk (st := s__law_told) l__law_told c__law_told k__law_told, PySem.W.mg_of X G a__law_told, (fun_mk (st := s__law_told) l__law_told c__law_told k__law_told).binds (ps := ["call", "one", "two", "three", "four"]) fun _ _ _ _ _ _ us hl => match us, hl with | [_, _, _, _, _], _ => rfl⟩
  d__law_refuses := ⟨f__law_refuses, _, fun_mk (st := s__law_refuses) l__law_refuses c__law_refuses k__law_refuses, PySem.W.mg_of X G a__law_refuses, (fun_mk (st := s__law_refuses) l__law_refuses c__law_refuses k__law_refuses).binds (ps := []) fun _ _ _ _ _ _ us hl => match us, hl with | [], _ => rfl⟩
  d_law := ⟨f_law, _, fun_mk (st := s_law) l_law c_law k_law, PySem.W.mg_of X G a_law, (fun_mk (st := s_law) l_law c_law k_law).binds (ps := ["script"]) fun _ _ _ _ _ _ us hl => match us, hl with | [_], _ => rfl⟩
  x_TooMany := ⟨⟨C1, rfl, xC1, PySem.W.mg_of X G aC1, kC1, bC1, tC1⟩⟩
  x_BadNumber := ⟨⟨C2, rfl, xC2, PySem.W.mg_of X G aC2, kC2, bC2, tC2⟩⟩
  x_BadPrices := ⟨⟨C3, rfl, xC3, PySem.W.mg_of X G aC3, kC3, bC3, tC3⟩⟩
  x_BadBasket := ⟨⟨C4, rfl, xC4, PySem.W.mg_of X G aC4, kC4, bC4, tC4⟩⟩
  x_BadOffers := ⟨⟨C5, rfl, xC5, PySem.W.mg_of X G aC5, kC5, bC5, tC5⟩⟩
  x_BadBill := ⟨⟨C6, rfl, xC6, PySem.W.mg_of X G aC6, kC6, bC6, tC6⟩⟩
  n_BadBasket := PySem.W.mg_of X G aC4
  n_BadBill := PySem.W.mg_of X G aC6
  n_BadNumber := PySem.W.mg_of X G aC2
  n_BadOffers := PySem.W.mg_of X G aC5
  n_BadPrices := PySem.W.mg_of X G aC3
  n_TooMany := PySem.W.mg_of X G aC1
  p_TooMany := fun n b e => match n, e with | 0, e => by cases e | 1, e => by cases e; exact PySem.W.exm_ref bC1 hC1 tC1 s1_1 | 2, e => by cases e; exact PySem.W.exm_ref bC1 hC1 tC1 s2_1 | 3, e => by cases e; exact PySem.W.exm_ref bC1 hC1 tC1 s3_1 | 4, e => by cases e; exact PySem.W.exm_ref bC1 hC1 tC1 s4_1 | 5, e => by cases e; exact PySem.W.exm_ref bC1 hC1 tC1 s5_1 | 6, e => by cases e; exact PySem.W.exm_ref bC1 hC1 tC1 s6_1 | _ + 7, e => by cases e
  p_BadNumber := fun n b e => match n, e with | 0, e => by cases e | 1, e => by cases e; exact PySem.W.exm_ref bC2 hC2 tC2 s1_2 | 2, e => by cases e; exact PySem.W.exm_ref bC2 hC2 tC2 s2_2 | 3, e => by cases e; exact PySem.W.exm_ref bC2 hC2 tC2 s3_2 | 4, e => by cases e; exact PySem.W.exm_ref bC2 hC2 tC2 s4_2 | 5, e => by cases e; exact PySem.W.exm_ref bC2 hC2 tC2 s5_2 | 6, e => by cases e; exact PySem.W.exm_ref bC2 hC2 tC2 s6_2 | _ + 7, e => by cases e
  p_BadPrices := fun n b e => match n, e with | 0, e => by cases e | 1, e => by cases e; exact PySem.W.exm_ref bC3 hC3 tC3 s1_3 | 2, e => by cases e; exact PySem.W.exm_ref bC3 hC3 tC3 s2_3 | 3, e => by cases e; exact PySem.W.exm_ref bC3 hC3 tC3 s3_3 | 4, e => by cases e; exact PySem.W.exm_ref bC3 hC3 tC3 s4_3 | 5, e => by cases e; exact PySem.W.exm_ref bC3 hC3 tC3 s5_3 | 6, e => by cases e; exact PySem.W.exm_ref bC3 hC3 tC3 s6_3 | _ + 7, e => by cases e
  p_BadBasket := fun n b e => match n, e with | 0, e => by cases e | 1, e => by cases e; exact PySem.W.exm_ref bC4 hC4 tC4 s1_4 | 2, e => by cases e; exact PySem.W.exm_ref bC4 hC4 tC4 s2_4 | 3, e => by cases e; exact PySem.W.exm_ref bC4 hC4 tC4 s3_4 | 4, e => by cases e; exact PySem.W.exm_ref bC4 hC4 tC4 s4_4 | 5, e => by cases e; exact PySem.W.exm_ref bC4 hC4 tC4 s5_4 | 6, e => by cases e; exact PySem.W.exm_ref bC4 hC4 tC4 s6_4 | _ + 7, e => by cases e
  p_BadOffers := fun n b e => match n, e with | 0, e => by cases e | 1, e => by cases e; exact PySem.W.exm_ref bC5 hC5 tC5 s1_5 | 2, e => by cases e; exact PySem.W.exm_ref bC5 hC5 tC5 s2_5 | 3, e => by cases e; exact PySem.W.exm_ref bC5 hC5 tC5 s3_5 | 4, e => by cases e; exact PySem.W.exm_ref bC5 hC5 tC5 s4_5 | 5, e => by cases e; exact PySem.W.exm_ref bC5 hC5 tC5 s5_5 | 6, e => by cases e; exact PySem.W.exm_ref bC5 hC5 tC5 s6_5 | _ + 7, e => by cases e
  p_BadBill := fun n b e => match n, e with | 0, e => by cases e | 1, e => by cases e; exact PySem.W.exm_ref bC6 hC6 tC6 s1_6 | 2, e => by cases e; exact PySem.W.exm_ref bC6 hC6 tC6 s2_6 | 3, e => by cases e; exact PySem.W.exm_ref bC6 hC6 tC6 s3_6 | 4, e => by cases e; exact PySem.W.exm_ref bC6 hC6 tC6 s4_6 | 5, e => by cases e; exact PySem.W.exm_ref bC6 hC6 tC6 s5_6 | 6, e => by cases e; exact PySem.W.exm_ref bC6 hC6 tC6 s6_6 | _ + 7, e => by cases e
def spLaw (K : PySem.W.Frag) : Sp := fun vs H Q _ => ∃ (a : Addr) (ns : List Int), vs = [.ref a] ∧ ((∃ o, H a = some (.frz o (.lst (ns.map V.int)))) ∨ ∀ H, SqL K H a (ns.map V.int)) ∧ ns.length ≤ 63 ∧ ∀ H', Q (.bl true) H'
theorem law_imp {P : Program} {w : World} {K : PySem.W.Frag} {mg : Str → Option Value} {base : Heap} {ct : CT} {f : Addr} {fd : FuncData} (h : FnOk P w K mg base (L2.CX P w) 8 f fd ["script"] (spW ct K ["script"].length (fnW N_law.length b_law))) : FnOk P w K mg base (L2.CX P w) 8 f fd ["script"] (spLaw K) :=
  h.imp fun vs H Q E ⟨a, ns, e, hs, hl, q⟩ => by
    subst e
    refine ⟨fun _ => False, [some (.r ns)], rfl, fun _ z => z.elim, .so (f := []) (.r hs) .nil, ?_⟩
    have e : fnW N_law.length b_law [some (.r ns)] = .ok (.bool true) := m_law_ok ns hl
    rw [e]
    intro v H' Fz' _ _ _ r
    cases r
    exact q H'
set_option maxHeartbeats 8000000 in
theorem all_mk {P : Program} {w : World} {fa : Addr} {K : PySem.W.Frag} {h : Heap} {mg : Str → Option Value} (X : K.In h) (G : h.Ns mainGlobals mg)
  {tk_MOST_BASKETS : Tok}
  {tk_MOST_COUNT : Tok}
  {tk_MOST_OFFERS : Tok}
  {tk_MOST_OFFER_PRICE : Tok}
  {tk_MOST_PRICE : Tok}
  {tk_MOST_THINGS : Tok}
  {f__law_draws : Addr} {oc__law_draws : Value} {od__law_draws an__law_draws : Option Addr} {sl__law_draws : Array (Option Value)} {kV__law_draws dc__law_draws pm__law_draws cd__law_draws ct__law_draws : Value}
  {f_is_whole : Addr} {oc_is_whole : Value} {od_is_whole an_is_whole : Option Addr} {sl_is_whole : Array (Option Value)} {kV_is_whole dc_is_whole pm_is_whole cd_is_whole ct_is_whole : Value}
  {f__check_prices : Addr} {oc__check_prices : Value} {od__check_prices an__check_prices : Option Addr} {sl__check_prices : Array (Option Value)} {kV__check_prices dc__check_prices pm__check_prices cd__check_prices ct__check_prices : Value}
  {f__are_counts : Addr} {oc__are_counts : Value} {od__are_counts an__are_counts : Option Addr} {sl__are_counts : Array (Option Value)} {kV__are_counts dc__are_counts pm__are_counts cd__are_counts ct__are_counts : Value}
  {f__check_basket : Addr} {oc__check_basket : Value} {od__check_basket an__check_basket : Option Addr} {sl__check_basket : Array (Option Value)} {kV__check_basket dc__check_basket pm__check_basket cd__check_basket ct__check_basket : Value}
  {f__plain : Addr} {oc__plain : Value} {od__plain an__plain : Option Addr} {sl__plain : Array (Option Value)} {kV__plain dc__plain pm__plain cd__plain ct__plain : Value}
  {f_plain_price : Addr} {oc_plain_price : Value} {od_plain_price an_plain_price : Option Addr} {sl_plain_price : Array (Option Value)} {kV_plain_price dc_plain_price pm_plain_price cd_plain_price ct_plain_price : Value}
  {f__law_left : Addr} {oc__law_left : Value} {od__law_left an__law_left : Option Addr} {sl__law_left : Array (Option Value)} {kV__law_left dc__law_left pm__law_left cd__law_left ct__law_left : Value}
  {f__law_bills : Addr} {oc__law_bills : Value} {od__law_bills an__law_bills : Option Addr} {sl__law_bills : Array (Option Value)} {kV__law_bills dc__law_bills pm__law_bills cd__law_bills ct__law_bills : Value}
  {f__law_price : Addr} {oc__law_price : Value} {od__law_price an__law_price : Option Addr} {sl__law_price : Array (Option Value)} {kV__law_price dc__law_price pm__law_price cd__law_price ct__law_price : Value}
  {f__law_cheapest : Addr} {oc__law_cheapest : Value} {od__law_cheapest an__law_cheapest : Option Addr} {sl__law_cheapest : Array (Option Value)} {kV__law_cheapest dc__law_cheapest pm__law_cheapest cd__law_cheapest ct__law_cheapest : Value}
  {f__is_offer : Addr} {oc__is_offer : Value} {od__is_offer an__is_offer : Option Addr} {sl__is_offer : Array (Option Value)} {kV__is_offer dc__is_offer pm__is_offer cd__is_offer ct__is_offer : Value}
  {f__check : Addr} {oc__check : Value} {od__check an__check : Option Addr} {sl__check : Array (Option Value)} {kV__check dc__check pm__check cd__check ct__check : Value}
  {f__check_few : Addr} {oc__check_few : Value} {od__check_few an__check_few : Option Addr} {sl__check_few : Array (Option Value)} {kV__check_few dc__check_few pm__check_few cd__check_few ct__check_few : Value}
  {f__best : Addr} {oc__best : Value} {od__best an__best : Option Addr} {sl__best : Array (Option Value)} {kV__best dc__best pm__best cd__best ct__best : Value}
  {f_cheapest : Addr} {oc_cheapest : Value} {od_cheapest an_cheapest : Option Addr} {sl_cheapest : Array (Option Value)} {kV_cheapest dc_cheapest pm_cheapest cd_cheapest ct_cheapest : Value}
  {f_is_integer : Addr} {oc_is_integer : Value} {od_is_integer an_is_integer : Option Addr} {sl_is_integer : Array (Option Value)} {kV_is_integer dc_is_integer pm_is_integer cd_is_integer ct_is_integer : Value}
  {f__left : Addr} {oc__left : Value} {od__left an__left : Option Addr} {sl__left : Array (Option Value)} {kV__left dc__left pm__left cd__left ct__left : Value}
  {f_bill_price : Addr} {oc_bill_price : Value} {od_bill_price an_bill_price : Option Addr} {sl_bill_price : Array (Option Value)} {kV_bill_price dc_bill_price pm_bill_price cd_bill_price ct_bill_price : Value}
  {f_worth : Addr} {oc_worth : Value} {od_worth an_worth : Option Addr} {sl_worth : Array (Option Value)} {kV_worth dc_worth pm_worth cd_worth ct_worth : Value}
  {f__law_told : Addr} {oc__law_told : Value} {od__law_told an__law_told : Option Addr} {sl__law_told : Array (Option Value)} {kV__law_told dc__law_told pm__law_told cd__law_told ct__law_told : Value}
  {f__law_refuses : Addr} {oc__law_refuses : Value} {od__law_refuses an__law_refuses : Option Addr} {sl__law_refuses : Array (Option Value)} {kV__law_refuses dc__law_refuses pm__law_refuses cd__law_refuses ct__law_refuses : Value}
  {f_law : Addr} {oc_law : Value} {od_law an_law : Option Addr} {sl_law : Array (Option Value)} {kV_law dc_law pm_law cd_law ct_law : Value}
  {C1 : Addr} {C2 : Addr} {C3 : Addr} {C4 : Addr} {C5 : Addr} {C6 : Addr}
  (z_abs : PySem.W.nsIn K mainGlobals "abs" = some none)
  (z_all : PySem.W.nsIn K mainGlobals "all" = some none)
  (z_bool : PySem.W.nsIn K mainGlobals "bool" = some none)
  (z_int : PySem.W.nsIn K mainGlobals "int" = some none)
  (z_isinstance : PySem.W.nsIn K mainGlobals "isinstance" = some none)
  (z_len : PySem.W.nsIn K mainGlobals "len" = some none)
  (z_list : PySem.W.nsIn K mainGlobals "list" = some none)
  (z_max : PySem.W.nsIn K mainGlobals "max" = some none)
  (z_min : PySem.W.nsIn K mainGlobals "min" = some none)
  (z_range : PySem.W.nsIn K mainGlobals "range" = some none)
  (z_sorted : PySem.W.nsIn K mainGlobals "sorted" = some none)
  (z_sum : PySem.W.nsIn K mainGlobals "sum" = some none)
  (z_tuple : PySem.W.nsIn K mainGlobals "tuple" = some none)
  (z_zip : PySem.W.nsIn K mainGlobals "zip" = some none)
  (v_MOST_BASKETS : PySem.W.nsIn K mainGlobals "MOST_BASKETS" = some (some (.int 3000 tk_MOST_BASKETS)))
  (v_MOST_COUNT : PySem.W.nsIn K mainGlobals "MOST_COUNT" = some (some (.int 9 tk_MOST_COUNT)))
  (v_MOST_OFFERS : PySem.W.nsIn K mainGlobals "MOST_OFFERS" = some (some (.int 6 tk_MOST_OFFERS)))
  (v_MOST_OFFER_PRICE : PySem.W.nsIn K mainGlobals "MOST_OFFER_PRICE" = some (some (.int 100000 tk_MOST_OFFER_PRICE)))
  (v_MOST_PRICE : PySem.W.nsIn K mainGlobals "MOST_PRICE" = some (some (.int 10000 tk_MOST_PRICE)))
  (v_MOST_THINGS : PySem.W.nsIn K mainGlobals "MOST_THINGS" = some (some (.int 6 tk_MOST_THINGS)))
  (a__law_draws : PySem.W.nsIn K mainGlobals "_law_draws" = some (some (.ref f__law_draws)))
  (l__law_draws : K.lookup f__law_draws = some ⟨oc__law_draws, od__law_draws, .func (PySem.W.fnOf "_law_draws" "_law_draws" (defArgs s__law_draws) (defBody s__law_draws) (defScope s__law_draws) .none kV__law_draws dc__law_draws pm__law_draws an__law_draws cd__law_draws ct__law_draws), sl__law_draws⟩)
  (c__law_draws : PySem.W.codeIn K cd__law_draws "_law_draws" = true) (k__law_draws : PySem.W.keepIn K (.ref f__law_draws) = true)
  (a_is_whole : PySem.W.nsIn K mainGlobals "is_whole" = some (some (.ref f_is_whole)))
  (l_is_whole : K.lookup f_is_whole = some ⟨oc_is_whole, od_is_whole, .func (PySem.W.fnOf "is_whole" "is_whole" (defArgs s_is_whole) (defBody s_is_whole) (defScope s_is_whole) .none kV_is_whole dc_is_whole pm_is_whole an_is_whole cd_is_whole ct_is_whole), sl_is_whole⟩)
  (c_is_whole : PySem.W.codeIn K cd_is_whole "is_whole" = true) (k_is_whole : PySem.W.keepIn K (.ref f_is_whole) = true)
  (a__check_prices : PySem.W.nsIn K mainGlobals "_check_prices" = some (some (.ref f__check_prices)))
  (l__check_prices : K.lookup f__check_prices = some ⟨oc__check_prices, od__check_prices, .func (PySem.W.fnOf "_check_prices" "_check_prices" (defArgs s__check_prices) (defBody s__check_prices) (defScope s__check_prices) .none kV__check_prices dc__check_prices pm__check_prices an__check_prices cd__check_prices ct__check_prices), sl__check_prices⟩)
  (c__check_prices : PySem.W.codeIn K cd__check_prices "_check_prices" = true) (k__check_prices : PySem.W.keepIn K (.ref f__check_prices) = true)
  (a__are_counts : PySem.W.nsIn K mainGlobals "_are_counts" = some (some (.ref f__are_counts)))
  (l__are_counts : K.lookup f__are_counts = some ⟨oc__are_counts, od__are_counts, .func (PySem.W.fnOf "_are_counts" "_are_counts" (defArgs s__are_counts) (defBody s__are_counts) (defScope s__are_counts) .none kV__are_counts dc__are_counts pm__are_counts an__are_counts cd__are_counts ct__are_counts), sl__are_counts⟩)
  (c__are_counts : PySem.W.codeIn K cd__are_counts "_are_counts" = true) (k__are_counts : PySem.W.keepIn K (.ref f__are_counts) = true)
  (a__check_basket : PySem.W.nsIn K mainGlobals "_check_basket" = some (some (.ref f__check_basket)))
  (l__check_basket : K.lookup f__check_basket = some ⟨oc__check_basket, od__check_basket, .func (PySem.W.fnOf "_check_basket" "_check_basket" (defArgs s__check_basket) (defBody s__check_basket) (defScope s__check_basket) .none kV__check_basket dc__check_basket pm__check_basket an__check_basket cd__check_basket ct__check_basket), sl__check_basket⟩)
  (c__check_basket : PySem.W.codeIn K cd__check_basket "_check_basket" = true) (k__check_basket : PySem.W.keepIn K (.ref f__check_basket) = true)
  (a__plain : PySem.W.nsIn K mainGlobals "_plain" = some (some (.ref f__plain)))
  (l__plain : K.lookup f__plain = some ⟨oc__plain, od__plain, .func (PySem.W.fnOf "_plain" "_plain" (defArgs s__plain) (defBody s__plain) (defScope s__plain) .none kV__plain dc__plain pm__plain an__plain cd__plain ct__plain), sl__plain⟩)
  (c__plain : PySem.W.codeIn K cd__plain "_plain" = true) (k__plain : PySem.W.keepIn K (.ref f__plain) = true)
  (a_plain_price : PySem.W.nsIn K mainGlobals "plain_price" = some (some (.ref f_plain_price)))
  (l_plain_price : K.lookup f_plain_price = some ⟨oc_plain_price, od_plain_price, .func (PySem.W.fnOf "plain_price" "plain_price" (defArgs s_plain_price) (defBody s_plain_price) (defScope s_plain_price) .none kV_plain_price dc_plain_price pm_plain_price an_plain_price cd_plain_price ct_plain_price), sl_plain_price⟩)
  (c_plain_price : PySem.W.codeIn K cd_plain_price "plain_price" = true) (k_plain_price : PySem.W.keepIn K (.ref f_plain_price) = true)
  (a__law_left : PySem.W.nsIn K mainGlobals "_law_left" = some (some (.ref f__law_left)))
  (l__law_left : K.lookup f__law_left = some ⟨oc__law_left, od__law_left, .func (PySem.W.fnOf "_law_left" "_law_left" (defArgs s__law_left) (defBody s__law_left) (defScope s__law_left) .none kV__law_left dc__law_left pm__law_left an__law_left cd__law_left ct__law_left), sl__law_left⟩)
  (c__law_left : PySem.W.codeIn K cd__law_left "_law_left" = true) (k__law_left : PySem.W.keepIn K (.ref f__law_left) = true)
  (a__law_bills : PySem.W.nsIn K mainGlobals "_law_bills" = some (some (.ref f__law_bills)))
  (l__law_bills : K.lookup f__law_bills = some ⟨oc__law_bills, od__law_bills, .func (PySem.W.fnOf "_law_bills" "_law_bills" (defArgs s__law_bills) (defBody s__law_bills) (defScope s__law_bills) .none kV__law_bills dc__law_bills pm__law_bills an__law_bills cd__law_bills ct__law_bills), sl__law_bills⟩)
  (c__law_bills : PySem.W.codeIn K cd__law_bills "_law_bills" = true) (k__law_bills : PySem.W.keepIn K (.ref f__law_bills) = true)
  (a__law_price : PySem.W.nsIn K mainGlobals "_law_price" = some (some (.ref f__law_price)))
  (l__law_price : K.lookup f__law_price = some ⟨oc__law_price, od__law_price, .func (PySem.W.fnOf "_law_price" "_law_price" (defArgs s__law_price) (defBody s__law_price) (defScope s__law_price) .none kV__law_price dc__law_price pm__law_price an__law_price cd__law_price ct__law_price), sl__law_price⟩)
  (c__law_price : PySem.W.codeIn K cd__law_price "_law_price" = true) (k__law_price : PySem.W.keepIn K (.ref f__law_price) = true)
  (a__law_cheapest : PySem.W.nsIn K mainGlobals "_law_cheapest" = some (some (.ref f__law_cheapest)))
  (l__law_cheapest : K.lookup f__law_cheapest = some ⟨oc__law_cheapest, od__law_cheapest, .func (PySem.W.fnOf "_law_cheapest" "_law_cheapest" (defArgs s__law_cheapest) (defBody s__law_cheapest) (defScope s__law_cheapest) .none kV__law_cheapest dc__law_cheapest pm__law_cheapest an__law_cheapest cd__law_cheapest ct__law_cheapest), sl__law_cheapest⟩)
  (c__law_cheapest : PySem.W.codeIn K cd__law_cheapest "_law_cheapest" = true) (k__law_cheapest : PySem.W.keepIn K (.ref f__law_cheapest) = true)
  (a__is_offer : PySem.W.nsIn K mainGlobals "_is_offer" = some (some (.ref f__is_offer)))
  (l__is_offer : K.lookup f__is_offer = some ⟨oc__is_offer, od__is_offer, .func (PySem.W.fnOf "_is_offer" "_is_offer" (defArgs s__is_offer) (defBody s__is_offer) (defScope s__is_offer) .none kV__is_offer dc__is_offer pm__is_offer an__is_offer cd__is_offer ct__is_offer), sl__is_offer⟩)
  (c__is_offer : PySem.W.codeIn K cd__is_offer "_is_offer" = true) (k__is_offer : PySem.W.keepIn K (.ref f__is_offer) = true)
  (a__check : PySem.W.nsIn K mainGlobals "_check" = some (some (.ref f__check)))
  (l__check : K.lookup f__check = some ⟨oc__check, od__check, .func (PySem.W.fnOf "_check" "_check" (defArgs s__check) (defBody s__check) (defScope s__check) .none kV__check dc__check pm__check an__check cd__check ct__check), sl__check⟩)
  (c__check : PySem.W.codeIn K cd__check "_check" = true) (k__check : PySem.W.keepIn K (.ref f__check) = true)
  (a__check_few : PySem.W.nsIn K mainGlobals "_check_few" = some (some (.ref f__check_few)))
  (l__check_few : K.lookup f__check_few = some ⟨oc__check_few, od__check_few, .func (PySem.W.fnOf "_check_few" "_check_few" (defArgs s__check_few) (defBody s__check_few) (defScope s__check_few) .none kV__check_few dc__check_few pm__check_few an__check_few cd__check_few ct__check_few), sl__check_few⟩)
  (c__check_few : PySem.W.codeIn K cd__check_few "_check_few" = true) (k__check_few : PySem.W.keepIn K (.ref f__check_few) = true)
  (a__best : PySem.W.nsIn K mainGlobals "_best" = some (some (.ref f__best)))
  (l__best : K.lookup f__best = some ⟨oc__best, od__best, .func (PySem.W.fnOf "_best" "_best" (defArgs s__best) (defBody s__best) (defScope s__best) .none kV__best dc__best pm__best an__best cd__best ct__best), sl__best⟩)
  (c__best : PySem.W.codeIn K cd__best "_best" = true) (k__best : PySem.W.keepIn K (.ref f__best) = true)
  (a_cheapest : PySem.W.nsIn K mainGlobals "cheapest" = some (some (.ref f_cheapest)))
  (l_cheapest : K.lookup f_cheapest = some ⟨oc_cheapest, od_cheapest, .func (PySem.W.fnOf "cheapest" "cheapest" (defArgs s_cheapest) (defBody s_cheapest) (defScope s_cheapest) .none kV_cheapest dc_cheapest pm_cheapest an_cheapest cd_cheapest ct_cheapest), sl_cheapest⟩)
  (c_cheapest : PySem.W.codeIn K cd_cheapest "cheapest" = true) (k_cheapest : PySem.W.keepIn K (.ref f_cheapest) = true)
  (a_is_integer : PySem.W.nsIn K mainGlobals "is_integer" = some (some (.ref f_is_integer)))
  (l_is_integer : K.lookup f_is_integer = some ⟨oc_is_integer, od_is_integer, .func (PySem.W.fnOf "is_integer" "is_integer" (defArgs s_is_integer) (defBody s_is_integer) (defScope s_is_integer) .none kV_is_integer dc_is_integer pm_is_integer an_is_integer cd_is_integer ct_is_integer), sl_is_integer⟩)
  (c_is_integer : PySem.W.codeIn K cd_is_integer "is_integer" = true) (k_is_integer : PySem.W.keepIn K (.ref f_is_integer) = true)
  (a__left : PySem.W.nsIn K mainGlobals "_left" = some (some (.ref f__left)))
  (l__left : K.lookup f__left = some ⟨oc__left, od__left, .func (PySem.W.fnOf "_left" "_left" (defArgs s__left) (defBody s__left) (defScope s__left) .none kV__left dc__left pm__left an__left cd__left ct__left), sl__left⟩)
  (c__left : PySem.W.codeIn K cd__left "_left" = true) (k__left : PySem.W.keepIn K (.ref f__left) = true)
  (a_bill_price : PySem.W.nsIn K mainGlobals "bill_price" = some (some (.ref f_bill_price)))
  (l_bill_price : K.lookup f_bill_price = some ⟨oc_bill_price, od_bill_price, .func (PySem.W.fnOf "bill_price" "bill_price" (defArgs s_bill_price) (defBody s_bill_price) (defScope s_bill_price) .none kV_bill_price dc_bill_price pm_bill_price an_bill_price cd_bill_price ct_bill_price), sl_bill_price⟩)
  (c_bill_price : PySem.W.codeIn K cd_bill_price "bill_price" = true) (k_bill_price : PySem.W.keepIn K (.ref f_bill_price) = true)
  (a_worth : PySem.W.nsIn K mainGlobals "worth" = some (some (.ref f_worth)))
  (l_worth : K.lookup f_worth = some ⟨oc_worth, od_worth, .func (PySem.W.fnOf "worth" "worth" (defArgs s_worth) (defBody s_worth) (defScope s_worth) .none kV_worth dc_worth pm_worth an_worth cd_worth ct_worth), sl_worth⟩)
  (c_worth : PySem.W.codeIn K cd_worth "worth" = true) (k_worth : PySem.W.keepIn K (.ref f_worth) = true)
  (a__law_told : PySem.W.nsIn K mainGlobals "_law_told" = some (some (.ref f__law_told)))
  (l__law_told : K.lookup f__law_told = some ⟨oc__law_told, od__law_told, .func (PySem.W.fnOf "_law_told" "_law_told" (defArgs s__law_told) (defBody s__law_told) (defScope s__law_told) .none kV__law_told dc__law_told pm__law_told an__law_told cd__law_told ct__law_told), sl__law_told⟩)
  (c__law_told : PySem.W.codeIn K cd__law_told "_law_told" = true) (k__law_told : PySem.W.keepIn K (.ref f__law_told) = true)
  (a__law_refuses : PySem.W.nsIn K mainGlobals "_law_refuses" = some (some (.ref f__law_refuses)))
  (l__law_refuses : K.lookup f__law_refuses = some ⟨oc__law_refuses, od__law_refuses, .func (PySem.W.fnOf "_law_refuses" "_law_refuses" (defArgs s__law_refuses) (defBody s__law_refuses) (defScope s__law_refuses) .none kV__law_refuses dc__law_refuses pm__law_refuses an__law_refuses cd__law_refuses ct__law_refuses), sl__law_refuses⟩)
  (c__law_refuses : PySem.W.codeIn K cd__law_refuses "_law_refuses" = true) (k__law_refuses : PySem.W.keepIn K (.ref f__law_refuses) = true)
  (a_law : PySem.W.nsIn K mainGlobals "law" = some (some (.ref f_law)))
  (l_law : K.lookup f_law = some ⟨oc_law, od_law, .func (PySem.W.fnOf "law" "law" (defArgs s_law) (defBody s_law) (defScope s_law) .none kV_law dc_law pm_law an_law cd_law ct_law), sl_law⟩)
  (c_law : PySem.W.codeIn K cd_law "law" = true) (k_law : PySem.W.keepIn K (.ref f_law) = true)
  (aC1 : PySem.W.nsIn K mainGlobals "TooMany" = some (some (.ref C1)))
  (bC1 : PySem.W.subIn K (.ref C1) (.type "BaseException") = some true) (tC1 : PySem.W.typeIn K (.ref C1) = some (.type "type"))
  (aC2 : PySem.W.nsIn K mainGlobals "BadNumber" = some (some (.ref C2)))
  (bC2 : PySem.W.subIn K (.ref C2) (.type "BaseException") = some true) (tC2 : PySem.W.typeIn K (.ref C2) = some (.type "type"))
  (aC3 : PySem.W.nsIn K mainGlobals "BadPrices" = some (some (.ref C3)))
  (bC3 : PySem.W.subIn K (.ref C3) (.type "BaseException") = some true) (tC3 : PySem.W.typeIn K (.ref C3) = some (.type "type"))
  (aC4 : PySem.W.nsIn K mainGlobals "BadBasket" = some (some (.ref C4)))
  (bC4 : PySem.W.subIn K (.ref C4) (.type "BaseException") = some true) (tC4 : PySem.W.typeIn K (.ref C4) = some (.type "type"))
  (aC5 : PySem.W.nsIn K mainGlobals "BadOffers" = some (some (.ref C5)))
  (bC5 : PySem.W.subIn K (.ref C5) (.type "BaseException") = some true) (tC5 : PySem.W.typeIn K (.ref C5) = some (.type "type"))
  (aC6 : PySem.W.nsIn K mainGlobals "BadBill" = some (some (.ref C6)))
  (bC6 : PySem.W.subIn K (.ref C6) (.type "BaseException") = some true) (tC6 : PySem.W.typeIn K (.ref C6) = some (.type "type"))
  (xC1 : PySem.W.excIn K C1 [.type "ValueError", .type "Exception", .type "BaseException", .type "object"] "ValueError.__new__" = true) (kC1 : PySem.W.keepIn K (.ref C1) = true)
  (xC2 : PySem.W.excIn K C2 [.type "ValueError", .type "Exception", .type "BaseException", .type "object"] "ValueError.__new__" = true) (kC2 : PySem.W.keepIn K (.ref C2) = true)
  (xC3 : PySem.W.excIn K C3 [.type "ValueError", .type "Exception", .type "BaseException", .type "object"] "ValueError.__new__" = true) (kC3 : PySem.W.keepIn K (.ref C3) = true)
  (xC4 : PySem.W.excIn K C4 [.type "ValueError", .type "Exception", .type "BaseException", .type "object"] "ValueError.__new__" = true) (kC4 : PySem.W.keepIn K (.ref C4) = true)
  (xC5 : PySem.W.excIn K C5 [.type "ValueError", .type "Exception", .type "BaseException", .type "object"] "ValueError.__new__" = true) (kC5 : PySem.W.keepIn K (.ref C5) = true)
  (xC6 : PySem.W.excIn K C6 [.type "ValueError", .type "Exception", .type "BaseException", .type "object"] "ValueError.__new__" = true) (kC6 : PySem.W.keepIn K (.ref C6) = true)
  (hC1 : PySem.W.hasDictIn K C1 = true)
  (s1_1 : PySem.W.subIn K (.ref C1) (.ref C1) = some true)
  (s2_1 : PySem.W.subIn K (.ref C2) (.ref C1) = some false)
  (s3_1 : PySem.W.subIn K (.ref C3) (.ref C1) = some false)
  (s4_1 : PySem.W.subIn K (.ref C4) (.ref C1) = some false)
  (s5_1 : PySem.W.subIn K (.ref C5) (.ref C1) = some false)
  (s6_1 : PySem.W.subIn K (.ref C6) (.ref C1) = some false)
  (hC2 : PySem.W.hasDictIn K C2 = true)
  (s1_2 : PySem.W.subIn K (.ref C1) (.ref C2) = some false)
  (s2_2 : PySem.W.subIn K (.ref C2) (.ref C2) = some true)
  (s3_2 : PySem.W.subIn K (.ref C3) (.ref C2) = some false)
  (s4_2 : PySem.W.subIn K (.ref C4) (.ref C2) = some false)
  (s5_2 : PySem.W.subIn K (.ref C5) (.ref C2) = some false)
  (s6_2 : PySem.W.subIn K (.ref C6) (.ref C2) = some false)
  (hC3 : PySem.W.hasDictIn K C3 = true)
  (s1_3 : PySem.W.subIn K (.ref C1) (.ref C3) = some false)
  (s2_3 : PySem.W.subIn K (.ref C2) (.ref C3) = some false)
  (s3_3 : PySem.W.subIn K (.ref C3) (.ref C3) = some true)
  (s4_3 : PySem.W.subIn K (.ref C4) (.ref C3) = some false)
  (s5_3 : PySem.W.subIn K (.ref C5) (.ref C3) = some false)
  (s6_3 : PySem.W.subIn K (.ref C6) (.ref C3) = some false)
  (hC4 : PySem.W.hasDictIn K C4 = true)
  (s1_4 : PySem.W.subIn K (.ref C1) (.ref C4) = some false)
  (s2_4 : PySem.W.subIn K (.ref C2) (.ref C4) = some false)
  (s3_4 : PySem.W.subIn K (.ref C3) (.ref C4) = some false)
  (s4_4 : PySem.W.subIn K (.ref C4) (.ref C4) = some true)
  (s5_4 : PySem.W.subIn K (.ref C5) (.ref C4) = some false)
  (s6_4 : PySem.W.subIn K (.ref C6) (.ref C4) = some false)
  (hC5 : PySem.W.hasDictIn K C5 = true)
  (s1_5 : PySem.W.subIn K (.ref C1) (.ref C5) = some false)
  (s2_5 : PySem.W.subIn K (.ref C2) (.ref C5) = some false)
  (s3_5 : PySem.W.subIn K (.ref C3) (.ref C5) = some false)
  (s4_5 : PySem.W.subIn K (.ref C4) (.ref C5) = some false)
  (s5_5 : PySem.W.subIn K (.ref C5) (.ref C5) = some true)
  (s6_5 : PySem.W.subIn K (.ref C6) (.ref C5) = some false)
  (hC6 : PySem.W.hasDictIn K C6 = true)
  (s1_6 : PySem.W.subIn K (.ref C1) (.ref C6) = some false)
  (s2_6 : PySem.W.subIn K (.ref C2) (.ref C6) = some false)
  (s3_6 : PySem.W.subIn K (.ref C3) (.ref C6) = some false)
  (s4_6 : PySem.W.subIn K (.ref C4) (.ref C6) = some false)
  (s5_6 : PySem.W.subIn K (.ref C5) (.ref C6) = some false)
  (s6_6 : PySem.W.subIn K (.ref C6) (.ref C6) = some true) (hfa : mg "law" = some (.ref fa)) :
  ∃ fd : FuncData, (∀ (s : Shared) (v : Value), BindsTo s fd ⟨[v], []⟩ [("script", v)]) ∧ ∀ base : Heap, K.In base → base.Ns mainGlobals mg → FnOk P w K mg base (L2.CX P w) 8 fa fd ["script"] (spLaw K) := by
  have e := hfa.symm.trans (PySem.W.mg_of X G a_law)
  cases e
  have fx := fx_of X G (z_abs := z_abs) (z_all := z_all) (z_bool := z_bool) (z_int := z_int) (z_isinstance := z_isinstance) (z_len := z_len) (z_list := z_list) (z_max := z_max) (z_min := z_min) (z_range := z_range) (z_sorted := z_sorted) (z_sum := z_sum) (z_tuple := z_tuple) (z_zip := z_zip) (v_MOST_BASKETS := v_MOST_BASKETS) (v_MOST_COUNT := v_MOST_COUNT) (v_MOST_OFFERS := v_MOST_OFFERS) (v_MOST_OFFER_PRICE := v_MOST_OFFER_PRICE) (v_MOST_PRICE := v_MOST_PRICE) (v_MOST_THINGS := v_MOST_THINGS) (a__law_draws := a__law_draws) (l__law_draws := l__law_draws) (c__law_draws := c__law_draws) (k__law_draws := k__law_draws) (a_is_whole := a_is_whole) (l_is_whole := l_is_whole) (c_is_whole := c_is_whole) (k_is_whole := k_is_whole) (a__check_prices := a__check_prices) (l__check_prices := l__check_prices) (c__check_prices := c__check_prices) (k__check_prices := k__check_prices) (a__are_counts := a__are_counts) (l__are_counts := l__are_counts) (c__are_counts := c__are_counts) (k__are_counts := k__are_counts) (a__check_basket := a__check_basket) (l__check_basket := l__check_basket) (c__check_basket := c__check_basket) (k__check_basket := k__check_basket) (a__plain := a__plain) (l__plain := l__plain) (c__plain := c__plain) (k__plain := k__plain) (a_plain_price := a_plain_price) (l_plain_price := l_plain_price) (c_plain_price := c_plain_price) (k_plain_price := k_plain_price) (a__law_left := a__law_left) (l__law_left := l__law_left) (c__law_left := c__law_left) (k__law_left := k__law_left) (a__law_bills := a__law_bills) (l__law_bills := l__law_bills) (c__law_bills := c__law_bills) (k__law_bills := k__law_bills) (a__law_price := a__law_price) (l__law_price := l__law_price) (c__law_price := c__law_price) (k__law_price := k__law_price) (a__law_cheapest := a__law_cheapest) (l__law_cheapest := l__law_cheapest) (c__law_cheapest := c__law_cheapest) (k__law_cheapest := k__law_cheapest) (a__is_offer := a__is_offer) (l__is_offer := l__is_offer) (c__is_offer := c__is_offer) (k__is_offer := k__is_offer) (a__check := a__check) (l__check := l__check) (c__check := c__check) (k__check := k__check) (a__check_few := a__check_few) (l__check_few := l__check_few) (c__check_few := c__check_few) (k__check_few := k__check_few) (a__best := a__best) (l__best := l__best) (c__best := c__best) (k__best := k__best) (a_cheapest := a_cheapest) (l_cheapest := l_cheapest) (c_cheapest := c_cheapest) (k_cheapest := k_cheapest) (a_is_integer := a_is_integer) (l_is_integer := l_is_integer) (c_is_integer := c_is_integer) (k_is_integer := k_is_integer) (a__left := a__left) (l__left := l__left) (c__left := c__left) (k__left := k__left) (a_bill_price := a_bill_price) (l_bill_price := l_bill_price) (c_bill_price := c_bill_price) (k_bill_price := k_bill_price) (a_worth := a_worth) (l_worth := l_worth) (c_worth := c_worth) (k_worth := k_worth) (a__law_told := a__law_told) (l__law_told := l__law_told) (c__law_told := c__law_told) (k__law_told := k__law_told) (a__law_refuses := a__law_refuses) (l__law_refuses := l__law_refuses) (c__law_refuses := c__law_refuses) (k__law_refuses := k__law_refuses) (a_law := a_law) (l_law := l_law) (c_law := c_law) (k_law := k_law) (aC1 := aC1) (bC1 := bC1) (tC1 := tC1) (aC2 := aC2) (bC2 := bC2) (tC2 := tC2) (aC3 := aC3) (bC3 := bC3) (tC3 := tC3) (aC4 := aC4) (bC4 := bC4) (tC4 := tC4) (aC5 := aC5) (bC5 := bC5) (tC5 := tC5) (aC6 := aC6) (bC6 := bC6) (tC6 := tC6) (xC1 := xC1) (kC1 := kC1) (xC2 := xC2) (kC2 := kC2) (xC3 := xC3) (kC3 := kC3) (xC4 := xC4) (kC4 := kC4) (xC5 := xC5) (kC5 := kC5) (xC6 := xC6) (kC6 := kC6) (hC1 := hC1) (s1_1 := s1_1) (s2_1 := s2_1) (s3_1 := s3_1) (s4_1 := s4_1) (s5_1 := s5_1) (s6_1 := s6_1) (hC2 := hC2) (s1_2 := s1_2) (s2_2 := s2_2) (s3_2 := s3_2) (s4_2 := s4_2) (s5_2 := s5_2) (s6_2 := s6_2) (hC3 := hC3) (s1_3 := s1_3) (s2_3 := s2_3) (s3_3 := s3_3) (s4_3 := s4_3) (s5_3 := s5_3) (s6_3 := s6_3) (hC4 := hC4) (s1_4 := s1_4) (s2_4 := s2_4) (s3_4 := s3_4) (s4_4 := s4_4) (s5_4 := s5_4) (s6_4 := s6_4) (hC5 := hC5) (s1_5 := s1_5) (s2_5 := s2_5) (s3_5 := s3_5) (s4_5 := s4_5) (s5_5 := s5_5) (s6_5 := s6_5) (hC6 := hC6) (s1_6 := s1_6) (s2_6 := s2_6) (s3_6 := s3_6) (s4_6 := s4_6) (s5_6 := s5_6) (s6_6 := s6_6)
  exact ⟨_, fun s v => .of_eq rfl, fun base _ _ => law_imp (fn_law fx (fun_mk (st := s_law) l_law c_law k_law))⟩
theorem law_arg {K : PySem.W.Frag} {H : Hp} {a : Addr} {ns : List Int} (hl : ns.length ≤ 63) (hO : Only H) (hS : SqL K H a (ns.map V.int)) : spLaw K [.ref a] H (fun v _ => v = .bl true) fun _ _ _ => False := by
  refine ⟨a, ns, rfl, ?_, hl, fun _ => rfl⟩
  rcases hS with (h | h) | h
  · rcases hO a with z | ⟨o, xs, z⟩
    · rw [z] at h; cases h
    · rw [z] at h; cases h
  · exact .inl h
  · exact .inr fun _ => .inr h
theorem cx_none {P : Program} {w : World} {H : Hp} {s s1 : Shared} {e : Value} (h : L2.CX P w [] H s (fun _ _ _ => False) e s1) : False := by
  obtain ⟨_, _, _, _, _, _, _, _, _, _, _, _, z⟩ := h
  exact z.elim
theorem walk_law {l : PySem.W.OpenLaw} {k : Nat} {q : Program} {loose : List Str} {XP : (Str → Option Value) → Heap → Prop} {YP : World → Heap → Prop} {d : DefRec} {K : Params → PySem.W.Frag}
    (hn : l.most = some 63) (hd : d.params.defaults = []) (hr : Room k callerA) (hY : ∀ (w : World) (h : Heap), YP w h → (K w.params).In h)
    (F : ∀ (w : World) (mg : Str → Option Value) (fa : Addr) (h : Heap), (K w.params).In h → h.Ns mainGlobals mg → mg d.name = some (.ref fa) → ∃ fd : FuncData, (∀ (s : Shared) (v : Value), BindsTo s fd ⟨[v], []⟩ [("script", v)]) ∧
      ∀ base : Heap, (K w.params).In base → base.Ns mainGlobals mg → FnOk l.prog w (K w.params) mg base (L2.CX l.prog w) k fa fd ["script"] (spLaw (K w.params))) : PySem.W.WalkO q loose XP YP l.row.toRowW d [] (fun f vs => PySem.call f vs) :=
  L2.walk_of (K := K) (CX := fun w => L2.CX l.prog w) (sp := fun w => spLaw (K w.params)) hn (by rw [sizeLine_eq]; decide) hd hr hY F (fun w H a ns hl hO hS => law_arg hl hO hS) (fun w H s e s' h => cx_none h)
end Dl
set_option Elab.async false
set_option linter.all false
set_option maxRecDepth 100000
open PySem PySem.W PyProof.Rows
set_option maxHeartbeats 0 in
theorem PySem.Challenge.cw_bakewright_k80_whole_prices_holds : PySem.Challenge.rw_bakewright_k80_whole_prices.Holds := by
  w_on; o_law; k_head; (case hw => w_witness2)
  k_fill
  refine Dl.walk_law (l := PySem.Challenge.rw_bakewright_k80_whole_prices) (k := 8) rfl rfl ⟨rfl, by decide, by decide⟩ (fun w h Y => PySem.W.kIn_of Y) ?F
  case F =>
    intro w mg fa h KX G hmg
    refine' Dl.all_mk KX G (z_abs := ?z_abs) (z_all := ?z_all) (z_bool := ?z_bool) (z_int := ?z_int) (z_isinstance := ?z_isinstance) (z_len := ?z_len) (z_list := ?z_list) (z_max := ?z_max) (z_min := ?z_min) (z_range := ?z_range) (z_sorted := ?z_sorted) (z_sum := ?z_sum) (z_tuple := ?z_tuple) (z_zip := ?z_zip) (v_MOST_BASKETS := ?v_MOST_BASKETS) (v_MOST_COUNT := ?v_MOST_COUNT) (v_MOST_OFFERS := ?v_MOST_OFFERS) (v_MOST_OFFER_PRICE := ?v_MOST_OFFER_PRICE) (v_MOST_PRICE := ?v_MOST_PRICE) (v_MOST_THINGS := ?v_MOST_THINGS) (a__law_draws := ?a__law_draws) (l__law_draws := ?l__law_draws) (c__law_draws := ?c__law_draws) (k__law_draws := ?k__law_draws) (a_is_whole := ?a_is_whole) (l_is_whole := ?l_is_whole) (c_is_whole := ?c_is_whole) (k_is_whole := ?k_is_whole) (a__check_prices := ?a__check_prices) (l__check_prices := ?l__check_prices) (c__check_prices := ?c__check_prices) (k__check_prices := ?k__check_prices) (a__are_counts := ?a__are_counts) (l__are_counts := ?l__are_counts) (c__are_counts := ?c__are_counts) (k__are_counts := ?k__are_counts) (a__check_basket := ?a__check_basket) (l__check_basket := ?l__check_basket) (c__check_basket := ?c__check_basket) (k__check_basket := ?k__check_basket) (a__plain := ?a__plain) (l__plain := ?l__plain) (c__plain := ?c__plain) (k__plain := ?k__plain) (a_plain_price := ?a_plain_price) (l_plain_price := ?l_plain_price) (c_plain_price := ?c_plain_price) (k_plain_price := ?k_plain_price) (a__law_left := ?a__law_left) (l__law_left := ?l__law_left) (c__law_left := ?c__law_left) (k__law_left := ?k__law_left) (a__law_bills := ?a__law_bills) (l__law_bills := ?l__law_bills) (c__law_bills := ?c__law_bills) (k__law_bills := ?k__law_bills) (a__law_price := ?a__law_price) (l__law_price := ?l__law_price) (c__law_price := ?c__law_price) (k__law_price := ?k__law_price) (a__law_cheapest := ?a__law_cheapest) (l__law_cheapest := ?l__law_cheapest) (c__law_cheapest := ?c__law_cheapest) (k__law_cheapest := ?k__law_cheapest) (a__is_offer := ?a__is_offer) (l__is_offer := ?l__is_offer) (c__is_offer := ?c__is_offer) (k__is_offer := ?k__is_offer) (a__check := ?a__check) (l__check := ?l__check) (c__check := ?c__check) (k__check := ?k__check) (a__check_few := ?a__check_few) (l__check_few := ?l__check_few) (c__check_few := ?c__check_few) (k__check_few := ?k__check_few) (a__best := ?a__best) (l__best := ?l__best) (c__best := ?c__best) (k__best := ?k__best) (a_cheapest := ?a_cheapest) (l_cheapest := ?l_cheapest) (c_cheapest := ?c_cheapest) (k_cheapest := ?k_cheapest) (a_is_integer := ?a_is_integer) (l_is_integer := ?l_is_integer) (c_is_integer := ?c_is_integer) (k_is_integer := ?k_is_integer) (a__left := ?a__left) (l__left := ?l__left) (c__left := ?c__left) (k__left := ?k__left) (a_bill_price := ?a_bill_price) (l_bill_price := ?l_bill_price) (c_bill_price := ?c_bill_price) (k_bill_price := ?k_bill_price) (a_worth := ?a_worth) (l_worth := ?l_worth) (c_worth := ?c_worth) (k_worth := ?k_worth) (a__law_told := ?a__law_told) (l__law_told := ?l__law_told) (c__law_told := ?c__law_told) (k__law_told := ?k__law_told) (a__law_refuses := ?a__law_refuses) (l__law_refuses := ?l__law_refuses) (c__law_refuses := ?c__law_refuses) (k__law_refuses := ?k__law_refuses) (a_law := ?a_law) (l_law := ?l_law) (c_law := ?c_law) (k_law := ?k_law) (aC1 := ?aC1) (bC1 := ?bC1) (tC1 := ?tC1) (aC2 := ?aC2) (bC2 := ?bC2) (tC2 := ?tC2) (aC3 := ?aC3) (bC3 := ?bC3) (tC3 := ?tC3) (aC4 := ?aC4) (bC4 := ?bC4) (tC4 := ?tC4) (aC5 := ?aC5) (bC5 := ?bC5) (tC5 := ?tC5) (aC6 := ?aC6) (bC6 := ?bC6) (tC6 := ?tC6) (xC1 := ?xC1) (kC1 := ?kC1) (xC2 := ?xC2) (kC2 := ?kC2) (xC3 := ?xC3) (kC3 := ?kC3) (xC4 := ?xC4) (kC4 := ?kC4) (xC5 := ?xC5) (kC5 := ?kC5) (xC6 := ?xC6) (kC6 := ?kC6) (hC1 := ?hC1) (s1_1 := ?s1_1) (s2_1 := ?s2_1) (s3_1 := ?s3_1) (s4_1 := ?s4_1) (s5_1 := ?s5_1) (s6_1 := ?s6_1) (hC2 := ?hC2) (s1_2 := ?s1_2) (s2_2 := ?s2_2) (s3_2 := ?s3_2) (s4_2 := ?s4_2) (s5_2 := ?s5_2) (s6_2 := ?s6_2) (hC3 := ?hC3) (s1_3 := ?s1_3) (s2_3 := ?s2_3) (s3_3 := ?s3_3) (s4_3 := ?s4_3) (s5_3 := ?s5_3) (s6_3 := ?s6_3) (hC4 := ?hC4) (s1_4 := ?s1_4) (s2_4 := ?s2_4) (s3_4 := ?s3_4) (s4_4 := ?s4_4) (s5_4 := ?s5_4) (s6_4 := ?s6_4) (hC5 := ?hC5) (s1_5 := ?s1_5) (s2_5 := ?s2_5) (s3_5 := ?s3_5) (s4_5 := ?s4_5) (s5_5 := ?s5_5) (s6_5 := ?s6_5) (hC6 := ?hC6) (s1_6 := ?s1_6) (s2_6 := ?s2_6) (s3_6 := ?s3_6) (s4_6 := ?s4_6) (s5_6 := ?s5_6) (s6_6 := ?s6_6) (hfa := hmg)
    (case z_abs => k_is)
    (case z_all => k_is)
    (case z_bool => k_is)
    (case z_int => k_is)
    (case z_isinstance => k_is)
    (case z_len => k_is)
    (case z_list => k_is)
    (case z_max => k_is)
    (case z_min => k_is)
    (case z_range => k_is)
    (case z_sorted => k_is)
    (case z_sum => k_is)
    (case z_tuple => k_is)
    (case z_zip => k_is)
    (case v_MOST_BASKETS => k_is)
    (case v_MOST_COUNT => k_is)
    (case v_MOST_OFFERS => k_is)
    (case v_MOST_OFFER_PRICE => k_is)
    (case v_MOST_PRICE => k_is)
    (case v_MOST_THINGS => k_is)
    (case a__law_draws => k_is)
    (case l__law_draws => k_is)
    (case c__law_draws => k_is)
    (case k__law_draws => k_is)
    (case a_is_whole => k_is)
    (case l_is_whole => k_is)
    (case c_is_whole => k_is)
    (case k_is_whole => k_is)
    (case a__check_prices => k_is)
    (case l__check_prices => k_is)
    (case c__check_prices => k_is)
    (case k__check_prices => k_is)
    (case a__are_counts => k_is)
    (case l__are_counts => k_is)
    (case c__are_counts => k_is)
    (case k__are_counts => k_is)
    (case a__check_basket => k_is)
    (case l__check_basket => k_is)
    (case c__check_basket => k_is)
    (case k__check_basket => k_is)
    (case a__plain => k_is)
    (case l__plain => k_is)
    (case c__plain => k_is)
    (case k__plain => k_is)
    (case a_plain_price => k_is)
    (case l_plain_price => k_is)
    (case c_plain_price => k_is)
    (case k_plain_price => k_is)
    (case a__law_left => k_is)
    (case l__law_left => k_is)
    (case c__law_left => k_is)
    (case k__law_left => k_is)
    (case a__law_bills => k_is)
    (case l__law_bills => k_is)
    (case c__law_bills => k_is)
    (case k__law_bills => k_is)
    (case a__law_price => k_is)
    (case l__law_price => k_is)
    (case c__law_price => k_is)
    (case k__law_price => k_is)
    (case a__law_cheapest => k_is)
    (case l__law_cheapest => k_is)
    (case c__law_cheapest => k_is)
    (case k__law_cheapest => k_is)
    (case a__is_offer => k_is)
    (case l__is_offer => k_is)
    (case c__is_offer => k_is)
    (case k__is_offer => k_is)
    (case a__check => k_is)
    (case l__check => k_is)
    (case c__check => k_is)
    (case k__check => k_is)
    (case a__check_few => k_is)
    (case l__check_few => k_is)
    (case c__check_few => k_is)
    (case k__check_few => k_is)
    (case a__best => k_is)
    (case l__best => k_is)
    (case c__best => k_is)
    (case k__best => k_is)
    (case a_cheapest => k_is)
    (case l_cheapest => k_is)
    (case c_cheapest => k_is)
    (case k_cheapest => k_is)
    (case a_is_integer => k_is)
    (case l_is_integer => k_is)
    (case c_is_integer => k_is)
    (case k_is_integer => k_is)
    (case a__left => k_is)
    (case l__left => k_is)
    (case c__left => k_is)
    (case k__left => k_is)
    (case a_bill_price => k_is)
    (case l_bill_price => k_is)
    (case c_bill_price => k_is)
    (case k_bill_price => k_is)
    (case a_worth => k_is)
    (case l_worth => k_is)
    (case c_worth => k_is)
    (case k_worth => k_is)
    (case a__law_told => k_is)
    (case l__law_told => k_is)
    (case c__law_told => k_is)
    (case k__law_told => k_is)
    (case a__law_refuses => k_is)
    (case l__law_refuses => k_is)
    (case c__law_refuses => k_is)
    (case k__law_refuses => k_is)
    (case a_law => k_is)
    (case l_law => k_is)
    (case c_law => k_is)
    (case k_law => k_is)
    (case aC1 => k_is)
    (case bC1 => k_is)
    (case tC1 => k_is)
    (case aC2 => k_is)
    (case bC2 => k_is)
    (case tC2 => k_is)
    (case aC3 => k_is)
    (case bC3 => k_is)
    (case tC3 => k_is)
    (case aC4 => k_is)
    (case bC4 => k_is)
    (case tC4 => k_is)
    (case aC5 => k_is)
    (case bC5 => k_is)
    (case tC5 => k_is)
    (case aC6 => k_is)
    (case bC6 => k_is)
    (case tC6 => k_is)
    (case xC1 => k_exc)
    (case kC1 => k_is)
    (case xC2 => k_exc)
    (case kC2 => k_is)
    (case xC3 => k_exc)
    (case kC3 => k_is)
    (case xC4 => k_exc)
    (case kC4 => k_is)
    (case xC5 => k_exc)
    (case kC5 => k_is)
    (case xC6 => k_exc)
    (case kC6 => k_is)
    (case hC1 => k_is)
    (case s1_1 => k_is)
    (case s2_1 => k_is)
    (case s3_1 => k_is)
    (case s4_1 => k_is)
    (case s5_1 => k_is)
    (case s6_1 => k_is)
    (case hC2 => k_is)
    (case s1_2 => k_is)
    (case s2_2 => k_is)
    (case s3_2 => k_is)
    (case s4_2 => k_is)
    (case s5_2 => k_is)
    (case s6_2 => k_is)
    (case hC3 => k_is)
    (case s1_3 => k_is)
    (case s2_3 => k_is)
    (case s3_3 => k_is)
    (case s4_3 => k_is)
    (case s5_3 => k_is)
    (case s6_3 => k_is)
    (case hC4 => k_is)
    (case s1_4 => k_is)
    (case s2_4 => k_is)
    (case s3_4 => k_is)
    (case s4_4 => k_is)
    (case s5_4 => k_is)
    (case s6_4 => k_is)
    (case hC5 => k_is)
    (case s1_5 => k_is)
    (case s2_5 => k_is)
    (case s3_5 => k_is)
    (case s4_5 => k_is)
    (case s5_5 => k_is)
    (case s6_5 => k_is)
    (case hC6 => k_is)
    (case s1_6 => k_is)
    (case s2_6 => k_is)
    (case s3_6 => k_is)
    (case s4_6 => k_is)
    (case s5_6 => k_is)
    (case s6_6 => k_is)