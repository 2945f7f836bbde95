import PyProof.Rows.All
import HandS.ForMost
import HandS.ForExc
import HandS.TryOnly
import HandS.TryMany
import HandS.TupAny
import HandS.TupMul
import HandS.IsInst
import HandS.Conv
import HandS.Zip
import HandS.Deep
import HandS.Style
import HandS.Wide
import KE.DataEq
import KE.DataCmp
import KE.DataMinMax
import KE.SortData
import KE.KTupSum
import KE.GoesEnum
import HandS.ExcIs
import HandS.TupSets
import PySem.Challenge.RW_bakewright_k49_rules_of_boxes
import HandS.Ends
set_option Elab.async false
set_option linter.all false
set_option maxRecDepth 100000
/-! D1: data states. A def's slots as data, its own lists, and how they lie in the abstract heap. -/
namespace Dl
open PySem PySem.Spec L2

/-- a result: stuck (nothing is said), a value, an exception of the c-th class -/
inductive Rz (α : Type) where
  | st | ok (a : α) | ex (c : Nat)
namespace Rz
def bind {α β : Type} (x : Rz α) (f : α → Rz β) : Rz β := match x with
  | st => st
  | ok a => f a
  | ex c => ex c
def map {α β : Type} (f : α → β) (x : Rz α) : Rz β := x.bind fun a => ok (f a)
@[simp] theorem bind_ok {α β : Type} (a : α) (f : α → Rz β) : (ok a).bind f = f a := rfl
@[simp] theorem bind_st {α β : Type} (f : α → Rz β) : (st : Rz α).bind f = st := rfl
@[simp] theorem bind_ex {α β : Type} (c : Nat) (f : α → Rz β) : (ex c : Rz α).bind f = ex c := rfl
@[simp] theorem map_ok {α β : Type} (a : α) (f : α → β) : (ok a).map f = ok (f a) := rfl
@[simp] theorem map_st {α β : Type} (f : α → β) : (st : Rz α).map f = st := rfl
@[simp] theorem map_ex {α β : Type} (c : Nat) (f : α → β) : (ex c : Rz α).map f = ex c := rfl
end Rz

/-- what a slot holds: data that nobody changes; a list of its own; the law's script, only read -/
inductive W where
  | d (x : PyData)
  | l (xs : List PyData)
  | r (ns : List Int)
/-- the same as data -/
def W.dat : W → PyData
  | .d x => x
  | .l xs => .list xs
  | .r ns => .list (ns.map .int)
@[simp] theorem W.dat_d (x : PyData) : W.dat (.d x) = x := rfl
@[simp] theorem W.dat_l (xs : List PyData) : W.dat (.l xs) = .list xs := rfl
abbrev Ms := List (Option W)

/-! the value v is the data x; Fz: the lists that nobody changes any more -/
mutual
inductive Rp (K : PySem.W.Frag) (Fz : Addr → Prop) (H : Hp) : V → PyData → Prop
  | non : Rp K Fz H .non .none
  | bl (b : Bool) : Rp K Fz H (.bl b) (.bool b)
  | int (i : Int) : Rp K Fz H (.int i) (.int i)
  | str (x : Str) : Rp K Fz H (.str x) (.str x)
  | lst {a : Addr} {xs : List V} {ds : List PyData} : Fz a → H a = some (.lst xs) → RpAll K Fz H xs ds → Rp K Fz H (.ref a) (.list ds)
  | tup {a : Addr} {xs : List V} {ds : List PyData} : SqT K H a xs → RpAll K Fz H xs ds → Rp K Fz H (.ref a) (.tuple ds)
inductive RpAll (K : PySem.W.Frag) (Fz : Addr → Prop) (H : Hp) : List V → List PyData → Prop
  | nil : RpAll K Fz H [] []
  | cons {v : V} {vs : List V} {d : PyData} {ds : List PyData} : Rp K Fz H v d → RpAll K Fz H vs ds → RpAll K Fz H (v :: vs) (d :: ds)
end
def isT : HO → Prop
  | .tup _ => True
  | .frz _ _ => True
  | _ => False
/-- what was frozen stays so, and stands -/
structure Le (Fz : Addr → Prop) (H : Hp) (Fz' : Addr → Prop) (H' : Hp) : Prop where
  fz : ∀ a, Fz a → Fz' a
  hp : ∀ a o, H a = some o → (Fz a ∨ isT o) → H' a = some o
theorem Le.refl {Fz : Addr → Prop} {H : Hp} : Le Fz H Fz H := ⟨fun _ h => h, fun _ _ h _ => h⟩
theorem Le.trans {F1 F2 F3 : Addr → Prop} {H1 H2 H3 : Hp} (a : Le F1 H1 F2 H2) (b : Le F2 H2 F3 H3) : Le F1 H1 F3 H3 :=
  ⟨fun x h => b.fz x (a.fz x h), fun x o h k => b.hp x o (a.hp x o h k) (k.imp (a.fz x) id)⟩
section
variable {K : PySem.W.Frag} {Fz Fz' : Addr → Prop} {H H' : Hp}
theorem sqT_le (l : Le Fz H Fz' H') {a : Addr} {xs : List V} (h : SqT K H a xs) : SqT K H' a xs := by
  rcases h with (h | ⟨o, h⟩) | h
  · exact .inl (.inl (l.hp _ _ h (.inr trivial)))
  · exact .inl (.inr ⟨o, l.hp _ _ h (.inr trivial)⟩)
  · exact .inr h
theorem sqL_le (l : Le Fz H Fz' H') {a : Addr} {xs : List V} (f : Fz a) (h : SqL K H a xs) : SqL K H' a xs := by
  rcases h with (h | ⟨o, h⟩) | h
  · exact .inl (.inl (l.hp _ _ h (.inl f)))
  · exact .inl (.inr ⟨o, l.hp _ _ h (.inr trivial)⟩)
  · exact .inr h
mutual
theorem Rp.mono (l : Le Fz H Fz' H') : ∀ {d : PyData} {v : V}, Rp K Fz H v d → Rp K Fz' H' v d
  | _, _, .non => .non
  | _, _, .bl b => .bl b
  | _, _, .int i => .int i
  | _, _, .str x => .str x
  | _, _, .lst f s r => .lst (l.fz _ f) (l.hp _ _ s (.inl f)) (RpAll.mono l r)
  | _, _, .tup s r => .tup (sqT_le l s) (RpAll.mono l r)
theorem RpAll.mono (l : Le Fz H Fz' H') : ∀ {ds : List PyData} {vs : List V}, RpAll K Fz H vs ds → RpAll K Fz' H' vs ds
  | _, _, .nil => .nil
  | _, _, .cons r rs => .cons (Rp.mono l r) (RpAll.mono l rs)
end
theorem RpAll.length : ∀ {vs : List V} {ds : List PyData}, RpAll K Fz H vs ds → vs.length = ds.length
  | _, _, .nil => rfl
  | _, _, .cons _ r => by rw [List.length_cons, List.length_cons, RpAll.length r]
theorem RpAll.append : ∀ {vs us : List V} {ds es : List PyData}, RpAll K Fz H vs ds → RpAll K Fz H us es → RpAll K Fz H (vs ++ us) (ds ++ es)
  | _, _, _, _, .nil, s => s
  | _, _, _, _, .cons r t, s => .cons r (RpAll.append t s)
theorem RpAll.get : ∀ {vs : List V} {ds : List PyData} {i : Nat} {v : V}, RpAll K Fz H vs ds → vs[i]? = some v → ∃ d, ds[i]? = some d ∧ Rp K Fz H v d
  | _, _, _, _, .nil, e => by simp at e
  | _, _, 0, _, .cons r _, e => by simp at e; subst e; exact ⟨_, rfl, r⟩
  | _, _, i + 1, _, .cons _ t, e => by
    obtain ⟨d, h1, h2⟩ := RpAll.get (i := i) t (by simpa using e)
    exact ⟨d, by simpa using h1, h2⟩
theorem RpAll.get' : ∀ {vs : List V} {ds : List PyData} {i : Nat} {d : PyData}, RpAll K Fz H vs ds → ds[i]? = some d → ∃ v, vs[i]? = some v ∧ Rp K Fz H v d
  | _, _, _, _, .nil, e => by simp at e
  | _, _, 0, _, .cons r _, e => by simp at e; subst e; exact ⟨_, rfl, r⟩
  | _, _, i + 1, _, .cons _ t, e => by
    obtain ⟨d, h1, h2⟩ := RpAll.get' (i := i) t (by simpa using e)
    exact ⟨d, by simpa using h1, h2⟩
theorem RpAll.set {v : V} {d : PyData} (r : Rp K Fz H v d) : ∀ {vs : List V} {ds : List PyData} (i : Nat), RpAll K Fz H vs ds → RpAll K Fz H (vs.set i v) (ds.set i d)
  | _, _, _, .nil => .nil
  | _, _, 0, .cons _ t => .cons r t
  | _, _, i + 1, .cons q t => .cons q (RpAll.set r i t)
theorem RpAll.take : ∀ {vs : List V} {ds : List PyData} (n : Nat), RpAll K Fz H vs ds → RpAll K Fz H (vs.take n) (ds.take n)
  | _, _, 0, _ => .nil
  | _, _, _ + 1, .nil => .nil
  | _, _, n + 1, .cons r t => .cons r (RpAll.take n t)
theorem RpAll.drop : ∀ {vs : List V} {ds : List PyData} (n : Nat), RpAll K Fz H vs ds → RpAll K Fz H (vs.drop n) (ds.drop n)
  | _, _, 0, r => r
  | _, _, _ + 1, .nil => .nil
  | _, _, n + 1, .cons _ t => RpAll.drop n t
theorem RpAll.reverse : ∀ {vs : List V} {ds : List PyData}, RpAll K Fz H vs ds → RpAll K Fz H vs.reverse ds.reverse
  | _, _, .nil => .nil
  | _, _, .cons r t => by
    rw [List.reverse_cons, List.reverse_cons]
    exact RpAll.append (RpAll.reverse t) (.cons r .nil)
theorem RpAll.rep {vs : List V} {ds : List PyData} (r : RpAll K Fz H vs ds) : ∀ k : Nat, RpAll K Fz H (List.replicate k vs).flatten (List.replicate k ds).flatten
  | 0 => .nil
  | k + 1 => by
    rw [List.replicate_succ, List.replicate_succ, List.flatten_cons, List.flatten_cons]
    exact r.append (RpAll.rep r k)
theorem RpAll.ints : ∀ {vs : List V} {ns : List Int}, RpAll K Fz H vs (ns.map .int) → vs = ns.map V.int
  | _, [], .nil => rfl
  | _, n :: ns, .cons r t => by
    cases r
    rw [RpAll.ints t]
    rfl
theorem RpAll.of_ints : ∀ ns : List Int, RpAll K Fz H (ns.map V.int) (ns.map .int)
  | [] => .nil
  | n :: ns => .cons (.int n) (RpAll.of_ints ns)
theorem RpAll.bools : ∀ {vs : List V} {bs : List Bool}, RpAll K Fz H vs (bs.map .bool) → vs = bs.map V.bl
  | _, [], .nil => rfl
  | _, n :: ns, .cons r t => by
    cases r
    rw [RpAll.bools t]
    rfl
/-- read as the layer's own data -/
theorem Rp.dp : ∀ {d : PyData} {v : V}, Rp K Fz H v d → Dp K H v d := fun {d v} h =>
  Rp.rec (motive_1 := fun v d _ => Dp K H v d) (motive_2 := fun vs ds _ => DpAll K H vs ds)
    .non (fun b => .bl b) (fun i => .int i) (fun x => .str x) (fun _ s _ r => .lst (.inl (.inl s)) r) (fun s _ r => .tup s r) .nil (fun _ _ r rs => .cons r rs) h
theorem RpAll.dp : ∀ {ds : List PyData} {vs : List V}, RpAll K Fz H vs ds → DpAll K H vs ds
  | _, _, .nil => .nil
  | _, _, .cons r rs => .cons r.dp (RpAll.dp rs)
mutual
/-- no dict in it -/
theorem Rp.plain : ∀ {d : PyData} {v : V}, Rp K Fz H v d → d.plain = true
  | _, _, .non => by simp [PyData.plain]
  | _, _, .bl _ => by simp [PyData.plain]
  | _, _, .int _ => by simp [PyData.plain]
  | _, _, .str _ => by simp [PyData.plain]
  | _, _, .lst _ _ r => by simp only [PyData.plain]; exact RpAll.plain r
  | _, _, .tup _ r => by simp only [PyData.plain]; exact RpAll.plain r
theorem RpAll.plain : ∀ {ds : List PyData} {vs : List V}, RpAll K Fz H vs ds → PyData.plainAll ds = true
  | _, _, .nil => by simp [PyData.plainAll]
  | _, _, .cons r rs => by simp only [PyData.plainAll, Rp.plain r, RpAll.plain rs, Bool.and_self]
end
end

/-- what a slot's value is, with the addresses that it owns -/
inductive RW (K : PySem.W.Frag) (Fz : Addr → Prop) (H : Hp) : V → W → List Addr → Prop
  | d {v : V} {x : PyData} : Rp K Fz H v x → RW K Fz H v (.d x) []
  | l {a : Addr} {vs : List V} {xs : List PyData} : H a = some (.lst vs) → RpAll K Fz H vs xs → RW K Fz H (.ref a) (.l xs) [a]
  | r {a : Addr} {ns : List Int} : ((∃ o, H a = some (.frz o (.lst (ns.map V.int)))) ∨ ∀ H, SqL K H a (ns.map V.int)) → RW K Fz H (.ref a) (.r ns) []
/-- all slots -/
inductive RL (K : PySem.W.Frag) (Fz : Addr → Prop) (H : Hp) : L2.St → Ms → List Addr → Prop
  | nil : RL K Fz H [] [] []
  | no {x : Option V} {σ : L2.St} {m : Ms} {fp : List Addr} : RL K Fz H σ m fp → RL K Fz H (x :: σ) (none :: m) fp
  | so {v : V} {w : W} {f : List Addr} {σ : L2.St} {m : Ms} {fp : List Addr} : RW K Fz H v w f → RL K Fz H σ m fp → RL K Fz H (some v :: σ) (some w :: m) (f ++ fp)
/-- the state: B is what stood ahead and stands -/
structure RsF (K : PySem.W.Frag) (B : Hp) (Fz : Addr → Prop) (H : Hp) (σ : L2.St) (m : Ms) (fp : List Addr) : Prop where
  rl : RL K Fz H σ m fp
  nd : fp.Nodup
  own : ∀ a ∈ fp, B a = none ∧ ¬ Fz a
  base : ∀ a o, B a = some o → H a = some o
  fz : ∀ a, Fz a → H a ≠ none
def Rs (K : PySem.W.Frag) (B : Hp) (Fz : Addr → Prop) (H : Hp) (σ : L2.St) (m : Ms) : Prop := ∃ fp, RsF K B Fz H σ m fp
/-- more is frozen: only what was new or one's own -/
structure Ext (B : Hp) (Fz Fz' : Addr → Prop) : Prop where
  le : ∀ a, Fz a → Fz' a
  new : ∀ a, Fz' a → Fz a ∨ B a = none
theorem Ext.refl {B : Hp} {Fz : Addr → Prop} : Ext B Fz Fz := ⟨fun _ h => h, fun _ h => .inl h⟩
theorem Ext.trans {B : Hp} {F1 F2 F3 : Addr → Prop} (a : Ext B F1 F2) (b : Ext B F2 F3) : Ext B F1 F3 :=
  ⟨fun x h => b.le x (a.le x h), fun x h => (b.new x h).elim (a.new x) .inr⟩
section
variable {K : PySem.W.Frag} {B : Hp} {Fz Fz' : Addr → Prop} {H H' : Hp} {σ τ : L2.St} {m n : Ms} {fp f : List Addr} {v : V} {w : W}
theorem RW.mono (l : Le Fz H Fz' H') (k : ∀ a ∈ f, ∀ o, H a = some o → H' a = some o) (h : RW K Fz H v w f) : RW K Fz' H' v w f := by
  cases h with
  | d r => exact .d (r.mono l)
  | l e r => exact .l (k _ (by simp) _ e) (r.mono l)
  | r q => exact .r (q.imp (fun ⟨o, q⟩ => ⟨o, l.hp _ _ q (.inr trivial)⟩) id)
theorem RL.mono (l : Le Fz H Fz' H') : ∀ {σ : L2.St} {m : Ms} {fp : List Addr}, RL K Fz H σ m fp → (∀ a ∈ fp, ∀ o, H a = some o → H' a = some o) → RL K Fz' H' σ m fp
  | _, _, _, .nil, _ => .nil
  | _, _, _, .no r, k => .no (RL.mono l r k)
  | _, _, _, .so r s, k => .so (r.mono l fun a h => k a (List.mem_append_left _ h)) (RL.mono l s fun a h => k a (List.mem_append_right _ h))
theorem RL.length : ∀ {σ : L2.St} {m : Ms} {fp : List Addr}, RL K Fz H σ m fp → σ.length = m.length
  | _, _, _, .nil => rfl
  | _, _, _, .no r => by rw [List.length_cons, List.length_cons, RL.length r]
  | _, _, _, .so _ r => by rw [List.length_cons, List.length_cons, RL.length r]
/-- what is owned is a tracked list -/
theorem RW.own (h : RW K Fz H v w f) : ∀ a ∈ f, ∃ vs, H a = some (.lst vs) := by
  cases h with
  | d _ => intro a h; simp at h
  | l e r =>
    intro a h
    rw [List.mem_singleton] at h
    subst h; exact ⟨_, e⟩
  | r _ => intro a h; simp at h
theorem RL.own : ∀ {σ : L2.St} {m : Ms} {fp : List Addr}, RL K Fz H σ m fp → ∀ a ∈ fp, ∃ vs, H a = some (.lst vs)
  | _, _, _, .nil => by intro a h; simp at h
  | _, _, _, .no r => RL.own r
  | _, _, _, .so r s => by
    intro a h
    rcases List.mem_append.mp h with h | h
    · exact r.own a h
    · exact RL.own s a h
/-- a slot -/
theorem RL.get : ∀ {σ : L2.St} {m : Ms} {fp : List Addr} {i : Nat} {w : W}, RL K Fz H σ m fp → m[i]? = some (some w) → ∃ v f, σ[i]? = some (some v) ∧ RW K Fz H v w f ∧ ∀ a ∈ f, a ∈ fp
  | _, _, _, _, _, .nil, e => by simp at e
  | _, _, _, 0, _, .no r, e => by simp at e
  | _, _, _, i + 1, _, .no r, e => by
    obtain ⟨v, f, h1, h2, h3⟩ := RL.get (i := i) r (by simpa using e)
    exact ⟨v, f, by simpa using h1, h2, h3⟩
  | _, _, _, 0, _, .so r _, e => by
    simp at e; subst e
    exact ⟨_, _, rfl, r, fun a h => List.mem_append_left _ h⟩
  | _, _, _, i + 1, _, .so _ r, e => by
    obtain ⟨v, f, h1, h2, h3⟩ := RL.get (i := i) r (by simpa using e)
    exact ⟨v, f, by simpa using h1, h2, fun a h => List.mem_append_right _ (h3 a h)⟩
/-- a slot is stored: the top's value goes there -/
theorem RL.put : ∀ {σ : L2.St} {m : Ms} {fp f : List Addr} (i : Nat) {v : V} {w : W}, RL K Fz H σ m fp → RW K Fz H v w f → i < m.length →
    ∃ fp', RL K Fz H (σ.set i (some v)) (m.set i (some w)) fp' ∧ ∃ g, (fp').Perm (f ++ g) ∧ g.Sublist fp
  | _, _, _, _, i, _, _, .nil, _, h => by simp at h
  | _, _, _, _, 0, _, _, .no r, q, _ => ⟨_, .so q r, _, .refl _, .refl _⟩
  | _, _, _, _, 0, _, _, .so q' r, q, _ => ⟨_, .so q r, _, .refl _, List.sublist_append_right _ _⟩
  | _, _, _, _, i + 1, _, _, .no r, q, h => by
    obtain ⟨fp', r', g, p, s⟩ := RL.put i r q (by simpa using h)
    exact ⟨fp', .no r', g, p, s⟩
  | _, _, _, f, i + 1, _, _, .so (f := f0) q' r, q, h => by
    obtain ⟨fp', r', g, p, s⟩ := RL.put i r q (by simpa using h)
    refine ⟨_, .so q' r', f0 ++ g, ?_, s.append_left f0⟩
    refine (List.Perm.append_left f0 p).trans ?_
    rw [← List.append_assoc, ← List.append_assoc]
    exact List.Perm.append_right g List.perm_append_comm
/-- a slot is forgotten -/
theorem RL.drop1 : ∀ {σ : L2.St} {m : Ms} {fp : List Addr} (i : Nat), RL K Fz H σ m fp → ∃ g, RL K Fz H (σ.set i none) (m.set i none) g ∧ g.Sublist fp
  | _, _, _, _, .nil => ⟨_, .nil, .refl _⟩
  | _, _, _, 0, .no r => ⟨_, .no r, .refl _⟩
  | _, _, _, 0, .so _ r => ⟨_, .no r, List.sublist_append_right _ _⟩
  | _, _, _, i + 1, .no r => by
    obtain ⟨g, r', s⟩ := RL.drop1 i r
    exact ⟨g, .no r', s⟩
  | _, _, _, i + 1, .so (f := f0) q r => by
    obtain ⟨g, r', s⟩ := RL.drop1 i r
    exact ⟨_, .so q r', s.append_left f0⟩

/-! ### the state -/
theorem Rs.lsz (h : Rs K B Fz H σ m) : σ.length = m.length := let ⟨_, r⟩ := h; r.rl.length
theorem Rs.base (h : Rs K B Fz H σ m) : ∀ a o, B a = some o → H a = some o := let ⟨_, r⟩ := h; r.base
theorem Rs.fzn (h : Rs K B Fz H σ m) : ∀ a, Fz a → H a ≠ none := let ⟨_, r⟩ := h; r.fz
/-- the top is dropped -/
theorem Rs.pop {x : Option V} {y : Option W} (h : Rs K B Fz H (x :: σ) (y :: m)) : Rs K B Fz H σ m := by
  obtain ⟨fp, r⟩ := h
  cases r with
  | mk rl nd own base fz =>
  cases rl with
  | no s => exact ⟨_, s, nd, own, base, fz⟩
  | so q s =>
    rw [List.nodup_append] at nd
    exact ⟨_, s, nd.2.1, fun a h => own a (List.mem_append_right _ h), base, fz⟩
/-- the second is dropped -/
theorem Rs.pop2 {x y : Option V} {u w : Option W} (h : Rs K B Fz H (x :: y :: σ) (u :: w :: m)) : Rs K B Fz H (x :: σ) (u :: m) := by
  obtain ⟨fp, rl, nd, own, base, fz⟩ := h
  cases rl with
  | no s =>
    obtain ⟨g, t, nd', own', base', fz'⟩ := Rs.pop ⟨_, s, nd, own, base, fz⟩
    exact ⟨_, .no t, nd', own', base', fz'⟩
  | so q s =>
    cases s with
    | no s => exact ⟨_, .so q s, nd, own, base, fz⟩
    | @so _ _ f2 _ _ fp2 q2 s =>
      refine ⟨_, .so q s, nd.sublist ?_, fun a h => own a ?_, base, fz⟩
      · exact (List.sublist_append_right f2 fp2).append_left _
      · rcases List.mem_append.mp h with h | h
        · exact List.mem_append_left _ h
        · exact List.mem_append_right _ (List.mem_append_right _ h)
/-- data on top -/
theorem Rs.top {x : PyData} (h : Rs K B Fz H (some v :: σ) (some (.d x) :: m)) : Rp K Fz H v x := by
  obtain ⟨fp, r⟩ := h
  have z := r.rl
  cases z with
  | so q s => cases q with | d q' => exact q'
theorem Rs.push {x : PyData} (h : Rs K B Fz H σ m) (r : Rp K Fz H v x) : Rs K B Fz H (some v :: σ) (some (.d x) :: m) := by
  obtain ⟨fp, rl, nd, own, base, fz⟩ := h
  exact ⟨_, .so (f := []) (.d r) rl, nd, own, base, fz⟩
theorem Rs.get {i : Nat} {x : PyData} (h : Rs K B Fz H σ m) (e : m[i]? = some (some (.d x))) : ∃ v, σ[i]? = some (some v) ∧ Rp K Fz H v x := by
  obtain ⟨fp, r⟩ := h
  obtain ⟨v, f, h1, h2, _⟩ := r.rl.get e
  cases h2 with | d q => exact ⟨v, h1, q⟩
theorem Rs.getL {i : Nat} {xs : List PyData} (h : Rs K B Fz H σ m) (e : m[i]? = some (some (.l xs))) :
    ∃ a vs, σ[i]? = some (some (.ref a)) ∧ H a = some (.lst vs) ∧ RpAll K Fz H vs xs ∧ B a = none ∧ ¬ Fz a := by
  obtain ⟨fp, r⟩ := h
  obtain ⟨v, f, h1, h2, h3⟩ := r.rl.get e
  cases h2 with
  | l q q2 => exact ⟨_, _, h1, q, q2, (r.own _ (h3 _ (by simp))).1, (r.own _ (h3 _ (by simp))).2⟩
theorem Rs.getR {i : Nat} {ns : List Int} (h : Rs K B Fz H σ m) (e : m[i]? = some (some (.r ns))) : ∃ a, σ[i]? = some (some (.ref a)) ∧ SqL K H a (ns.map V.int) ∧ RW K Fz H (.ref a) (.r ns) [] := by
  obtain ⟨fp, r⟩ := h
  obtain ⟨v, f, h1, h2, h3⟩ := r.rl.get e
  cases h2 with
  | r q => exact ⟨_, h1, q.elim (fun ⟨o, q⟩ => .inl (.inr ⟨o, q⟩)) (fun q => q H), .r q⟩
/-- the top is stored in slot i -/
theorem Rs.put (i : Nat) (h : Rs K B Fz H (some v :: σ) (some w :: m)) (hi : i < m.length) : Rs K B Fz H (σ.set i (some v)) (m.set i (some w)) := by
  obtain ⟨fp, rl, nd, own, base, fz⟩ := h
  cases rl with
  | @so _ _ f _ _ fp q s =>
    obtain ⟨fp', r', g, p, sub⟩ := RL.put i s q hi
    refine ⟨fp', r', p.nodup_iff.mpr (nd.sublist (sub.append_left f)), fun a ha => own a ?_, base, fz⟩
    rcases List.mem_append.mp (p.mem_iff.mp ha) with h | h
    · exact List.mem_append_left _ h
    · exact List.mem_append_right _ (sub.subset h)
theorem Rs.clear (i : Nat) (h : Rs K B Fz H σ m) : Rs K B Fz H (σ.set i none) (m.set i none) := by
  obtain ⟨fp, rl, nd, own, base, fz⟩ := h
  obtain ⟨g, r, s⟩ := RL.drop1 i rl
  exact ⟨g, r, nd.sublist s, fun a h => own a (s.subset h), base, fz⟩
/-- what is known of all of the heap but of one's own lists -/
theorem RsF.le_of (r : RsF K B Fz H σ m fp) (h : ∀ a o, H a = some o → a ∉ fp → H' a = some o) (e : ∀ a, Fz a → Fz' a) : Le Fz H Fz' H' := by
  refine ⟨e, fun a o q k => h a o q fun hf => ?_⟩
  rcases k with k | k
  · exact (r.own a hf).2 k
  · obtain ⟨vs, q'⟩ := r.rl.own a hf
    rw [q] at q'; cases q'
    exact k
/-- the heap grows -/
theorem Rs.grow (h : Rs K B Fz H σ m) (s : Same H H') (e : Ext H Fz Fz') (z : ∀ a, Fz' a → H' a ≠ none) : Rs K B Fz' H' σ m := by
  obtain ⟨fp, r⟩ := h
  refine ⟨fp, r.rl.mono ⟨e.le, fun a o q _ => s a o q⟩ (fun a _ o q => s a o q), r.nd, fun a ha => ⟨(r.own a ha).1, fun hf => ?_⟩, fun a o q => s a o (r.base a o q), z⟩
  rcases e.new a hf with h | h
  · exact (r.own a ha).2 h
  · obtain ⟨vs, q⟩ := r.rl.own a ha
    rw [h] at q; cases q
theorem same_new {p : Addr} {o : HO} (h : H p = none) : Same H (upd H p o) := fun b x e => by
  rw [upd_ne (ne_of_none e h)]
  exact e
theorem Rs.new {p : Addr} {o : HO} (h : Rs K B Fz H σ m) (hp : H p = none) : Rs K B Fz (upd H p o) σ m :=
  h.grow (same_new hp) .refl fun a ha => by
    have q := h.fzn a ha
    by_cases e : a = p
    · subst e; rw [upd_same]; simp
    · rw [upd_ne e]; exact q
/-- a new tuple -/
theorem Rs.newTup {p : Addr} {vs : List V} {ds : List PyData} (h : Rs K B Fz H σ m) (hp : H p = none) (r : RpAll K Fz H vs ds) : Rs K B Fz (upd H p (.tup vs)) (some (.ref p) :: σ) (some (.d (.tuple ds)) :: m) :=
  (h.new hp).push (.tup (.inl (.inl upd_same)) (r.mono ⟨fun _ x => x, fun a o q _ => same_new hp a o q⟩))
/-- a new list, one's own -/
theorem Rs.newLst {p : Addr} {vs : List V} {ds : List PyData} (h : Rs K B Fz H σ m) (hp : H p = none) (r : RpAll K Fz H vs ds) : Rs K B Fz (upd H p (.lst vs)) (some (.ref p) :: σ) (some (.l ds) :: m) := by
  obtain ⟨fp, s⟩ := id h
  have nf : ¬ Fz p := fun z => h.fzn p z hp
  have nb : B p = none := by
    cases q : B p with
    | none => rfl
    | some o =>
      have := h.base p o q
      rw [hp] at this; cases this
  have rl' : RL K Fz (upd H p (.lst vs)) σ m fp := s.rl.mono ⟨fun _ x => x, fun a o q _ => same_new hp a o q⟩ fun a _ o q => same_new hp a o q
  refine ⟨[p] ++ fp, .so (.l upd_same (r.mono ⟨fun _ x => x, fun a o q _ => same_new hp a o q⟩)) rl', ?_, fun a ha => ?_, fun a o q => same_new hp a o (s.base a o q), fun a q => ?_⟩
  · rw [List.singleton_append, List.nodup_cons]
    refine ⟨fun z => ?_, s.nd⟩
    obtain ⟨us, q⟩ := s.rl.own p z
    rw [hp] at q; cases q
  · rcases List.mem_append.mp ha with z | z
    · rw [List.mem_singleton] at z
      subst z; exact ⟨nb, nf⟩
    · exact s.own a z
  · have e := h.fzn a q
    by_cases z : a = p
    · subst z; rw [upd_same]; simp
    · rw [upd_ne z]; exact e

/-! ### freezing -/
/-- a list of one's own is given up -/
theorem RL.more {p : Addr} (hp : ∃ vs, H p = some (.lst vs)) (h : RL K Fz H σ m fp) : RL K (fun a => Fz a ∨ a = p) H σ m fp := h.mono ⟨fun _ => .inl, fun _ _ q _ => q⟩ fun _ _ _ q => q
theorem Rs.frzTop {xs : List PyData} (h : Rs K B Fz H (some v :: σ) (some (.l xs) :: m)) : ∃ Fz', Ext B Fz Fz' ∧ Rs K B Fz' H (some v :: σ) (some (.d (.list xs)) :: m) := by
  obtain ⟨fp, rl, nd, own, base, fz⟩ := h
  cases rl with
  | so q s =>
    cases q with
    | @l p vs _ e r =>
      have l : Le Fz H (fun a => Fz a ∨ a = p) H := ⟨fun _ => .inl, fun _ _ q _ => q⟩
      rw [List.singleton_append, List.nodup_cons] at nd
      refine ⟨fun a => Fz a ∨ a = p, ⟨fun _ => .inl, fun a ha => ha.imp id fun z => by subst z; exact (own a (by simp)).1⟩, _, .so (f := []) (.d (.lst (.inr rfl) e (r.mono l))) (s.mono l fun _ _ _ q => q), nd.2, fun a ha => ?_, base, fun a ha => ?_⟩
      · refine ⟨(own a (List.mem_append_right _ ha)).1, fun z => ?_⟩
        rcases z with z | z
        · exact (own a (List.mem_append_right _ ha)).2 z
        · subst z; exact nd.1 ha
      · rcases ha with ha | ha
        · exact fz a ha
        · subst ha; rw [e]; simp
/-- data of a value, its own list given up -/
def W.noR : W → Bool
  | .r _ => false
  | _ => true
theorem Rs.frz (h : Rs K B Fz H (some v :: σ) (some w :: m)) (n : w.noR = true) : ∃ Fz', Ext B Fz Fz' ∧ Rs K B Fz' H (some v :: σ) (some (.d w.dat) :: m) := by
  cases w with
  | d x => exact ⟨Fz, .refl, h⟩
  | l xs => exact h.frzTop
  | r ns => cases n
theorem getElem?_some_split {α : Type} : ∀ {l : List α} {i : Nat} {x : α}, l[i]? = some x → ∃ l1 l2, l = l1 ++ x :: l2 ∧ l1.length = i
  | [], _, _, h => by simp at h
  | a :: l, 0, x, h => by simp at h; subst h; exact ⟨[], l, rfl, rfl⟩
  | a :: l, i + 1, x, h => by
    obtain ⟨l1, l2, e, z⟩ := getElem?_some_split (l := l) (i := i) (by simpa using h)
    exact ⟨a :: l1, l2, by rw [e]; rfl, by simp [z]⟩
/-- the own list of slot i is given up, where it stands -/
theorem RL.frzAt : ∀ {σ : L2.St} {m : Ms} {fp : List Addr} (i : Nat) {xs : List PyData}, RL K Fz H σ m fp → m[i]? = some (some (.l xs)) →
    ∃ p vs g, σ[i]? = some (some (.ref p)) ∧ H p = some (.lst vs) ∧ RpAll K Fz H vs xs ∧ RL K (fun a => Fz a ∨ a = p) H σ (m.set i (some (.d (.list xs)))) g ∧ fp.Perm (p :: g)
  | _, _, _, _, _, .nil, e => by simp at e
  | _, _, _, 0, _, .no _, e => by simp at e
  | _, _, _, i + 1, _, .no r, e => by
    obtain ⟨p, vs, g, h1, h2, h3, h4, h5⟩ := RL.frzAt i r (by simpa using e)
    exact ⟨p, vs, g, by simpa using h1, h2, h3, .no h4, h5⟩
  | _, _, _, 0, _, .so q r, e => by
    have e' := Option.some.inj (Option.some.inj e)
    subst e'
    cases q with
    | @l p vs _ e r' =>
      have l : Le Fz H (fun a => Fz a ∨ a = p) H := ⟨fun _ => .inl, fun _ _ q _ => q⟩
      exact ⟨p, vs, _, rfl, e, r', .so (f := []) (.d (.lst (.inr rfl) e (r'.mono l))) (r.mono l fun _ _ _ q => q), .refl _⟩
  | _, _, _, i + 1, _, .so (f := f) q r, e => by
    obtain ⟨p, vs, g, h1, h2, h3, h4, h5⟩ := RL.frzAt i r (by simpa using e)
    have l : Le Fz H (fun a => Fz a ∨ a = p) H := ⟨fun _ => .inl, fun _ _ q _ => q⟩
    exact ⟨p, vs, f ++ g, by simpa using h1, h2, h3, .so (q.mono l fun _ _ _ q => q) h4, (h5.append_left f).trans List.perm_middle⟩
theorem Rs.frzAt (i : Nat) {xs : List PyData} (h : Rs K B Fz H σ m) (e : m[i]? = some (some (.l xs))) : ∃ Fz', Ext B Fz Fz' ∧ Rs K B Fz' H σ (m.set i (some (.d (.list xs)))) := by
  obtain ⟨fp, rl, nd, own, base, fz⟩ := h
  obtain ⟨p, vs, g, h1, h2, h3, h4, h5⟩ := rl.frzAt i e
  have nd' := h5.nodup_iff.mp nd
  rw [List.nodup_cons] at nd'
  have pin : p ∈ fp := h5.mem_iff.mpr (by simp)
  refine ⟨fun a => Fz a ∨ a = p, ⟨fun _ => .inl, fun a ha => ha.imp id fun z => by subst z; exact (own a pin).1⟩, g, h4, nd'.2, fun a ha => ?_, base, fun a ha => ?_⟩
  · have ha' : a ∈ fp := h5.mem_iff.mpr (List.mem_cons_of_mem _ ha)
    refine ⟨(own a ha').1, fun z => ?_⟩
    rcases z with z | z
    · exact (own a ha').2 z
    · subst z; exact nd'.1 ha
  · rcases ha with ha | ha
    · exact fz a ha
    · subst ha; rw [h2]; simp

/-! ### holding values while something else is reckoned -/
open Classical in
/-- values τ are held; what comes behind leaves them alone -/
theorem Rs.hold (h : Rs K B Fz H (τ ++ σ) (n ++ m)) (hl : τ.length = n.length) : ∃ B2 : Hp, Rs K B2 Fz H σ m ∧ (∀ a o, B2 a = some o → H a = some o) ∧ (∀ F', Ext B2 Fz F' → Ext B Fz F') ∧
    ∀ {Fz' : Addr → Prop} {H' : Hp} {ρ : L2.St} {r : Ms}, Ext B2 Fz Fz' → Rs K B2 Fz' H' (ρ ++ σ) (r ++ m) → ρ.length = r.length → Rs K B Fz' H' (ρ ++ (τ ++ σ)) (r ++ (n ++ m)) ∧ Le Fz H Fz' H' := by
  obtain ⟨fp, rl, nd, own, base, fz⟩ := h
  have split : ∀ {Fz : Addr → Prop} {H : Hp} {τ σ : L2.St} {n m : Ms} {fp : List Addr}, RL K Fz H (τ ++ σ) (n ++ m) fp → τ.length = n.length → ∃ f1 f2, fp = f1 ++ f2 ∧ RL K Fz H τ n f1 ∧ RL K Fz H σ m f2 := by
    intro Fz H τ
    induction τ with
    | nil =>
      intro σ n m fp h hl
      cases n with
      | nil => exact ⟨[], fp, rfl, .nil, h⟩
      | cons _ _ => simp at hl
    | cons x τ ih =>
      intro σ n m fp h hl
      cases n with
      | nil => simp at hl
      | cons y n =>
        rw [List.cons_append, List.cons_append] at h
        cases h with
        | no r =>
          obtain ⟨f1, f2, e, a, b⟩ := ih r (by simpa using hl)
          exact ⟨f1, f2, e, .no a, b⟩
        | @so _ _ f _ _ _ q r =>
          obtain ⟨f1, f2, e, a, b⟩ := ih r (by simpa using hl)
          exact ⟨f ++ f1, f2, by rw [e, List.append_assoc], .so q a, b⟩
  have glue : ∀ {Fz : Addr → Prop} {H : Hp} {τ σ : L2.St} {n m : Ms} {f1 f2 : List Addr}, RL K Fz H τ n f1 → RL K Fz H σ m f2 → RL K Fz H (τ ++ σ) (n ++ m) (f1 ++ f2) := by
    intro Fz H τ σ n m f1 f2 a b
    induction a with
    | nil => exact b
    | no r ih => exact .no ih
    | so q r ih => rw [List.append_assoc]; exact .so q ih
  obtain ⟨f1, f2, e, r1, r2⟩ := split rl hl
  subst e
  rw [List.nodup_append] at nd
  obtain ⟨nd1, nd2, nd3⟩ := nd
  have b2s : ∀ a o, (if a ∈ f2 then none else H a) = some o → a ∉ f2 ∧ H a = some o := fun a o q => by
    by_cases z : a ∈ f2
    · rw [if_pos z] at q; cases q
    · rw [if_neg z] at q; exact ⟨z, q⟩
  have bb : ∀ a, (if a ∈ f2 then (none : Option HO) else H a) = none → B a = none := fun a q => by
    by_cases z : a ∈ f2
    · exact (own a (List.mem_append_right _ z)).1
    · rw [if_neg z] at q
      cases w : B a with
      | none => rfl
      | some o => rw [base a o w] at q; cases q
  have exB : ∀ F', Ext (fun a => if a ∈ f2 then none else H a) Fz F' → Ext B Fz F' := fun F' x => ⟨x.le, fun a ha => (x.new a ha).imp id (bb a)⟩
  refine ⟨fun a => if a ∈ f2 then none else H a, ⟨f2, r2, nd2, fun a ha => ⟨if_pos ha, (own a (List.mem_append_right _ ha)).2⟩, fun a o q => (b2s a o q).2, fz⟩, fun a o q => (b2s a o q).2, exB, ?_⟩
  intro Fz' H' ρ r x h' hl'
  obtain ⟨fp', rl', nd', own', base', fz'⟩ := h'
  obtain ⟨g1, g2, e', q1, q2⟩ := split rl' hl'
  subst e'
  -- the heap beyond the slots' own lists stands
  have st : ∀ a o, H a = some o → a ∉ f2 → H' a = some o := fun a o q z => base' a o (by rw [if_neg z]; exact q)
  have l : Le Fz H Fz' H' := ⟨x.le, fun a o q k => st a o q fun z => by
    rcases k with k | k
    · exact (own a (List.mem_append_right _ z)).2 k
    · obtain ⟨vs, q'⟩ := r2.own a z
      rw [q] at q'; cases q'
      exact k⟩
  have d1 : ∀ a ∈ f1, (if a ∈ f2 then none else H a) ≠ none := fun a ha => by
    have z : a ∉ f2 := fun z => nd3 a ha a z rfl
    rw [if_neg z]
    obtain ⟨vs, q⟩ := r1.own a ha
    rw [q]; simp
  have rt : RL K Fz' H' τ n f1 := r1.mono l fun a ha o q => st a o q fun z => nd3 a ha a z rfl
  rw [List.nodup_append] at nd'
  obtain ⟨n1, n2, n3⟩ := nd'
  refine ⟨⟨g1 ++ (f1 ++ g2), glue q1 (glue rt q2), ?_, fun a ha => ?_, fun a o q => ?_, fz'⟩, l⟩
  · rw [List.nodup_append]
    refine ⟨n1, ?_, fun a ha b hb e => ?_⟩
    · rw [List.nodup_append]
      refine ⟨nd1, n2, fun a ha b hb e => ?_⟩
      subst e
      exact d1 a ha (own' a (List.mem_append_right _ hb)).1
    · subst e
      rcases List.mem_append.mp hb with hb | hb
      · exact d1 a hb (own' a (List.mem_append_left _ ha)).1
      · exact n3 a ha a hb rfl
  · rcases List.mem_append.mp ha with ha | ha
    · exact ⟨bb a (own' a (List.mem_append_left _ ha)).1, (own' a (List.mem_append_left _ ha)).2⟩
    · rcases List.mem_append.mp ha with ha | ha
      · refine ⟨(own a (List.mem_append_left _ ha)).1, fun z => ?_⟩
        rcases x.new a z with z | z
        · exact (own a (List.mem_append_left _ ha)).2 z
        · exact d1 a ha z
      · exact ⟨bb a (own' a (List.mem_append_right _ ha)).1, (own' a (List.mem_append_right _ ha)).2⟩
  · have z : a ∉ f2 := fun z => by
      have := (own a (List.mem_append_right _ z)).1
      rw [q] at this; cases this
    exact st a o (base a o q) z
/-- something else is reckoned: what was data stays so -/
theorem Rs.step (h : Rs K B Fz H σ m) : ∃ B2 : Hp, Rs K B2 Fz H σ m ∧ (∀ F', Ext B2 Fz F' → Ext B Fz F') ∧
    ∀ {Fz' : Addr → Prop} {H' : Hp} {ρ : L2.St} {r : Ms}, Ext B2 Fz Fz' → Rs K B2 Fz' H' (ρ ++ σ) (r ++ m) → ρ.length = r.length → Rs K B Fz' H' (ρ ++ σ) (r ++ m) ∧ Le Fz H Fz' H' := by
  obtain ⟨B2, h1, h2, h3, h4⟩ := Rs.hold (τ := []) (n := []) (by simpa using h) rfl
  exact ⟨B2, h1, h3, fun x h' hl => by simpa using h4 x h' hl⟩
end
end Dl
set_option Elab.async false
set_option linter.all false
set_option maxRecDepth 100000
/-! D2: judgements of expressions over data states; names, constants, operators, comparisons, displays, subscripts. -/
namespace Dl
open PySem PySem.Spec L2
abbrev CT := Nat → Value
/-- a value that is read: data, or a list of one's own in a slot -/
def SV (K : PySem.W.Frag) (Fz : Addr → Prop) (H : Hp) (σ : L2.St) (m : Ms) (v : V) (x : PyData) : Prop :=
  Rp K Fz H v x ∨ ∃ (i : Nat) (xs : List PyData), σ[i]? = some (some v) ∧ m[i]? = some (some (W.l xs)) ∧ x = PyData.list xs
inductive Vw (K : PySem.W.Frag) (Fz : Addr → Prop) (H : Hp) : V → PyData → Prop
  | rp {v : V} {x : PyData} : Rp K Fz H v x → Vw K Fz H v x
  | own {a : Addr} {vs : List V} {xs : List PyData} : H a = some (.lst vs) → RpAll K Fz H vs xs → Vw K Fz H (.ref a) (.list xs)
section
variable {K : PySem.W.Frag} {B : Hp} {Fz Fz' : Addr → Prop} {H H' : Hp} {σ : L2.St} {m : Ms} {v : V} {x : PyData}
theorem SV.vw (h : Rs K B Fz H σ m) (s : SV K Fz H σ m v x) : Vw K Fz H v x := by
  rcases s with s | ⟨i, xs, e1, e2, rfl⟩
  · exact .rp s
  · obtain ⟨a, vs, e, q1, q2, _⟩ := h.getL e2
    rw [e1] at e; cases e
    exact .own q1 q2
theorem SV.le (l : Le Fz H Fz' H') (s : SV K Fz H σ m v x) : SV K Fz' H' σ m v x := s.imp (Rp.mono l) id
theorem Vw.dp (h : Vw K Fz H v x) : Dp K H v x := by
  cases h with
  | rp r => exact r.dp
  | own e r => exact .lst (.inl (.inl e)) r.dp
theorem Vw.plain (h : Vw K Fz H v x) : x.plain = true := by
  cases h with
  | rp r => exact r.plain
  | own e r => simp only [PyData.plain]; exact r.plain
theorem Vw.int {i : Int} (h : Vw K Fz H v (.int i)) : v = .int i := by
  cases h with | rp r => cases r; rfl
theorem Vw.bool {b : Bool} (h : Vw K Fz H v (.bool b)) : v = .bl b := by
  cases h with | rp r => cases r; rfl
theorem Vw.str {s : Str} (h : Vw K Fz H v (.str s)) : v = .str s := by
  cases h with | rp r => cases r; rfl
theorem Vw.non (h : Vw K Fz H v .none) : v = .non := by
  cases h with | rp r => cases r; rfl
theorem Vw.list {xs : List PyData} (h : Vw K Fz H v (.list xs)) : ∃ a vs, v = .ref a ∧ H a = some (.lst vs) ∧ RpAll K Fz H vs xs := by
  cases h with
  | rp r => cases r with | lst f e r => exact ⟨_, _, rfl, e, r⟩
  | own e r => exact ⟨_, _, rfl, e, r⟩
theorem Vw.tup {xs : List PyData} (h : Vw K Fz H v (.tuple xs)) : ∃ a vs, v = .ref a ∧ SqT K H a vs ∧ RpAll K Fz H vs xs := by
  cases h with
  | rp r => cases r with | tup e r => exact ⟨_, _, rfl, e, r⟩
end

/-! ### the judgement -/
/-- R: what is known of the value and the state behind the expression; Wx: what is wanted of an exception -/
def tG {α : Type} (K : PySem.W.Frag) (ct : CT) (Wx : WX) (R : Hp → (Addr → Prop) → Hp → L2.St → Ms → V → α → Prop) (f : Ms → Rz α) : TE := fun σ H Q => ∃ B Fz m, Rs K B Fz H σ m ∧
  match f m with
  | .st => False
  | .ok a => ∀ v H' Fz', Ext B Fz Fz' → R B Fz' H' σ m v a → Q v H'
  | .ex c => ∀ H' Fz', Ext B Fz Fz' → Rs K B Fz' H' σ m → Wx (ct c) Option.none σ H'
def rE (K : PySem.W.Frag) : Hp → (Addr → Prop) → Hp → L2.St → Ms → V → W → Prop := fun B Fz H σ m v w => Rs K B Fz H (some v :: σ) (some w :: m)
def rV (K : PySem.W.Frag) : Hp → (Addr → Prop) → Hp → L2.St → Ms → V → PyData → Prop := fun B Fz H σ m v x => Rs K B Fz H σ m ∧ Rp K Fz H v x
def rR (K : PySem.W.Frag) : Hp → (Addr → Prop) → Hp → L2.St → Ms → V → PyData → Prop := fun B Fz H σ m v x => Rs K B Fz H σ m ∧ SV K Fz H σ m v x
abbrev tE (K : PySem.W.Frag) (ct : CT) (Wx : WX) (f : Ms → Rz W) : TE := tG K ct Wx (rE K) f
abbrev tV (K : PySem.W.Frag) (ct : CT) (Wx : WX) (f : Ms → Rz PyData) : TE := tG K ct Wx (rV K) f
abbrev tR (K : PySem.W.Frag) (ct : CT) (Wx : WX) (f : Ms → Rz PyData) : TE := tG K ct Wx (rR K) f
structure DE (X : Cx) (ct : CT) (Wx : WX) (e : Expr) (f : Ms → Rz W) : Prop where
  pe : PE X e (tE X.K ct Wx f)
structure DV (X : Cx) (ct : CT) (Wx : WX) (e : Expr) (f : Ms → Rz PyData) : Prop where
  pe : PE X e (tV X.K ct Wx f)
structure DR (X : Cx) (ct : CT) (Wx : WX) (e : Expr) (f : Ms → Rz PyData) : Prop where
  pe : PE X e (tR X.K ct Wx f)
theorem PE_imp {X : Cx} {e : Expr} {t t' : TE} (h : PE X e t) (q : ∀ σ H Q, t' σ H Q → t σ H Q) : PE X e t' := ⟨fun pins s σ H Q I w => h.run pins s σ H Q I (q _ _ _ w)⟩
section
variable {X : Cx} {ct : CT} {Wx : WX} {e a b : Expr} {pos : Pos}
/-- a value given up is data -/
def toV (f : Ms → Rz W) : Ms → Rz PyData := fun m => (f m).bind fun w => match w with
  | .d x => .ok x
  | .l xs => .ok (.list xs)
  | .r _ => .st
def ofV (f : Ms → Rz PyData) : Ms → Rz W := fun m => (f m).map W.d
theorem DE.v {f : Ms → Rz W} (h : DE X ct Wx e f) : DV X ct Wx e (toV f) := ⟨PE_imp h.pe fun σ H Q ⟨B, Fz, m, r, q⟩ => by
  refine ⟨B, Fz, m, r, ?_⟩
  unfold toV at q
  cases hf : f m with
  | st => rw [hf] at q; exact q
  | ex c => rw [hf] at q; exact q
  | ok w =>
    rw [hf] at q
    cases w with
    | d x => exact fun v H' Fz' e r' => q v H' Fz' e ⟨r'.pop, r'.top⟩
    | l xs =>
      intro v H' Fz' e r'
      obtain ⟨F2, e2, r2⟩ := Rs.frzTop r'
      exact q v H' F2 (e.trans e2) ⟨r2.pop, r2.top⟩
    | r _ => exact q.elim⟩
theorem DV.rd {f : Ms → Rz PyData} (h : DV X ct Wx e f) : DR X ct Wx e f := ⟨PE_imp h.pe fun σ H Q ⟨B, Fz, m, r, q⟩ => by
  refine ⟨B, Fz, m, r, ?_⟩
  cases hf : f m with
  | st => rw [hf] at q; exact q
  | ex c => rw [hf] at q; exact q
  | ok w => rw [hf] at q; exact fun v H' Fz' e r' => q v H' Fz' e ⟨r'.1, Or.inl r'.2⟩⟩
theorem DE.rd {f : Ms → Rz W} (h : DE X ct Wx e f) : DR X ct Wx e (toV f) := h.v.rd
theorem DV.toE {f : Ms → Rz PyData} (h : DV X ct Wx e f) : DE X ct Wx e (ofV f) := ⟨PE_imp h.pe fun σ H Q ⟨B, Fz, m, r, q⟩ => by
  refine ⟨B, Fz, m, r, ?_⟩
  unfold ofV at q
  cases hf : f m with
  | st => rw [hf] at q; exact q
  | ex c => rw [hf] at q; exact q
  | ok w => rw [hf] at q; exact fun v H' Fz' e r' => q v H' Fz' e (r'.1.push r'.2)⟩

/-- one after another: a read value -/
theorem tR_then {K : PySem.W.Frag} {f : Ms → Rz PyData} {B : Hp} {Fz : Addr → Prop} {σ : L2.St} {m : Ms} {H : Hp} {Q : VK} (h : Rs K B Fz H σ m)
    (hk : match f m with
      | .st => False
      | .ok x => ∀ v H' Fz', Ext B Fz Fz' → Rs K B Fz' H' σ m → Le Fz H Fz' H' → SV K Fz' H' σ m v x → Q v H'
      | .ex c => ∀ H' Fz', Ext B Fz Fz' → Rs K B Fz' H' σ m → Wx (ct c) Option.none σ H') : tR K ct Wx f σ H Q := by
  obtain ⟨B2, h2, he, ht⟩ := h.step
  refine ⟨B2, Fz, m, h2, ?_⟩
  cases hf : f m with
  | st => rw [hf] at hk; exact hk
  | ex c => rw [hf] at hk; exact fun H' Fz' e r => hk H' Fz' (he _ e) (ht (ρ := []) (r := []) e r rfl).1
  | ok x =>
    rw [hf] at hk
    intro v H' Fz' e ⟨r, s⟩
    obtain ⟨r', l⟩ := ht (ρ := []) (r := []) e r rfl
    exact hk v H' Fz' (he _ e) r' l s
theorem tV_then {K : PySem.W.Frag} {f : Ms → Rz PyData} {B : Hp} {Fz : Addr → Prop} {σ : L2.St} {m : Ms} {H : Hp} {Q : VK} (h : Rs K B Fz H σ m)
    (hk : match f m with
      | .st => False
      | .ok x => ∀ v H' Fz', Ext B Fz Fz' → Rs K B Fz' H' σ m → Le Fz H Fz' H' → Rp K Fz' H' v x → Q v H'
      | .ex c => ∀ H' Fz', Ext B Fz Fz' → Rs K B Fz' H' σ m → Wx (ct c) Option.none σ H') : tV K ct Wx f σ H Q := by
  obtain ⟨B2, h2, he, ht⟩ := h.step
  refine ⟨B2, Fz, m, h2, ?_⟩
  cases hf : f m with
  | st => rw [hf] at hk; exact hk
  | ex c => rw [hf] at hk; exact fun H' Fz' e r => hk H' Fz' (he _ e) (ht (ρ := []) (r := []) e r rfl).1
  | ok x =>
    rw [hf] at hk
    intro v H' Fz' e ⟨r, s⟩
    obtain ⟨r', l⟩ := ht (ρ := []) (r := []) e r rfl
    exact hk v H' Fz' (he _ e) r' l s
def ofO {α : Type} : Option α → Rz α
  | some a => .ok a
  | none => .st
@[simp] theorem ofO_some {α : Type} (a : α) : ofO (some a) = .ok a := rfl
@[simp] theorem ofO_none {α : Type} : ofO (none : Option α) = .st := rfl

/-! ### names and constants -/
def vVar (i : Nat) : Ms → Rz PyData := fun m => match m[i]? with
  | some (some (.d x)) => .ok x
  | _ => .st
def rVar (i : Nat) : Ms → Rz PyData := fun m => match m[i]? with
  | some (some (.d x)) => .ok x
  | some (some (.l xs)) => .ok (.list xs)
  | _ => .st
def vC (x : PyData) : Ms → Rz PyData := fun _ => .ok x
theorem vVar_ok {i : Nat} {m : Ms} {x : PyData} (h : vVar i m = .ok x) : m[i]? = some (some (.d x)) := by
  unfold vVar at h
  split at h
  · rename_i y z
    cases h; exact z
  · cases h
theorem vVar_ex {i : Nat} {m : Ms} {c : Nat} : vVar i m ≠ .ex c := by
  unfold vVar
  split <;> (intro h; cases h)
theorem rVar_ok {i : Nat} {m : Ms} {x : PyData} (h : rVar i m = .ok x) : m[i]? = some (some (.d x)) ∨ ∃ xs, m[i]? = some (some (.l xs)) ∧ x = .list xs := by
  unfold rVar at h
  split at h
  · rename_i y z
    cases h; exact .inl z
  · rename_i y z
    cases h; exact .inr ⟨_, z, rfl⟩
  · cases h
theorem rVar_ex {i : Nat} {m : Ms} {c : Nat} : rVar i m ≠ .ex c := by
  unfold rVar
  split <;> (intro h; cases h)
section
variable {x : Str}
theorem dv_var (i : Nat) (hN : X.N[i]? = some x := by rfl) (hv : Vis X.env.scope x := by first | exact Or.inl rfl | exact Or.inr (Or.inl rfl) | exact Or.inr (Or.inr rfl)) (hd : (x == ("__debug__" : Str)) = false := by decide)
    (hcd : (x == ("__classdict__" : Str)) = false := by decide) : DV X ct Wx (.Name x pos) (vVar i) := ⟨PE_imp (pe_var hN hv hd hcd) fun σ H Q ⟨B, Fz, m, r, q⟩ => by
  cases hf : vVar i m with
  | st => rw [hf] at q; exact q.elim
  | ex c => exact absurd hf vVar_ex
  | ok y =>
    rw [hf] at q
    obtain ⟨v, h1, h2⟩ := r.get (vVar_ok hf)
    exact ⟨v, h1, q v H Fz .refl ⟨r, h2⟩⟩⟩
theorem dr_var (i : Nat) (hN : X.N[i]? = some x := by rfl) (hv : Vis X.env.scope x := by first | exact Or.inl rfl | exact Or.inr (Or.inl rfl) | exact Or.inr (Or.inr rfl)) (hd : (x == ("__debug__" : Str)) = false := by decide)
    (hcd : (x == ("__classdict__" : Str)) = false := by decide) : DR X ct Wx (.Name x pos) (rVar i) := ⟨PE_imp (pe_var hN hv hd hcd) fun σ H Q ⟨B, Fz, m, r, q⟩ => by
  cases hf : rVar i m with
  | st => rw [hf] at q; exact q.elim
  | ex c => exact absurd hf rVar_ex
  | ok y =>
    rw [hf] at q
    rcases rVar_ok hf with e | ⟨xs, e, rfl⟩
    · obtain ⟨v, h1, h2⟩ := r.get e
      exact ⟨v, h1, q v H Fz .refl ⟨r, Or.inl h2⟩⟩
    · obtain ⟨a, vs, h1, h2, h3, _⟩ := r.getL e
      exact ⟨_, h1, q _ H Fz .refl ⟨r, Or.inr ⟨i, xs, h1, e, rfl⟩⟩⟩⟩
end
theorem dv_c {t : V} {x : PyData} (h : PE X e (tC t)) (r : ∀ Fz H, Rp X.K Fz H t x) : DV X ct Wx e (vC x) := ⟨PE_imp h fun σ H Q ⟨B, Fz, m, s, q⟩ => q t H Fz .refl ⟨s, r _ _⟩⟩
theorem dv_int {i : Int} {j pos} : DV X ct Wx (.Constant (.int i) j pos) (vC (.int i)) := dv_c pe_int fun _ _ => .int i
theorem dv_bl {i : Bool} {j pos} : DV X ct Wx (.Constant (.bool i) j pos) (vC (.bool i)) := dv_c pe_bl fun _ _ => .bl i
theorem dv_non {j pos} : DV X ct Wx (.Constant .none j pos) (vC .none) := dv_c pe_non fun _ _ => .non
theorem dv_str {i : Str} {j pos} : DV X ct Wx (.Constant (.str i) j pos) (vC (.str i)) := dv_c pe_str fun _ _ => .str i
/-- a constant of the module -/
def GlC (K : PySem.W.Frag) (mg : Str → Option Value) (x : Str) (d : PyData) : Prop := ∃ v u, mg x = some u ∧ RelV v u ∧ ∀ Fz H, Rp K Fz H v d
theorem dv_glob {x : Str} {d : PyData} (h : GlC X.K X.mg x d) (hg : Gl X x := by rfl) (hd : (x == ("__debug__" : Str)) = false := by decide) : DV X ct Wx (.Name x pos) (vC d) := by
  obtain ⟨v, u, h1, h2, h3⟩ := h
  exact dv_c (pe_glob hg h1 h2 hd) h3

/-! ### two operands -/
def e2 (g : PyData → PyData → Option W) (f1 f2 : Ms → Rz PyData) : Ms → Rz W := fun m => (f1 m).bind fun x => (f2 m).bind fun y => ofO (g x y)
def e1 (g : PyData → Option W) (f : Ms → Rz PyData) : Ms → Rz W := fun m => (f m).bind fun x => ofO (g x)
/-- a rule by values does what g says -/
def OpOk (K : PySem.W.Frag) (r : R2) (g : PyData → PyData → Option W) : Prop :=
  ∀ {B : Hp} {Fz : Addr → Prop} {H : Hp} {σ : L2.St} {m : Ms} {v u : V} {x y : PyData} {w : W} {Q : VK}, Rs K B Fz H σ m → Vw K Fz H v x → Vw K Fz H u y → g x y = some w →
    (∀ v' H', Rs K B Fz H' (some v' :: σ) (some w :: m) → Q v' H') → r v u H Q
theorem op2 {r : R2} {g : PyData → PyData → Option W} {fa fb : Ms → Rz PyData} (hg : OpOk X.K r g) {σ : L2.St} {H : Hp} {Q : VK} (q : tE X.K ct Wx (e2 g fa fb) σ H Q) : tOp r (tR X.K ct Wx fa) (tR X.K ct Wx fb) σ H Q := by
  obtain ⟨B, Fz, m, h, q⟩ := q
  unfold e2 at q
  refine tR_then h ?_
  cases ha : fa m with
  | st => rw [ha] at q; exact q
  | ex c => rw [ha] at q; exact q
  | ok x =>
    intro v H1 Fz1 x1 h1 l1 s1
    rw [ha, Rz.bind_ok] at q
    refine tR_then h1 ?_
    cases hb : fb m with
    | st => rw [hb] at q; exact q
    | ex c => rw [hb] at q; exact fun H' Fz' x2 r2 => q H' Fz' (x1.trans x2) r2
    | ok y =>
      intro u H2 Fz2 x2 h2 l2 s2
      rw [hb, Rz.bind_ok] at q
      cases hw : g x y with
      | none => rw [hw] at q; exact q.elim
      | some w =>
        rw [hw] at q
        exact hg h2 ((s1.le l2).vw h2) (s2.vw h2) hw fun v' H' r => q v' H' Fz2 (x1.trans x2) r
theorem de_op {op : Operator} {r : R2} {g : PyData → PyData → Option W} {fa fb : Ms → Rz PyData} (ho : OpR X (binaryOp op) r) (hg : OpOk X.K r g) (ha : DR X ct Wx a fa) (hb : DR X ct Wx b fb) : DE X ct Wx (.BinOp a op b pos) (e2 g fa fb) :=
  ⟨PE_imp (pe_op ho ha.pe hb.pe) fun _ _ _ q => op2 hg q⟩
/-- by cases of the data -/
theorem OpOk.imm {K : PySem.W.Frag} {B : Hp} {Fz : Addr → Prop} {H : Hp} {σ : L2.St} {m : Ms} {v : V} {x : PyData} {Q : VK} (h : Rs K B Fz H σ m) (r : Rp K Fz H v x) (q : ∀ v' H', Rs K B Fz H' (some v' :: σ) (some (.d x) :: m) → Q v' H') : Q v H := q v H (h.push r)
end
end Dl
set_option Elab.async false
set_option linter.all false
set_option maxRecDepth 100000
/-! D3: operators by data. -/
namespace Dl
open PySem PySem.Spec PyProof.Rows L2

/-! ### what operators give -/
def addD : PyData → PyData → Option W
  | .int i, .int j => some (.d (.int (i + j)))
  | .tuple a, .tuple b => if a.length + b.length ≤ 16000000 then some (.d (.tuple (a ++ b))) else none
  | .list a, .list b => if a.length + b.length ≤ 16000000 then some (.l (a ++ b)) else none
  | .str a, .str b => if a.length + b.length ≤ 16000000 then some (.d (.str (a ++ b))) else none
  | _, _ => none
def subD : PyData → PyData → Option W
  | .int i, .int j => some (.d (.int (i - j)))
  | _, _ => none
def smallI (i : Int) : Prop := -(2 ^ 64) < i ∧ i < 2 ^ 64
instance (i : Int) : Decidable (smallI i) := by unfold smallI; infer_instance
def mulD : PyData → PyData → Option W
  | .int i, .int j => if smallI i ∨ smallI j then some (.d (.int (i * j))) else none
  | .list a, .int k => if (-1000000 ≤ k ∧ k ≤ 1000000) ∧ a.length * k.toNat ≤ 16000000 then some (.l (List.replicate k.toNat a).flatten) else none
  | .tuple a, .int k => if (-1000 ≤ k ∧ k ≤ 1000) ∧ a.length ≤ 1000 then some (.d (.tuple (List.replicate k.toNat a).flatten)) else none
  | _, _ => none
def divD : PyData → PyData → Option W
  | .int i, .int j => if 0 < j ∧ j < 1073741824 then some (.d (.int (i / j))) else none
  | _, _ => none
def modD : PyData → PyData → Option W
  | .int i, .int j => if 0 < j then some (.d (.int (i % j))) else none
  | _, _ => none
def powD : PyData → PyData → Option W
  | .int i, .int j => if 0 ≤ j ∧ j ≤ 1000000 ∧ i.natAbs < 2 ^ 64 then some (.d (.int (i ^ j.toNat))) else none
  | _, _ => none
theorem sz_le : (16000000 : Nat) ≤ sizeLine := by rw [sizeLine_eq]; decide
section
variable {X : Cx}
/-! ### the rules by values -/
def rStrCat : R2 := fun x y H Q => ∃ i j, x = .str i ∧ y = .str j ∧ i.length + j.length ≤ sizeLine ∧ Q (.str (i ++ j)) H
def rAddD (K : PySem.W.Frag) : R2 := fun x y H Q => rI0 (fun i j => .int (i + j)) x y H Q ∨ (rCatA K x y H Q ∨ (rCat x y H Q ∨ rStrCat x y H Q))
theorem op_addD : OpR X (binaryOp .Add) (rAddD X.K) := op_add.or (op_catA.or (op_cat.or op_add_str))
theorem ok_addD {K : PySem.W.Frag} : OpOk K (rAddD K) addD := by
  intro B Fz H σ m v u x y w Q h a b e q
  unfold addD at e
  split at e
  · cases e
    exact .inl ⟨_, _, a.int, b.int, q _ _ (h.push (.int _))⟩
  · split at e
    · rename_i hz
      cases e
      obtain ⟨p, vs, rfl, s1, r1⟩ := a.tup
      obtain ⟨p', us, rfl, s2, r2⟩ := b.tup
      refine .inr (.inl ⟨p, p', vs, us, rfl, rfl, s1, s2, ?_, fun z => ?_, fun _ z => ?_, fun _ _ p hp => ?_⟩)
      · rw [r1.length, r2.length]; exact Nat.le_trans hz sz_le
      · subst z; cases r1
        exact q _ _ (h.push (.tup s2 (by simpa using r2)))
      · subst z; cases r2
        exact q _ _ (h.push (.tup s1 (by simpa using r1)))
      · exact q _ _ (h.newTup hp (r1.append r2))
    · cases e
  · split at e
    · rename_i hz
      cases e
      obtain ⟨p, vs, rfl, s1, r1⟩ := a.list
      obtain ⟨p', us, rfl, s2, r2⟩ := b.list
      refine .inr (.inr (.inl ⟨p, p', vs, us, rfl, rfl, s1, s2, ?_, fun p hp => ?_⟩))
      · rw [r1.length, r2.length]; exact Nat.le_trans hz sz_le
      · exact q _ _ (h.newLst hp (r1.append r2))
    · cases e
  · split at e
    · rename_i hz
      cases e
      exact .inr (.inr (.inr ⟨_, _, a.str, b.str, Nat.le_trans hz sz_le, q _ _ (h.push (.str _))⟩))
    · cases e
  · cases e
theorem ok_subD {K : PySem.W.Frag} : OpOk K (rI0 fun i j => .int (i - j)) subD := by
  intro B Fz H σ m v u x y w Q h a b e q
  unfold subD at e
  split at e
  · cases e
    exact ⟨_, _, a.int, b.int, q _ _ (h.push (.int _))⟩
  · cases e
theorem ok_divD {K : PySem.W.Frag} : OpOk K (rI CDiv fun i j => .int (i / j)) divD := by
  intro B Fz H σ m v u x y w Q h a b e q
  unfold divD at e
  split at e
  · split at e
    · rename_i hz
      cases e
      exact ⟨_, _, a.int, b.int, hz, q _ _ (h.push (.int _))⟩
    · cases e
  · cases e
theorem ok_modD {K : PySem.W.Frag} : OpOk K (rI (fun _ j => 0 < j) fun i j => .int (i % j)) modD := by
  intro B Fz H σ m v u x y w Q h a b e q
  unfold modD at e
  split at e
  · split at e
    · rename_i hz
      cases e
      exact ⟨_, _, a.int, b.int, hz, q _ _ (h.push (.int _))⟩
    · cases e
  · cases e
theorem ok_powD {K : PySem.W.Frag} : OpOk K (rI CPow fun i j => .int (i ^ j.toNat)) powD := by
  intro B Fz H σ m v u x y w Q h a b e q
  unfold powD at e
  split at e
  · split at e
    · rename_i hz
      cases e
      exact ⟨_, _, a.int, b.int, hz, q _ _ (h.push (.int _))⟩
    · cases e
  · cases e

/-! ### a tuple so many times -/
theorem tuple_mul_same (l : Addr) (items : Array Value) (n : Nat) (dd : Option Addr) (sl : Array (Option Value)) (x : Int) (u : Tok) (c0 : (decide (x < -(2 ^ 63)) || decide (x ≥ 2 ^ 63)) = false) (c1 : (items.isEmpty || x == 1) = true) :
    Meets (Builtin.«tuple.__mul__» ⟨[.ref l, .int x u], []⟩) (fun _ R s => s.heap.get? l = some { cls := .type "tuple", dict := dd, data := .seq items n, slots := sl } ∧ R (.ok (.ret (Value.ref l))) s) :=
  .of_wp fun prog w A R s h => by
    obtain ⟨hp, g, d, tk, os⟩ := s
    obtain ⟨hl, h⟩ := h
    have f1 := AutoSeq1.idx_int
    wp_walk using wpAny_loadPart' hl
    repeat (first
      | (refine wpAny_ite_false (decide_eq_false (by rw [c0]; exact Bool.false_ne_true)) ?_; wp_walk using wpAny_loadPart' hl)
      | (refine wpAny_ite_true (decide_eq_true c1) ?_; wp_walk using wpAny_loadPart' hl))
    exact ⟨_, rfl, h⟩
theorem tuple_mul_none (l : Addr) (items : Array Value) (n : Nat) (dd : Option Addr) (sl : Array (Option Value)) (x : Int) (u : Tok) (c0 : (decide (x < -(2 ^ 63)) || decide (x ≥ 2 ^ 63)) = false) (c1 : (items.isEmpty || x == 1) = false) (c2 : (decide (x ≤ 0) || items.isEmpty) = true) :
    Meets (Builtin.«tuple.__mul__» ⟨[.ref l, .int x u], []⟩) (fun _ R s => s.heap.get? l = some { cls := .type "tuple", dict := dd, data := .seq items n, slots := sl } ∧
      R (.ok (.ret (Value.ref s.heap.objs.size))) { s with heap := s.heap.push { cls := Value.type "tuple", data := Data.seq #[] } }) :=
  .of_wp fun prog w A R s h => by
    obtain ⟨hp, g, d, tk, os⟩ := s
    obtain ⟨hl, h⟩ := h
    have f1 := AutoSeq1.idx_int
    have hsz : (#[] : Array Value).size ≤ sizeLine := Nat.zero_le _
    wp_walk using wpAny_loadPart' hl
    repeat (first
      | (refine wpAny_ite_false (decide_eq_false (by rw [c0]; exact Bool.false_ne_true)) ?_; wp_walk using wpAny_loadPart' hl)
      | (refine wpAny_ite_false (decide_eq_false (by rw [c1]; exact Bool.false_ne_true)) ?_; wp_walk using wpAny_loadPart' hl)
      | (refine wpAny_ite_true (decide_eq_true c2) ?_; wp_walk using wpAny_loadPart' hl)
      | (refine wpAny_ite_false (decide_eq_false (Nat.not_lt.mpr hsz)) ?_; wp_walk using wpAny_loadPart' hl))
    exact ⟨_, rfl, h⟩
/-- a tuple times an int, any -/
def rRepA (K : PySem.W.Frag) : R2 := fun x y H Q => ∃ l k xs, x = .ref l ∧ y = .int k ∧ SqT K H l xs ∧ (-1000 ≤ k ∧ k ≤ 1000) ∧ xs.length ≤ 1000 ∧
  (xs = [] ∨ k = 1 → Q (.ref l) H) ∧ (¬ (xs = [] ∨ k = 1) → ∀ p, H p = none → Q (.ref p) (upd H p (.tup (List.replicate k.toNat xs).flatten)))
theorem op_repA : OpR X (binaryOp .Mult) (rRepA X.K) := by
  intro pins s σ H x y v u Q I rx ry h
  obtain ⟨l, k, xs, rfl, rfl, hT, ⟨h1, h2⟩, hz, q1, q2⟩ := h
  by_cases big : xs ≠ [] ∧ 2 ≤ k
  · exact op_repT pins s σ H _ _ v u Q I rx ry ⟨l, k, xs, rfl, rfl, hT, big.1, big.2, h2, hz, q2 fun z => z.elim big.1 fun z => by omega⟩
  · cases rx
    obtain ⟨t, rfl⟩ := ry
    obtain ⟨its, r, ⟨⟨cls, dd, data, sl⟩, ho, hc, n, hd⟩, hs⟩ := I.tuple hT
    simp only at hc hd
    subst hc hd
    have hle : its.length = xs.length := r.length.symm
    have he : its.toArray.isEmpty = decide (xs = []) := by
      cases its with
      | nil =>
        have : xs = [] := List.eq_nil_of_length_eq_zero hle.symm
        simp [this]
      | cons a b =>
        have : xs ≠ [] := fun z => by rw [z] at hle; simp at hle
        simp [this]
    have c0 : (decide (k < -(2 ^ 63)) || decide (k ≥ 2 ^ 63)) = false := by
      rw [decide_eq_false (by omega), decide_eq_false (by omega)] <;> rfl
    by_cases hk : xs = [] ∨ k = 1
    · have c1 : (its.toArray.isEmpty || k == 1) = true := by
        rw [he]
        rcases hk with z | z
        · simp [z]
        · simp [z]
      refine wpAny_binaryOp_repeat_ref (T := "tuple") (U := "int") (by decide) ⟨_, ho, rfl⟩ (fun s' => typeIs_int s' k t) noFill_tuple_mul PySem.F.fills_int_mul PySem.F.slot_int_rmul repeat_tuple PySem.F.slot_int_index.lookup
        (call_meets PySem.F.slot_int_rmul (typeIs_int s k t) PySem.F.entry_int_rmul (PySem.F.args_int_rmul_2 _ _) (int_rmul_tuple k t l its.toArray n dd sl)
          ⟨ho, rfl, ⟨_, ho, rfl⟩, call_meets PySem.F.slot_tuple_mul ⟨_, ho, rfl⟩ PySem.F.entry_tuple_mul (PySem.F.args_tuple_mul_2 _ _) (tuple_mul_same l its.toArray n dd sl k t c0 c1) ⟨ho, ?_⟩⟩)
      exact ⟨.ref l, H, I, rfl, q1 hk⟩
    · have hx : xs ≠ [] := fun z => hk (.inl z)
      have hk1 : k ≠ 1 := fun z => hk (.inr z)
      have hk0 : k ≤ 0 := by
        by_cases z : 2 ≤ k
        · exact absurd ⟨hx, z⟩ big
        · omega
      have c1 : (its.toArray.isEmpty || k == 1) = false := by
        rw [he, decide_eq_false hx, Bool.false_or]
        exact beq_eq_false_iff_ne.mpr hk1
      have c2 : (decide (k ≤ 0) || its.toArray.isEmpty) = true := by
        rw [decide_eq_true hk0] <;> rfl
      refine wpAny_binaryOp_repeat_ref (T := "tuple") (U := "int") (by decide) ⟨_, ho, rfl⟩ (fun s' => typeIs_int s' k t) noFill_tuple_mul PySem.F.fills_int_mul PySem.F.slot_int_rmul repeat_tuple PySem.F.slot_int_index.lookup
        (call_meets PySem.F.slot_int_rmul (typeIs_int s k t) PySem.F.entry_int_rmul (PySem.F.args_int_rmul_2 _ _) (int_rmul_tuple k t l its.toArray n dd sl)
          ⟨ho, rfl, ⟨_, ho, rfl⟩, call_meets PySem.F.slot_tuple_mul ⟨_, ho, rfl⟩ PySem.F.entry_tuple_mul (PySem.F.args_tuple_mul_2 _ _) (tuple_mul_none l its.toArray n dd sl k t c0 c1 c2) ⟨ho, ?_⟩⟩)
      have e0 : (List.replicate k.toNat xs).flatten = [] := by
        have : k.toNat = 0 := by omega
        rw [this] <;> rfl
      refine ⟨.ref s.heap.objs.size, upd H s.heap.objs.size (.tup (List.replicate k.toNat xs).flatten), I.laid (t' := s.toks) (fun b ob q => Heap.get?_push_of_some _ q) (Nat.le_refl _) ?_, rfl, q2 hk _ (I.hok.fresh (Nat.le_refl _))⟩
      rw [e0]
      exact ⟨Nat.zero_le _, [], .nil, IsTup.new _ _⟩
def rMulD (K : PySem.W.Frag) : R2 := fun x y H Q => rI CMul (fun i j => .int (i * j)) x y H Q ∨ (rRep x y H Q ∨ rRepA K x y H Q)
theorem op_mulD : OpR X (binaryOp .Mult) (rMulD X.K) := op_mul.or (op_rep.or op_repA)
theorem ok_mulD {K : PySem.W.Frag} : OpOk K (rMulD K) mulD := by
  intro B Fz H σ m v u x y w Q h a b e q
  unfold mulD at e
  split at e
  · split at e
    · rename_i hz
      cases e
      exact .inl ⟨_, _, a.int, b.int, hz, q _ _ (h.push (.int _))⟩
    · cases e
  · split at e
    · rename_i hz
      cases e
      obtain ⟨p, vs, rfl, s1, r1⟩ := a.list
      refine .inr (.inl ⟨p, _, vs, rfl, b.int, s1, by omega, by omega, ?_, fun p hp => ?_⟩)
      · rw [r1.length]; exact Nat.le_trans hz.2 sz_le
      · exact q _ _ (h.newLst hp (r1.rep _))
    · cases e
  · split at e
    · rename_i k hz
      cases e
      obtain ⟨p, vs, rfl, s1, r1⟩ := a.tup
      refine .inr (.inr ⟨p, _, vs, rfl, b.int, s1, hz.1, by rw [r1.length]; exact hz.2, fun z => ?_, fun _ p hp => ?_⟩)
      · have e0 : (List.replicate k.toNat vs).flatten = vs := by
          rcases z with z | z
          · subst z
            induction k.toNat with
            | zero => rfl
            | succ n ih => rw [List.replicate_succ, List.flatten_cons, ih] <;> rfl
          · subst z
            simp
        have r2 := r1.rep k.toNat
        rw [e0] at r2
        exact q _ _ (h.push (.tup s1 r2))
      · exact q _ _ (h.newTup hp (r1.rep _))
    · cases e
  · cases e

/-! ### comparisons -/
def eqD : PyData → PyData → Option Bool := fun x y => if min x.depth y.depth ≤ 100 then some (PyData.eqv x y) else none
def neD : PyData → PyData → Option Bool := fun x y => if min x.depth y.depth ≤ 100 then some (!PyData.eqv x y) else none
def isNoneD : PyData → Bool
  | .none => true
  | _ => false
theorem isNoneD_iff {x : PyData} : isNoneD x = false ↔ x ≠ .none := by cases x <;> simp [isNoneD]
/-- may be ordered: ints, or data of one shape -/
def canLt : PyData → PyData → Bool
  | .int _, .int _ => true
  | x, y => PySem.W.alike x y && !isNoneD x && decide (min x.depth y.depth ≤ 100)
def ltB : PyData → PyData → Bool
  | .int i, .int j => decide (i < j)
  | x, y => PySem.W.dataLt x y
def ltD (x y : PyData) : Option Bool := if canLt x y = true then some (ltB x y) else none
def gtD (x y : PyData) : Option Bool := ltD y x
def leD (x y : PyData) : Option Bool := (gtD x y).map not
def geD (x y : PyData) : Option Bool := (ltD x y).map not
def isD : PyData → PyData → Option Bool
  | x, .none => some (isNoneD x)
  | .bool a, .bool b => some (a == b)
  | .none, .bool _ => some false
  | .int _, .bool _ => some false
  | .tuple _, .bool _ => some false
  | .list _, .bool _ => some false
  | .str _, .bool _ => some false
  | _, _ => none
def isnotD (x y : PyData) : Option Bool := (isD x y).map not
def inD (x : PyData) : PyData → Option Bool
  | .list xs => if min x.depth (PyData.depthAll xs) ≤ 100 then some (xs.any fun y => PyData.eqv y x) else none
  | .tuple xs => if min x.depth (PyData.depthAll xs) ≤ 100 then some (xs.any fun y => PyData.eqv y x) else none
  | _ => none
def notInD (x y : PyData) : Option Bool := (inD x y).map not
/-- a comparison -/
def CmpOk (K : PySem.W.Frag) (r : R2) (g : PyData → PyData → Option Bool) : Prop :=
  ∀ {Fz : Addr → Prop} {H : Hp} {v u : V} {x y : PyData} {b : Bool} {Q : VK}, Vw K Fz H v x → Vw K Fz H u y → g x y = some b → Q (.bl b) H → r v u H Q
def rOf (P : V → V → Hp → Bool → Prop) : R2 := fun v u H Q => ∃ b, P v u H b ∧ Q (.bl b) H
def pEq (K : PySem.W.Frag) (g : PyData → PyData → Option Bool) : V → V → Hp → Bool → Prop := fun v u H b => ∃ x y, Dp K H v x ∧ Dp K H u y ∧ x.plain = true ∧ y.plain = true ∧ g x y = some b
theorem cmpOk_of {K : PySem.W.Frag} {g : PyData → PyData → Option Bool} : CmpOk K (rOf (pEq K g)) g := fun a b e q => ⟨_, ⟨_, _, a.dp, b.dp, a.plain, b.plain, e⟩, q⟩
/-- from a rule of the model over data -/
theorem op_of {op : CmpOp} {g : PyData → PyData → Option Bool} (h : ∀ (s : Shared) (v u : Value) (x y : PyData) (as bs : List Addr) (b : Bool) (Q : Value → Shared → Prop) (E : Value → Shared → Prop), Reads s.heap v x as → Reads s.heap u y bs →
    x.plain = true → y.plain = true → g x y = some b → (∀ tk, Q (.bool b) { s with toks := tk }) → wpAny (model X.prog X.w) X.A (compareOp op v u) Q E s) : OpR X (compareOp op) (rOf (pEq X.K g)) := by
  intro pins s σ H x y v u Q I rx ry hh
  obtain ⟨b, ⟨dx, dy, a1, a2, p1, p2, e⟩, q⟩ := hh
  obtain ⟨as, r1⟩ := Dp.reads I dx x v a1 rx
  obtain ⟨bs, r2⟩ := Dp.reads I dy y u a2 ry
  exact h s v u dx dy as bs b _ _ r1 r2 p1 p2 e fun tk => ⟨.bl b, H, I.tok tk, rfl, q⟩
theorem op_eqG (hu : X.A.units + 101 < cLine) : OpR X (compareOp .Eq) (rOf (pEq X.K eqD)) := op_of fun s v u x y as bs b Q E r1 r2 p1 p2 e q => by
  unfold eqD at e
  split at e
  · cases e
    exact PySem.SeqAt.eq_plain r1 r2 p1 p2 (by omega) (q s.toks)
  · cases e
theorem op_neG (hu : X.A.units + 101 < cLine) : OpR X (compareOp .NotEq) (rOf (pEq X.K neD)) := op_of fun s v u x y as bs b Q E r1 r2 p1 p2 e q => by
  unfold neD at e
  split at e
  · cases e
    exact PySem.SeqAt.ne_plain r1 r2 p1 p2 (by omega) (q s.toks)
  · cases e
theorem canLt_cases {x y : PyData} (h : canLt x y = true) : (∃ i j, x = .int i ∧ y = .int j ∧ ltB x y = decide (i < j)) ∨ (PySem.W.alike x y = true ∧ x ≠ .none ∧ min x.depth y.depth ≤ 100 ∧ ltB x y = PySem.W.dataLt x y) := by
  unfold canLt at h
  split at h
  · exact .inl ⟨_, _, rfl, rfl, rfl⟩
  · rename_i hn
    simp only [Bool.and_eq_true, decide_eq_true_eq, Bool.not_eq_true'] at h
    refine .inr ⟨h.1.1, isNoneD_iff.mp h.1.2, h.2, ?_⟩
    unfold ltB
    split
    · exact absurd rfl (hn _ _ rfl)
    · rfl
theorem ints_of {h : Heap} {v : Value} {i : Int} {as : List Addr} (r : Reads h v (.int i) as) : ∃ t, v = .int i t := by
  cases r with | int _ t => exact ⟨t, rfl⟩
theorem op_ltG (hu : X.A.units + 101 < cLine) : OpR X (compareOp .Lt) (rOf (pEq X.K ltD)) := op_of fun s v u x y as bs b Q E r1 r2 p1 p2 e q => by
  unfold ltD at e
  split at e
  · rename_i hc
    cases e
    rcases canLt_cases hc with ⟨i, j, rfl, rfl, e⟩ | ⟨h1, h2, h3, e⟩
    · obtain ⟨t, rfl⟩ := ints_of r1
      obtain ⟨t', rfl⟩ := ints_of r2
      rw [e] at q
      exact lt_int (q s.toks)
    · rw [e] at q
      exact PySem.W.lt_data r1 r2 h1 h2 (by omega) (q s.toks)
  · cases e
theorem op_gtG (hu : X.A.units + 101 < cLine) : OpR X (compareOp .Gt) (rOf (pEq X.K gtD)) := op_of fun s v u x y as bs b Q E r1 r2 p1 p2 e q => by
  unfold gtD ltD at e
  split at e
  · rename_i hc
    cases e
    rcases canLt_cases hc with ⟨i, j, rfl, rfl, e⟩ | ⟨h1, h2, h3, e⟩
    · obtain ⟨t, rfl⟩ := ints_of r1
      obtain ⟨t', rfl⟩ := ints_of r2
      rw [e] at q
      exact gt_int (q s.toks)
    · rw [e] at q
      have h1' := (PySem.W.alike_comm y x).symm.trans h1
      exact PySem.W.gt_data r1 r2 h1' (PySem.W.ne_none_both h1 h2) (by omega) (q s.toks)
  · cases e
theorem op_leG (hu : X.A.units + 101 < cLine) : OpR X (compareOp .LtE) (rOf (pEq X.K leD)) := op_of fun s v u x y as bs b Q E r1 r2 p1 p2 e q => by
  unfold leD gtD ltD at e
  split at e
  · rename_i hc
    cases e
    rcases canLt_cases hc with ⟨i, j, rfl, rfl, e⟩ | ⟨h1, h2, h3, e⟩
    · obtain ⟨t, rfl⟩ := ints_of r1
      obtain ⟨t', rfl⟩ := ints_of r2
      rw [e] at q
      have z : (!decide (i < j)) = decide (j ≤ i) := by
        by_cases c : i < j
        · rw [decide_eq_true c, decide_eq_false (by omega)] <;> rfl
        · rw [decide_eq_false c, decide_eq_true (by omega)] <;> rfl
      refine le_int ?_
      rw [← z]
      exact q s.toks
    · rw [e] at q
      have h1' := (PySem.W.alike_comm y x).symm.trans h1
      exact PySem.W.le_data r1 r2 h1' (PySem.W.ne_none_both h1 h2) (by omega) (q s.toks)
  · cases e
theorem op_geG (hu : X.A.units + 101 < cLine) : OpR X (compareOp .GtE) (rOf (pEq X.K geD)) := op_of fun s v u x y as bs b Q E r1 r2 p1 p2 e q => by
  unfold geD ltD at e
  split at e
  · rename_i hc
    cases e
    rcases canLt_cases hc with ⟨i, j, rfl, rfl, e⟩ | ⟨h1, h2, h3, e⟩
    · obtain ⟨t, rfl⟩ := ints_of r1
      obtain ⟨t', rfl⟩ := ints_of r2
      rw [e] at q
      have z : (!decide (i < j)) = decide (j ≤ i) := by
        by_cases c : i < j
        · rw [decide_eq_true c, decide_eq_false (by omega)] <;> rfl
        · rw [decide_eq_false c, decide_eq_true (by omega)] <;> rfl
      refine ge_int ?_
      rw [← z]
      exact q s.toks
    · rw [e] at q
      exact PySem.W.ge_data r1 r2 h1 h2 (by omega) (q s.toks)
  · cases e
end
end Dl
set_option Elab.async false
set_option linter.all false
set_option maxRecDepth 100000
/-! D4: comparisons, tests, and / or / not, conditional expressions, arguments, displays, subscripts, slices. -/
namespace Dl
open PySem PySem.Spec PyProof.Rows L2
def evalAllD : List (Ms → Rz PyData) → Ms → Rz (List PyData)
  | [], _ => .ok []
  | f :: fs, m => (f m).bind fun x => (evalAllD fs m).bind fun xs => .ok (x :: xs)
def tT (K : PySem.W.Frag) (ct : CT) (Wx : WX) (f : Ms → Rz Bool) : TT := fun σ H Q => ∃ B Fz m, Rs K B Fz H σ m ∧
  match f m with
  | .st => False
  | .ok b => ∀ H' Fz', Ext B Fz Fz' → Rs K B Fz' H' σ m → Q b H'
  | .ex c => ∀ H' Fz', Ext B Fz Fz' → Rs K B Fz' H' σ m → Wx (ct c) Option.none σ H'
structure DT (X : Cx) (ct : CT) (Wx : WX) (e : Expr) (f : Ms → Rz Bool) : Prop where
  pt : PT X e (tT X.K ct Wx f)
/-- a test in a row of and / or -/
structure DW (X : Cx) (ct : CT) (Wx : WX) (e : Expr) (f : Ms → Rz Bool) : Prop where
  pw : PW X e (tT X.K ct Wx f)
theorem PT_imp {X : Cx} {e : Expr} {t t' : TT} (h : PT X e t) (q : ∀ σ H Q, t' σ H Q → t σ H Q) : PT X e t' := ⟨fun pins s σ H Q I w => h.run pins s σ H Q I (q _ _ _ w)⟩
theorem PW_imp {X : Cx} {e : Expr} {t t' : TT} (h : PW X e t) (q : ∀ σ H Q, t' σ H Q → t σ H Q) : PW X e t' := ⟨fun wh pins s σ H Q I w => h.run wh pins s σ H Q I (q _ _ _ w)⟩
section
variable {X : Cx} {ct : CT} {Wx : WX} {e a b c : Expr} {pos : Pos}
theorem DW.t {f : Ms → Rz Bool} (h : DW X ct Wx e f) : DT X ct Wx e f := ⟨h.pw.pt⟩
theorem tT_then {K : PySem.W.Frag} {f : Ms → Rz Bool} {B : Hp} {Fz : Addr → Prop} {σ : L2.St} {m : Ms} {H : Hp} {Q : Bool → Hp → Prop} (h : Rs K B Fz H σ m)
    (hk : match f m with
      | .st => False
      | .ok x => ∀ H' Fz', Ext B Fz Fz' → Rs K B Fz' H' σ m → Le Fz H Fz' H' → Q x H'
      | .ex c => ∀ H' Fz', Ext B Fz Fz' → Rs K B Fz' H' σ m → Wx (ct c) Option.none σ H') : tT K ct Wx f σ H Q := by
  obtain ⟨B2, h2, he, ht⟩ := h.step
  refine ⟨B2, Fz, m, h2, ?_⟩
  cases hf : f m with
  | st => rw [hf] at hk; exact hk
  | ex c => rw [hf] at hk; exact fun H' Fz' e r => hk H' Fz' (he _ e) (ht (ρ := []) (r := []) e r rfl).1
  | ok x =>
    rw [hf] at hk
    intro H' Fz' e r
    obtain ⟨r', l⟩ := ht (ρ := []) (r := []) e r rfl
    exact hk H' Fz' (he _ e) r' l

/-! ### comparisons -/
def t2 (g : PyData → PyData → Option Bool) (f1 f2 : Ms → Rz PyData) : Ms → Rz Bool := fun m => (f1 m).bind fun x => (f2 m).bind fun y => ofO (g x y)
def v2 (g : PyData → PyData → Option Bool) (f1 f2 : Ms → Rz PyData) : Ms → Rz PyData := fun m => (t2 g f1 f2 m).map .bool
theorem cmp2 {r : R2} {g : PyData → PyData → Option Bool} {fa fb : Ms → Rz PyData} (hg : CmpOk X.K r g) {σ : L2.St} {H : Hp} {B : Hp} {Fz : Addr → Prop} {m : Ms} {Q : VK} (h : Rs X.K B Fz H σ m)
    (q : match t2 g fa fb m with
      | .st => False
      | .ok b => ∀ H' Fz', Ext B Fz Fz' → Rs X.K B Fz' H' σ m → Q (.bl b) H'
      | .ex c => ∀ H' Fz', Ext B Fz Fz' → Rs X.K B Fz' H' σ m → Wx (ct c) Option.none σ H') : tOp r (tR X.K ct Wx fa) (tR X.K ct Wx fb) σ H Q := by
  unfold t2 at q
  refine tR_then h ?_
  cases ha : fa m with
  | st => rw [ha] at q; exact q
  | ex c => rw [ha] at q; exact q
  | ok x =>
    intro v H1 Fz1 x1 h1 l1 s1
    rw [ha, Rz.bind_ok] at q
    refine tR_then h1 ?_
    cases hb : fb m with
    | st => rw [hb] at q; exact q
    | ex c => rw [hb] at q; exact fun H' Fz' x2 r2 => q H' Fz' (x1.trans x2) r2
    | ok y =>
      intro u H2 Fz2 x2 h2 l2 s2
      rw [hb, Rz.bind_ok] at q
      cases hw : g x y with
      | none => rw [hw] at q; exact q.elim
      | some w =>
        rw [hw] at q
        exact hg ((s1.le l2).vw h2) (s2.vw h2) hw (q H2 Fz2 (x1.trans x2) h2)
theorem dv_cmp {op : CmpOp} {r : R2} {g : PyData → PyData → Option Bool} {fa fb : Ms → Rz PyData} (ho : OpR X (compareOp op) r) (hg : CmpOk X.K r g) (ha : DR X ct Wx a fa) (hb : DR X ct Wx b fb) (hm : behindInMarks op b = false) :
    DV X ct Wx (.Compare a [op] [b] pos) (v2 g fa fb) := ⟨PE_imp (pe_cmpR ho ha.pe hb.pe hm) fun σ H Q ⟨B, Fz, m, h, q⟩ => by
  refine cmp2 hg h ?_
  unfold v2 at q
  cases ht : t2 g fa fb m with
  | st => rw [ht] at q; exact q
  | ex c => rw [ht] at q; exact q
  | ok b => rw [ht] at q; exact fun H' Fz' e r => q _ H' Fz' e ⟨r, .bl b⟩⟩
theorem dt_cmp {op : CmpOp} {r : R2} {g : PyData → PyData → Option Bool} {fa fb : Ms → Rz PyData} (ho : OpR X (compareOp op) r) (hg : CmpOk X.K r g) (ha : DR X ct Wx a fa) (hb : DR X ct Wx b fb) (hm : behindInMarks op b = false) :
    DT X ct Wx (.Compare a [op] [b] pos) (t2 g fa fb) := ⟨PT_imp (pt_cmpR ho ha.pe hb.pe hm) fun σ H Q ⟨B, Fz, m, h, q⟩ => by
  refine cmp2 hg h ?_
  cases ht : t2 g fa fb m with
  | st => rw [ht] at q; exact q
  | ex c => rw [ht] at q; exact q
  | ok b => rw [ht] at q; exact fun H' Fz' e r => ⟨b, rfl, q H' Fz' e r⟩⟩
/-- a < b < c -/
def t3 (g g' : PyData → PyData → Option Bool) (f1 f2 f3 : Ms → Rz PyData) : Ms → Rz Bool := fun m => (f1 m).bind fun x => (f2 m).bind fun y => (ofO (g x y)).bind fun b => if b = true then (f3 m).bind fun z => ofO (g' y z) else .ok false
def v3 (g g' : PyData → PyData → Option Bool) (f1 f2 f3 : Ms → Rz PyData) : Ms → Rz PyData := fun m => (t3 g g' f1 f2 f3 m).map .bool
theorem chain3 {r r' : R2} {g g' : PyData → PyData → Option Bool} {fa fb fc : Ms → Rz PyData} (hg : CmpOk X.K r g) (hg' : CmpOk X.K r' g') {σ : L2.St} {H : Hp} {B : Hp} {Fz : Addr → Prop} {m : Ms} {Q : VK} (h : Rs X.K B Fz H σ m)
    (q : match t3 g g' fa fb fc m with
      | .st => False
      | .ok b => ∀ H' Fz', Ext B Fz Fz' → Rs X.K B Fz' H' σ m → Q (.bl b) H'
      | .ex c => ∀ H' Fz', Ext B Fz Fz' → Rs X.K B Fz' H' σ m → Wx (ct c) Option.none σ H') : tChain r r' (tR X.K ct Wx fa) (tR X.K ct Wx fb) (tR X.K ct Wx fc) σ H Q := by
  unfold t3 at q
  refine tR_then h ?_
  cases ha : fa m with
  | st => rw [ha] at q; exact q
  | ex c => rw [ha] at q; exact q
  | ok x =>
    intro v H1 Fz1 x1 h1 l1 s1
    rw [ha, Rz.bind_ok] at q
    refine tR_then h1 ?_
    cases hb : fb m with
    | st => rw [hb] at q; exact q
    | ex c => rw [hb] at q; exact fun H' Fz' x2 r2 => q H' Fz' (x1.trans x2) r2
    | ok y =>
      intro u H2 Fz2 x2 h2 l2 s2
      rw [hb, Rz.bind_ok] at q
      cases hw : g x y with
      | none => rw [hw] at q; exact q.elim
      | some w =>
        rw [hw, ofO_some, Rz.bind_ok] at q
        refine hg ((s1.le l2).vw h2) (s2.vw h2) hw ⟨w, rfl, ?_⟩
        cases w with
        | false =>
          rw [if_neg Bool.false_ne_true] at q ⊢
          exact q H2 Fz2 (x1.trans x2) h2
        | true =>
          rw [if_pos rfl] at q ⊢
          refine tR_then h2 ?_
          cases hc : fc m with
          | st => rw [hc] at q; exact q
          | ex c => rw [hc] at q; exact fun H' Fz' x3 r3 => q H' Fz' ((x1.trans x2).trans x3) r3
          | ok z =>
            intro t H3 Fz3 x3 h3 l3 s3
            rw [hc, Rz.bind_ok] at q
            cases hw' : g' y z with
            | none => rw [hw'] at q; exact q.elim
            | some w =>
              rw [hw'] at q
              exact hg' ((s2.le l3).vw h3) (s3.vw h3) hw' (q H3 Fz3 ((x1.trans x2).trans x3) h3)
theorem dv_chain {op op' : CmpOp} {r r' : R2} {g g' : PyData → PyData → Option Bool} {fa fb fc : Ms → Rz PyData} (ho : OpR X (compareOp op) r) (ho' : OpR X (compareOp op') r') (hg : CmpOk X.K r g) (hg' : CmpOk X.K r' g') (ha : DR X ct Wx a fa) (hb : DR X ct Wx b fb) (hc : DR X ct Wx c fc)
    (hm : lastMarks [op, op'] [b, c] = false := by with_unfolding_all rfl) : DV X ct Wx (.Compare a [op, op'] [b, c] pos) (v3 g g' fa fb fc) := ⟨PE_imp (pe_chain ho ho' ha.pe hb.pe hc.pe hm) fun σ H Q ⟨B, Fz, m, h, q⟩ => by
  refine chain3 hg hg' h ?_
  unfold v3 at q
  cases ht : t3 g g' fa fb fc m with
  | st => rw [ht] at q; exact q
  | ex c => rw [ht] at q; exact q
  | ok b => rw [ht] at q; exact fun H' Fz' e r => q _ H' Fz' e ⟨r, .bl b⟩⟩
theorem dt_chain {op op' : CmpOp} {r r' : R2} {g g' : PyData → PyData → Option Bool} {fa fb fc : Ms → Rz PyData} (ho : OpR X (compareOp op) r) (ho' : OpR X (compareOp op') r') (hg : CmpOk X.K r g) (hg' : CmpOk X.K r' g') (ha : DR X ct Wx a fa) (hb : DR X ct Wx b fb) (hc : DR X ct Wx c fc)
    (hm : lastMarks [op, op'] [b, c] = false := by with_unfolding_all rfl) : DT X ct Wx (.Compare a [op, op'] [b, c] pos) (t3 g g' fa fb fc) := ⟨PT_imp (pt_chain ho ho' ha.pe hb.pe hc.pe hm) fun σ H Q ⟨B, Fz, m, h, q⟩ => by
  refine chain3 hg hg' h ?_
  cases ht : t3 g g' fa fb fc m with
  | st => rw [ht] at q; exact q
  | ex c => rw [ht] at q; exact q
  | ok b => rw [ht] at q; exact fun H' Fz' e r => ⟨b, rfl, q H' Fz' e r⟩⟩

/-! ### tests -/
def boolD : PyData → Rz Bool
  | .bool b => .ok b
  | _ => .st
def tV' (f : Ms → Rz PyData) : Ms → Rz Bool := fun m => (f m).bind boolD
/-- an expression whose value is True or False -/
theorem dt_val {f : Ms → Rz PyData} (h : DR X ct Wx e f) (he : ∀ whole, isTrue e X.env whole = (do let v ← whole; standAt e.pos; holding [v] (truthy v)) := by intro _; rfl) : DT X ct Wx e (tV' f) := ⟨PT_imp (pt_val h.pe he) fun σ H Q ⟨B, Fz, m, h, q⟩ => by
  unfold tV' at q
  refine tR_then h ?_
  cases hf : f m with
  | st => rw [hf] at q; exact q
  | ex c => rw [hf] at q; exact q
  | ok x =>
    intro v H1 Fz1 x1 h1 l1 s1
    rw [hf, Rz.bind_ok] at q
    cases x with
    | bool b => exact ⟨b, (s1.vw h1).bool, q H1 Fz1 x1 h1⟩
    | _ => exact q.elim⟩
def tAnd' (f g : Ms → Rz Bool) : Ms → Rz Bool := fun m => (f m).bind fun b => if b = true then g m else .ok false
def tOr' (f g : Ms → Rz Bool) : Ms → Rz Bool := fun m => (f m).bind fun b => if b = true then .ok true else g m
def tNot' (f : Ms → Rz Bool) : Ms → Rz Bool := fun m => (f m).map not
theorem dt_not {f : Ms → Rz Bool} (h : DT X ct Wx a f) : DT X ct Wx (.UnaryOp .Not a pos) (tNot' f) := ⟨PT_imp (pt_not h.pt) fun σ H Q ⟨B, Fz, m, h, q⟩ => by
  unfold tNot' at q
  refine tT_then h ?_
  cases hf : f m with
  | st => rw [hf] at q; exact q
  | ex c => rw [hf] at q; exact q
  | ok x => rw [hf] at q; exact fun H1 Fz1 x1 h1 l1 => q H1 Fz1 x1 h1⟩
theorem dw_and1 {f : Ms → Rz Bool} (h : DT X ct Wx a f) : DW X ct Wx (.BoolOp .And [a] pos) f := ⟨pw_and1 h.pt⟩
theorem dw_or1 {f : Ms → Rz Bool} (h : DT X ct Wx a f) : DW X ct Wx (.BoolOp .Or [a] pos) f := ⟨pw_or1 h.pt⟩
theorem dw_and {rest : List Expr} {f g : Ms → Rz Bool} (h : DT X ct Wx a f) (h2 : DW X ct Wx (.BoolOp .And (b :: rest) pos) g) : DW X ct Wx (.BoolOp .And (a :: b :: rest) pos) (tAnd' f g) := ⟨PW_imp (pw_and h.pt h2.pw) fun σ H Q ⟨B, Fz, m, h, q⟩ => by
  unfold tAnd' at q
  refine tT_then h ?_
  cases hf : f m with
  | st => rw [hf] at q; exact q
  | ex c => rw [hf] at q; exact q
  | ok x =>
    intro H1 Fz1 x1 h1 l1
    rw [hf, Rz.bind_ok] at q
    cases x with
    | false => exact q H1 Fz1 x1 h1
    | true =>
      rw [if_pos rfl] at q ⊢
      refine tT_then h1 ?_
      cases hg : g m with
      | st => rw [hg] at q; exact q
      | ex c => rw [hg] at q; exact fun H2 Fz2 x2 r2 => q H2 Fz2 (x1.trans x2) r2
      | ok y => rw [hg] at q; exact fun H2 Fz2 x2 r2 _ => q H2 Fz2 (x1.trans x2) r2⟩
theorem dw_or {rest : List Expr} {f g : Ms → Rz Bool} (h : DT X ct Wx a f) (h2 : DW X ct Wx (.BoolOp .Or (b :: rest) pos) g) : DW X ct Wx (.BoolOp .Or (a :: b :: rest) pos) (tOr' f g) := ⟨PW_imp (pw_or h.pt h2.pw) fun σ H Q ⟨B, Fz, m, h, q⟩ => by
  unfold tOr' at q
  refine tT_then h ?_
  cases hf : f m with
  | st => rw [hf] at q; exact q
  | ex c => rw [hf] at q; exact q
  | ok x =>
    intro H1 Fz1 x1 h1 l1
    rw [hf, Rz.bind_ok] at q
    cases x with
    | true => exact q H1 Fz1 x1 h1
    | false =>
      rw [if_neg Bool.false_ne_true] at q ⊢
      refine tT_then h1 ?_
      cases hg : g m with
      | st => rw [hg] at q; exact q
      | ex c => rw [hg] at q; exact fun H2 Fz2 x2 r2 => q H2 Fz2 (x1.trans x2) r2
      | ok y => rw [hg] at q; exact fun H2 Fz2 x2 r2 _ => q H2 Fz2 (x1.trans x2) r2⟩
/-- values: and, or (all but the last True or False), not -/
def vAnd (f g : Ms → Rz PyData) : Ms → Rz PyData := fun m => (f m).bind fun x => (boolD x).bind fun b => if b = true then g m else .ok (.bool false)
def vOr (f g : Ms → Rz PyData) : Ms → Rz PyData := fun m => (f m).bind fun x => (boolD x).bind fun b => if b = true then .ok (.bool true) else g m
def vNot (f : Ms → Rz PyData) : Ms → Rz PyData := fun m => (f m).bind fun x => (boolD x).map fun b => .bool (!b)
theorem dv_one {op} {f : Ms → Rz PyData} (h : DV X ct Wx a f) : DV X ct Wx (.BoolOp op [a] pos) f := ⟨pe_one h.pe⟩
theorem dv_and {rest : List Expr} {f g : Ms → Rz PyData} (h : DV X ct Wx a f) (h2 : DV X ct Wx (.BoolOp .And (b :: rest) pos) g) : DV X ct Wx (.BoolOp .And (a :: b :: rest) pos) (vAnd f g) := ⟨PE_imp (pe_and h.pe h2.pe) fun σ H Q ⟨B, Fz, m, h, q⟩ => by
  unfold vAnd at q
  refine tV_then h ?_
  cases hf : f m with
  | st => rw [hf] at q; exact q
  | ex c => rw [hf] at q; exact q
  | ok x =>
    intro v H1 Fz1 x1 h1 l1 r1
    rw [hf, Rz.bind_ok] at q
    cases x with
    | bool b =>
      cases r1
      refine ⟨b, rfl, ?_⟩
      have q : _ := q
      cases b with
      | false => exact q _ H1 Fz1 x1 ⟨h1, .bl false⟩
      | true =>
        rw [if_pos rfl]
        refine tV_then h1 ?_
        simp only [boolD, Rz.bind_ok, if_pos, if_neg, Bool.false_eq_true, if_false, if_true] at q
        cases hg : g m with
        | st => rw [hg] at q; exact q
        | ex c => rw [hg] at q; exact fun H2 Fz2 x2 r2 => q H2 Fz2 (x1.trans x2) r2
        | ok y => rw [hg] at q; exact fun v H2 Fz2 x2 r2 _ p => q v H2 Fz2 (x1.trans x2) ⟨r2, p⟩
    | _ => exact q.elim⟩
theorem dv_or {rest : List Expr} {f g : Ms → Rz PyData} (h : DV X ct Wx a f) (h2 : DV X ct Wx (.BoolOp .Or (b :: rest) pos) g) : DV X ct Wx (.BoolOp .Or (a :: b :: rest) pos) (vOr f g) := ⟨PE_imp (pe_or h.pe h2.pe) fun σ H Q ⟨B, Fz, m, h, q⟩ => by
  unfold vOr at q
  refine tV_then h ?_
  cases hf : f m with
  | st => rw [hf] at q; exact q
  | ex c => rw [hf] at q; exact q
  | ok x =>
    intro v H1 Fz1 x1 h1 l1 r1
    rw [hf, Rz.bind_ok] at q
    cases x with
    | bool b =>
      cases r1
      refine ⟨b, rfl, ?_⟩
      cases b with
      | true => exact q _ H1 Fz1 x1 ⟨h1, .bl true⟩
      | false =>
        rw [if_neg Bool.false_ne_true]
        refine tV_then h1 ?_
        simp only [boolD, Rz.bind_ok, if_pos, if_neg, Bool.false_eq_true, if_false, if_true] at q
        cases hg : g m with
        | st => rw [hg] at q; exact q
        | ex c => rw [hg] at q; exact fun H2 Fz2 x2 r2 => q H2 Fz2 (x1.trans x2) r2
        | ok y => rw [hg] at q; exact fun v H2 Fz2 x2 r2 _ p => q v H2 Fz2 (x1.trans x2) ⟨r2, p⟩
    | _ => exact q.elim⟩
theorem dv_not {f : Ms → Rz PyData} (h : DV X ct Wx a f) : DV X ct Wx (.UnaryOp .Not a pos) (vNot f) := ⟨PE_imp (pe_not h.pe) fun σ H Q ⟨B, Fz, m, h, q⟩ => by
  unfold vNot at q
  refine tV_then h ?_
  cases hf : f m with
  | st => rw [hf] at q; exact q
  | ex c => rw [hf] at q; exact q
  | ok x =>
    intro v H1 Fz1 x1 h1 l1 r1
    rw [hf, Rz.bind_ok] at q
    cases x with
    | bool b =>
      cases r1
      exact ⟨b, rfl, q _ H1 Fz1 x1 ⟨h1, .bl _⟩⟩
    | _ => exact q.elim⟩
def vIf (t : Ms → Rz Bool) (f g : Ms → Rz PyData) : Ms → Rz PyData := fun m => (t m).bind fun b => if b = true then f m else g m
theorem dv_if {t : Ms → Rz Bool} {f g : Ms → Rz PyData} (ht : DT X ct Wx c t) (hf : DV X ct Wx a f) (hg : DV X ct Wx b g) : DV X ct Wx (.IfExp c a b pos) (vIf t f g) := ⟨PE_imp (pe_ifExp ht.pt hf.pe hg.pe) fun σ H Q ⟨B, Fz, m, h, q⟩ => by
  unfold vIf at q
  refine tT_then h ?_
  cases hf : t m with
  | st => rw [hf] at q; exact q
  | ex c => rw [hf] at q; exact q
  | ok x =>
    intro H1 Fz1 x1 h1 l1
    rw [hf, Rz.bind_ok] at q
    cases x with
    | true =>
      rw [if_pos rfl] at q ⊢
      refine tV_then h1 ?_
      cases hg : f m with
      | st => rw [hg] at q; exact q
      | ex c => rw [hg] at q; exact fun H2 Fz2 x2 r2 => q H2 Fz2 (x1.trans x2) r2
      | ok y => rw [hg] at q; exact fun v H2 Fz2 x2 r2 _ p => q v H2 Fz2 (x1.trans x2) ⟨r2, p⟩
    | false =>
      rw [if_neg Bool.false_ne_true] at q ⊢
      refine tV_then h1 ?_
      cases hg : g m with
      | st => rw [hg] at q; exact q
      | ex c => rw [hg] at q; exact fun H2 Fz2 x2 r2 => q H2 Fz2 (x1.trans x2) r2
      | ok y => rw [hg] at q; exact fun v H2 Fz2 x2 r2 _ p => q v H2 Fz2 (x1.trans x2) ⟨r2, p⟩⟩

/-! ### arguments, displays -/
def tAv (K : PySem.W.Frag) (ct : CT) (Wx : WX) (fs : List (Ms → Rz PyData)) : TA := fun σ H Q => ∃ B Fz m, Rs K B Fz H σ m ∧
  match evalAllD fs m with
  | .st => False
  | .ok xs => ∀ vs H' Fz', Ext B Fz Fz' → Rs K B Fz' H' σ m → RpAll K Fz' H' vs xs → Q vs H'
  | .ex c => ∀ H' Fz', Ext B Fz Fz' → Rs K B Fz' H' σ m → Wx (ct c) Option.none σ H'
structure DA (X : Cx) (ct : CT) (Wx : WX) (es : List Expr) (fs : List (Ms → Rz PyData)) : Prop where
  pa : PA X es (tAv X.K ct Wx fs)
theorem PA_imp {es : List Expr} {t t' : TA} (h : PA X es t) (q : ∀ σ H Q, t' σ H Q → t σ H Q) : PA X es t' := ⟨fun p pins s σ H Q I w => h.run p pins s σ H Q I (q _ _ _ w)⟩
theorem da_nil : DA X ct Wx [] [] := ⟨PA_imp pa_nil fun σ H Q ⟨B, Fz, m, h, q⟩ => q [] H Fz .refl h .nil⟩
theorem tAv_then {K : PySem.W.Frag} {fs : List (Ms → Rz PyData)} {B : Hp} {Fz : Addr → Prop} {σ : L2.St} {m : Ms} {H : Hp} {Q : List V → Hp → Prop} (h : Rs K B Fz H σ m)
    (hk : match evalAllD fs m with
      | .st => False
      | .ok xs => ∀ vs H' Fz', Ext B Fz Fz' → Rs K B Fz' H' σ m → Le Fz H Fz' H' → RpAll K Fz' H' vs xs → Q vs H'
      | .ex c => ∀ H' Fz', Ext B Fz Fz' → Rs K B Fz' H' σ m → Wx (ct c) Option.none σ H') : tAv K ct Wx fs σ H Q := by
  obtain ⟨B2, h2, he, ht⟩ := h.step
  refine ⟨B2, Fz, m, h2, ?_⟩
  cases hf : evalAllD fs m with
  | st => rw [hf] at hk; exact hk
  | ex c => rw [hf] at hk; exact fun H' Fz' e r => hk H' Fz' (he _ e) (ht (ρ := []) (r := []) e r rfl).1
  | ok x =>
    rw [hf] at hk
    intro vs H' Fz' e r s
    obtain ⟨r', l⟩ := ht (ρ := []) (r := []) e r rfl
    exact hk vs H' Fz' (he _ e) r' l s
theorem da_cons {es : List Expr} {f : Ms → Rz PyData} {fs : List (Ms → Rz PyData)} (ha : DV X ct Wx e f) (hs : DA X ct Wx es fs) (hst : starEach (e :: es) X.env = (false, eval e X.env) :: starEach es X.env := by rfl) : DA X ct Wx (e :: es) (f :: fs) := ⟨PA_imp (pa_cons ha.pe hs.pa hst) fun σ H Q ⟨B, Fz, m, h, q⟩ => by
  refine tV_then h ?_
  cases hf : f m with
  | st => simp only [evalAllD, hf, Rz.bind_st] at q
  | ex c => simp only [evalAllD, hf, Rz.bind_ex] at q; exact q
  | ok x =>
    intro v H1 Fz1 x1 h1 l1 s1
    simp only [evalAllD, hf, Rz.bind_ok] at q
    refine tAv_then h1 ?_
    cases hg : evalAllD fs m with
    | st => rw [hg] at q; exact q
    | ex c => rw [hg] at q; exact fun H2 Fz2 x2 r2 => q H2 Fz2 (x1.trans x2) r2
    | ok xs =>
      rw [hg] at q
      exact fun vs H2 Fz2 x2 r2 l2 s2 => q (v :: vs) H2 Fz2 (x1.trans x2) r2 (.cons (s1.mono l2) s2)⟩
def eTup (fs : List (Ms → Rz PyData)) : Ms → Rz PyData := fun m => (evalAllD fs m).map .tuple
def eLst (fs : List (Ms → Rz PyData)) : Ms → Rz W := fun m => (evalAllD fs m).map .l
theorem evalAllD_len : ∀ {fs : List (Ms → Rz PyData)} {m : Ms} {xs : List PyData}, evalAllD fs m = .ok xs → xs.length = fs.length
  | [], m, xs, h => by simp only [evalAllD] at h; cases h; rfl
  | f :: fs, m, xs, h => by
    simp only [evalAllD] at h
    cases hf : f m with
    | st => rw [hf] at h; cases h
    | ex c => rw [hf] at h; cases h
    | ok x =>
      rw [hf, Rz.bind_ok] at h
      cases hg : evalAllD fs m with
      | st => rw [hg] at h; cases h
      | ex c => rw [hg] at h; cases h
      | ok ys =>
        rw [hg] at h
        cases h
        rw [List.length_cons, List.length_cons, evalAllD_len hg]
theorem dv_tup {es : List Expr} {fs : List (Ms → Rz PyData)} {x1} (h : DA X ct Wx es fs) (hz : fs.length ≤ 1000 := by decide) : DV X ct Wx (.Tuple es x1 pos) (eTup fs) := ⟨PE_imp (pe_tup h.pa) fun σ H Q ⟨B, Fz, m, h, q⟩ => by
  unfold eTup at q
  refine tAv_then h ?_
  cases hf : evalAllD fs m with
  | st => rw [hf] at q; exact q
  | ex c => rw [hf] at q; exact q
  | ok xs =>
    intro vs H1 Fz1 x1 h1 l1 s1
    rw [hf] at q
    have z := evalAllD_len hf
    refine ⟨?_, fun p hp => ?_⟩
    · rw [s1.length, z]; exact Nat.le_trans (Nat.le_trans hz (by decide)) sz_le
    · have r := h1.newTup hp s1
      exact q _ _ Fz1 x1 ⟨r.pop, r.top⟩⟩
theorem de_lst {es : List Expr} {fs : List (Ms → Rz PyData)} (h : DA X ct Wx es fs) (hz : fs.length ≤ 1000 := by decide) : DE X ct Wx (.List es pos) (eLst fs) := ⟨PE_imp (pe_lst h.pa) fun σ H Q ⟨B, Fz, m, h, q⟩ => by
  unfold eLst at q
  refine tAv_then h ?_
  cases hf : evalAllD fs m with
  | st => rw [hf] at q; exact q
  | ex c => rw [hf] at q; exact q
  | ok xs =>
    intro vs H1 Fz1 x1 h1 l1 s1
    rw [hf] at q
    have z := evalAllD_len hf
    refine ⟨?_, fun p hp => ?_⟩
    · rw [s1.length, z]; exact Nat.le_trans (Nat.le_trans hz (by decide)) sz_le
    · exact q _ _ Fz1 x1 (h1.newLst hp s1)⟩

/-! ### unary, subscripts, slices -/
def negD : PyData → Option W
  | .int i => some (.d (.int (-i)))
  | _ => none
theorem de_neg {f : Ms → Rz PyData} (h : DR X ct Wx a f) : DE X ct Wx (.UnaryOp .USub a pos) (e1 negD f) := ⟨PE_imp (pe_un un_neg h.pe) fun σ H Q ⟨B, Fz, m, h, q⟩ => by
  unfold e1 at q
  refine tR_then h ?_
  cases hf : f m with
  | st => rw [hf] at q; exact q
  | ex c => rw [hf] at q; exact q
  | ok x =>
    intro v H1 Fz1 x1 h1 l1 s1
    rw [hf, Rz.bind_ok] at q
    cases x with
    | int i => exact ⟨i, (s1.vw h1).int, q _ _ Fz1 x1 (h1.push (.int _))⟩
    | _ => exact q.elim⟩
/-- the item of any sign's place -/
def ixD : PyData → PyData → Option W
  | .list xs, .int i => (atI xs i).map .d
  | .tuple xs, .int i => (atI xs i).map .d
  | _, _ => none
theorem rp_atI {K : PySem.W.Frag} {Fz : Addr → Prop} {H : Hp} {vs : List V} {xs : List PyData} {i : Int} {x : PyData} (r : RpAll K Fz H vs xs) (e : atI xs i = some x) : ∃ v, atI vs i = some v ∧ Rp K Fz H v x := by
  unfold atI at e ⊢
  rw [r.length]
  cases hj : ixN xs.length i with
  | none => rw [hj] at e; cases e
  | some j =>
    rw [hj] at e
    obtain ⟨v, h1, h2⟩ := r.get' (i := j) (by simpa using e)
    exact ⟨v, by simpa using h1, h2⟩
theorem ok_ixD {K : PySem.W.Frag} : OpOk K (rIx K) ixD := by
  intro B Fz H σ m v u x y w Q h a b e q
  unfold ixD at e
  split at e
  · rename_i xs i
    cases ha : atI xs i with
    | none => rw [ha] at e; cases e
    | some z =>
      rw [ha] at e; cases e
      obtain ⟨p, vs, rfl, s1, r1⟩ := a.list
      obtain ⟨v', e1, r'⟩ := rp_atI r1 ha
      exact .inl ⟨p, vs, i, v', rfl, b.int, .inl (.inl s1), e1, q _ _ (h.push r')⟩
  · rename_i xs i
    cases ha : atI xs i with
    | none => rw [ha] at e; cases e
    | some z =>
      rw [ha] at e; cases e
      obtain ⟨p, vs, rfl, s1, r1⟩ := a.tup
      obtain ⟨v', e1, r'⟩ := rp_atI r1 ha
      exact .inr (.inl ⟨p, vs, i, v', rfl, b.int, s1, e1, q _ _ (h.push r')⟩)
  · cases e
theorem de_ix {fa fb : Ms → Rz PyData} (ha : DR X ct Wx a fa) (hb : DR X ct Wx b fb) (hs : PlainIx b := by exact fun _ _ => rfl) : DE X ct Wx (.Subscript a b pos) (e2 ixD fa fb) :=
  ⟨PE_imp (pe_ix ix_seq ha.pe hb.pe hs) fun _ _ _ q => op2 ok_ixD q⟩
/-- a part of a slice -/
def tO (K : PySem.W.Frag) (ct : CT) (Wx : WX) (f : Ms → Rz (Option Int)) : TO := fun σ H Q => ∃ B Fz m, Rs K B Fz H σ m ∧
  match f m with
  | .st => False
  | .ok o => ∀ H' Fz', Ext B Fz Fz' → Rs K B Fz' H' σ m → Q o H'
  | .ex c => ∀ H' Fz', Ext B Fz Fz' → Rs K B Fz' H' σ m → Wx (ct c) Option.none σ H'
structure DO (X : Cx) (ct : CT) (Wx : WX) (e : Option Expr) (f : Ms → Rz (Option Int)) : Prop where
  po : PO X e (tO X.K ct Wx f)
theorem PO_imp {e : Option Expr} {t t' : TO} (h : PO X e t) (q : ∀ σ H Q, t' σ H Q → t σ H Q) : PO X e t' := ⟨fun pins s σ H Q I w => h.run pins s σ H Q I (q _ _ _ w)⟩
def oNone : Ms → Rz (Option Int) := fun _ => .ok none
def intD : PyData → Rz Int
  | .int i => .ok i
  | _ => .st
def oSome (f : Ms → Rz PyData) : Ms → Rz (Option Int) := fun m => (f m).bind fun x => (intD x).map some
theorem do_none : DO X ct Wx none oNone := ⟨PO_imp po_none fun σ H Q ⟨B, Fz, m, h, q⟩ => q H Fz .refl h⟩
theorem do_some {f : Ms → Rz PyData} (h : DR X ct Wx e f) : DO X ct Wx (some e) (oSome f) := ⟨PO_imp (po_some h.pe) fun σ H Q ⟨B, Fz, m, h, q⟩ => by
  unfold oSome at q
  refine tR_then h ?_
  cases hf : f m with
  | st => rw [hf] at q; exact q
  | ex c => rw [hf] at q; exact q
  | ok x =>
    intro v H1 Fz1 x1 h1 l1 s1
    rw [hf, Rz.bind_ok] at q
    cases x with
    | int i => exact ⟨i, (s1.vw h1).int, q H1 Fz1 x1 h1⟩
    | _ => exact q.elim⟩
theorem tO_then {K : PySem.W.Frag} {f : Ms → Rz (Option Int)} {B : Hp} {Fz : Addr → Prop} {σ : L2.St} {m : Ms} {H : Hp} {Q : Option Int → Hp → Prop} (h : Rs K B Fz H σ m)
    (hk : match f m with
      | .st => False
      | .ok x => ∀ H' Fz', Ext B Fz Fz' → Rs K B Fz' H' σ m → Le Fz H Fz' H' → Q x H'
      | .ex c => ∀ H' Fz', Ext B Fz Fz' → Rs K B Fz' H' σ m → Wx (ct c) Option.none σ H') : tO K ct Wx f σ H Q := by
  obtain ⟨B2, h2, he, ht⟩ := h.step
  refine ⟨B2, Fz, m, h2, ?_⟩
  cases hf : f m with
  | st => rw [hf] at hk; exact hk
  | ex c => rw [hf] at hk; exact fun H' Fz' e r => hk H' Fz' (he _ e) (ht (ρ := []) (r := []) e r rfl).1
  | ok x =>
    rw [hf] at hk
    intro H' Fz' e r
    obtain ⟨r', l⟩ := ht (ρ := []) (r := []) e r rfl
    exact hk H' Fz' (he _ e) r' l
/-- xs[lo:hi] -/
def cutL {α : Type} (xs : List α) (lo hi : Option Int) : List α := (xs.drop (HT.sIx xs.length 0 lo)).take (HT.sIx xs.length xs.length hi - HT.sIx xs.length 0 lo)
def slD (x : PyData) (lo hi : Option Int) : Option W := match x with
  | .list xs => some (.l (cutL xs lo hi))
  | .tuple xs => some (.d (.tuple (cutL xs lo hi)))
  | _ => none
theorem rp_cut {K : PySem.W.Frag} {Fz : Addr → Prop} {H : Hp} {vs : List V} {xs : List PyData} (r : RpAll K Fz H vs xs) (lo hi : Option Int) : RpAll K Fz H (cutV vs lo hi) (cutL xs lo hi) := by
  unfold cutV cutL
  rw [r.length]
  exact (r.drop _).take _
def rSlD (K : PySem.W.Frag) : V → Option Int → Option Int → Hp → VK → Prop := fun x lo hi H Q => rSlL K x lo hi H Q ∨ rSlA K x lo hi H Q
def eSl (f : Ms → Rz PyData) (l u : Ms → Rz (Option Int)) : Ms → Rz W := fun m => (f m).bind fun x => (l m).bind fun lo => (u m).bind fun hi => ofO (slD x lo hi)
theorem de_sl {lo hi : Option Expr} {f : Ms → Rz PyData} {fl fu : Ms → Rz (Option Int)} {p2 : Pos} (h : DR X ct Wx e f) (hl : DO X ct Wx lo fl) (hu : DO X ct Wx hi fu) : DE X ct Wx (.Subscript e (.Slice lo hi none p2) pos) (eSl f fl fu) := ⟨PE_imp (pe_slice (r := rSlD X.K) (SlR.or sl_list sl_tupA) h.pe hl.po hu.po) fun σ H Q ⟨B, Fz, m, h, q⟩ => by
  unfold eSl at q
  refine tR_then h ?_
  cases hf : f m with
  | st => rw [hf] at q; exact q
  | ex c => rw [hf] at q; exact q
  | ok x =>
    intro v H1 Fz1 x1 h1 l1 s1
    rw [hf, Rz.bind_ok] at q
    refine tO_then h1 ?_
    cases hfl : fl m with
    | st => rw [hfl] at q; exact q
    | ex c => rw [hfl] at q; exact fun H2 Fz2 x2 r2 => q H2 Fz2 (x1.trans x2) r2
    | ok lo =>
      intro H2 Fz2 x2 h2 l2
      rw [hfl, Rz.bind_ok] at q
      refine tO_then h2 ?_
      cases hfu : fu m with
      | st => rw [hfu] at q; exact q
      | ex c => rw [hfu] at q; exact fun H3 Fz3 x3 r3 => q H3 Fz3 ((x1.trans x2).trans x3) r3
      | ok hi =>
        intro H3 Fz3 x3 h3 l3
        rw [hfu, Rz.bind_ok] at q
        have s3 := ((s1.le l2).le l3).vw h3
        have xx := (x1.trans x2).trans x3
        cases x with
        | list xs =>
          obtain ⟨p, vs, rfl, e1, r1⟩ := s3.list
          exact .inl ⟨p, vs, rfl, .inl (.inl e1), fun p hp => q _ _ Fz3 xx (h3.newLst hp (rp_cut r1 lo hi))⟩
        | tuple xs =>
          obtain ⟨p, vs, rfl, e1, r1⟩ := s3.tup
          refine .inr ⟨p, vs, rfl, e1, fun z => ?_, fun _ p hp => q _ _ Fz3 xx (h3.newTup hp (rp_cut r1 lo hi))⟩
          have e2 : cutL xs lo hi = xs := by
            unfold cutL
            rw [r1.length] at z
            rw [z.1, z.2]
            simp
          have q' := q (.ref p) H3 Fz3 xx (show Rs X.K B Fz3 H3 (some (V.ref p) :: σ) (some (W.d (.tuple (cutL xs lo hi))) :: m) from by rw [e2]; exact h3.push (.tup e1 r1))
          exact q'
        | _ => exact q.elim⟩
end
end Dl
set_option Elab.async false
set_option linter.all false
set_option maxRecDepth 100000
/-! D5: calls of built-in functions. -/
namespace Dl
open PySem PySem.Spec PyProof.Rows L2
/-- all arguments, read -/
def tAr (K : PySem.W.Frag) (ct : CT) (Wx : WX) (fs : List (Ms → Rz PyData)) : TA := fun σ H Q => ∃ B Fz m, Rs K B Fz H σ m ∧
  match evalAllD fs m with
  | .st => False
  | .ok xs => ∀ vs H' Fz', Ext B Fz Fz' → Rs K B Fz' H' σ m → Paired (SV K Fz' H' σ m) vs xs → Q vs H'
  | .ex c => ∀ H' Fz', Ext B Fz Fz' → Rs K B Fz' H' σ m → Wx (ct c) Option.none σ H'
structure DB (X : Cx) (ct : CT) (Wx : WX) (es : List Expr) (fs : List (Ms → Rz PyData)) : Prop where
  pa : PA X es (tAr X.K ct Wx fs)
theorem paired_map {α β : Type} {P R : α → β → Prop} (f : ∀ a b, P a b → R a b) : ∀ {xs : List α} {ys : List β}, Paired P xs ys → Paired R xs ys
  | _, _, .nil => .nil
  | _, _, .cons r t => .cons (f _ _ r) (paired_map f t)
section
variable {X : Cx} {ct : CT} {Wx : WX} {e a b c : Expr} {es : List Expr} {pos : Pos}
theorem db_nil : DB X ct Wx [] [] := ⟨PA_imp pa_nil fun σ H Q ⟨B, Fz, m, h, q⟩ => q [] H Fz .refl h .nil⟩
theorem tAr_then {K : PySem.W.Frag} {fs : List (Ms → Rz PyData)} {B : Hp} {Fz : Addr → Prop} {σ : L2.St} {m : Ms} {H : Hp} {Q : List V → Hp → Prop} (h : Rs K B Fz H σ m)
    (hk : match evalAllD fs m with
      | .st => False
      | .ok xs => ∀ vs H' Fz', Ext B Fz Fz' → Rs K B Fz' H' σ m → Le Fz H Fz' H' → Paired (SV K Fz' H' σ m) vs xs → Q vs H'
      | .ex c => ∀ H' Fz', Ext B Fz Fz' → Rs K B Fz' H' σ m → Wx (ct c) Option.none σ H') : tAr K ct Wx fs σ H Q := by
  obtain ⟨B2, h2, he, ht⟩ := h.step
  refine ⟨B2, Fz, m, h2, ?_⟩
  cases hf : evalAllD fs m with
  | st => rw [hf] at hk; exact hk
  | ex c => rw [hf] at hk; exact fun H' Fz' e r => hk H' Fz' (he _ e) (ht (ρ := []) (r := []) e r rfl).1
  | ok x =>
    rw [hf] at hk
    intro vs H' Fz' e r s
    obtain ⟨r', l⟩ := ht (ρ := []) (r := []) e r rfl
    exact hk vs H' Fz' (he _ e) r' l s
theorem db_cons {f : Ms → Rz PyData} {fs : List (Ms → Rz PyData)} (ha : DR X ct Wx e f) (hs : DB X ct Wx es fs) (hst : starEach (e :: es) X.env = (false, eval e X.env) :: starEach es X.env := by rfl) : DB X ct Wx (e :: es) (f :: fs) := ⟨PA_imp (pa_cons ha.pe hs.pa hst) fun σ H Q ⟨B, Fz, m, h, q⟩ => by
  refine tR_then h ?_
  cases hf : f m with
  | st => simp only [evalAllD, hf, Rz.bind_st] at q
  | ex c => simp only [evalAllD, hf, Rz.bind_ex] at q; exact q
  | ok x =>
    intro v H1 Fz1 x1 h1 l1 s1
    simp only [evalAllD, hf, Rz.bind_ok] at q
    refine tAr_then h1 ?_
    cases hg : evalAllD fs m with
    | st => rw [hg] at q; exact q
    | ex c => rw [hg] at q; exact fun H2 Fz2 x2 r2 => q H2 Fz2 (x1.trans x2) r2
    | ok xs =>
      rw [hg] at q
      exact fun vs H2 Fz2 x2 r2 l2 s2 => q (v :: vs) H2 Fz2 (x1.trans x2) r2 (.cons (s1.le l2) s2)⟩
/-- a built-in does what g says -/
structure CallOk (K : PySem.W.Frag) (r : List V → Hp → VK → Prop) (g : List PyData → Option W) : Prop where
  run : ∀ {B : Hp} {Fz : Addr → Prop} {H : Hp} {σ : L2.St} {m : Ms} {vs : List V} {xs : List PyData} {w : W} {Q : VK}, Rs K B Fz H σ m → Paired (Vw K Fz H) vs xs → g xs = some w →
    (∀ v' H', Rs K B Fz H' (some v' :: σ) (some w :: m) → Q v' H') → r vs H Q
def eCall (g : List PyData → Option W) (fs : List (Ms → Rz PyData)) : Ms → Rz W := fun m => (evalAllD fs m).bind fun xs => ofO (g xs)
theorem callB {r : List V → Hp → VK → Prop} {g : List PyData → Option W} {fs : List (Ms → Rz PyData)} (hg : CallOk X.K r g) {σ : L2.St} {H : Hp} {Q : VK} (q : tE X.K ct Wx (eCall g fs) σ H Q) : tCB r (tAr X.K ct Wx fs) σ H Q := by
  obtain ⟨B, Fz, m, h, q⟩ := q
  unfold eCall at q
  refine tAr_then h ?_
  cases hf : evalAllD fs m with
  | st => rw [hf] at q; exact q
  | ex c => rw [hf] at q; exact q
  | ok xs =>
    intro vs H1 Fz1 x1 h1 l1 s1
    rw [hf, Rz.bind_ok] at q
    cases hw : g xs with
    | none => rw [hw] at q; exact q.elim
    | some w =>
      rw [hw] at q
      exact hg.run h1 (paired_map (fun _ _ s => SV.vw h1 s) s1) hw fun v' H' r => q v' H' Fz1 x1 r
variable {x : Str} {bid T : String} {p : Pos}
theorem de_callB {r : List V → Hp → VK → Prop} {g : List PyData → Option W} {fs : List (Ms → Rz PyData)} (hc : CallR X (.builtin bid) r) (ok : CallOk X.K r g) (hv : bootBuiltins x = some (.builtin bid)) (hm : X.mg x = none) (ha : DB X ct Wx (e :: es) fs) (hg : Gl X x := by rfl)
    (hn : x ≠ "__name__" := by decide) (hdb : (x == ("__debug__" : Str)) = false := by decide) (he : starEach (e :: es) X.env = (false, eval e X.env) :: starEach es X.env := by rfl) (hpl : (backTo pos (starEach es X.env)).any (·.1) = false := by rfl) :
    DE X ct Wx (.Call (.Name x p) (e :: es) [] pos) (eCall g fs) := ⟨PE_imp (pe_callB hc hg hm hv ha.pa hn hdb he hpl) fun _ _ _ q => callB ok q⟩
theorem de_callTy {r : List V → Hp → VK → Prop} {g : List PyData → Option W} {fs : List (Ms → Rz PyData)} (hc : CallR X (.type T) r) (ok : CallOk X.K r g) (hv : bootBuiltins x = some (.type T)) (hm : X.mg x = none) (ha : DB X ct Wx (e :: es) fs) (hg : Gl X x := by rfl)
    (hn : x ≠ "__name__" := by decide) (hdb : (x == ("__debug__" : Str)) = false := by decide) (he : starEach (e :: es) X.env = (false, eval e X.env) :: starEach es X.env := by rfl) (hpl : (backTo pos (starEach es X.env)).any (·.1) = false := by rfl) :
    DE X ct Wx (.Call (.Name x p) (e :: es) [] pos) (eCall g fs) := ⟨PE_imp (pe_callTy hc hg hm hv ha.pa hn hdb he hpl) fun _ _ _ q => callB ok q⟩

/-! ### what they give -/
def g1 (f : PyData → Option W) : List PyData → Option W
  | [x] => f x
  | _ => none
def lenD : PyData → Option W
  | .list xs => some (.d (.int xs.length))
  | .tuple xs => some (.d (.int xs.length))
  | .str s => if s.length ≤ 16000000 then some (.d (.int s.length)) else none
  | _ => none
theorem pair1 {α β : Type} {P : α → β → Prop} {vs : List α} {y : β} (h : Paired P vs [y]) : ∃ v, vs = [v] ∧ P v y := by
  cases h with | cons r t => cases t; exact ⟨_, rfl, r⟩
theorem pair2 {α β : Type} {P : α → β → Prop} {vs : List α} {y z : β} (h : Paired P vs [y, z]) : ∃ v u, vs = [v, u] ∧ P v y ∧ P u z := by
  cases h with | cons r t => cases t with | cons r2 t => cases t; exact ⟨_, _, rfl, r, r2⟩
/-- one argument -/
theorem call1 {K : PySem.W.Frag} {r : List V → Hp → VK → Prop} {f : PyData → Option W} (h : ∀ {B : Hp} {Fz : Addr → Prop} {H : Hp} {σ : L2.St} {m : Ms} {v : V} {x : PyData} {w : W} {Q : VK}, Rs K B Fz H σ m → Vw K Fz H v x → f x = some w →
    (∀ v' H', Rs K B Fz H' (some v' :: σ) (some w :: m) → Q v' H') → r [v] H Q) : CallOk K r (g1 f) := by
  refine ⟨?_⟩
  intro B Fz H σ m vs xs w Q hr hp e q
  match xs, hp, e with
  | [x], hp, e =>
    obtain ⟨v, rfl, hv⟩ := pair1 hp
    exact h hr hv e q
  | [], _, e => cases e
  | _ :: _ :: _, _, e => cases e
theorem ok_lenD {K : PySem.W.Frag} : CallOk K (fun xs H Q => ∃ x n, xs = [x] ∧ LenV K x H n ∧ Q (.int n) H) (g1 lenD) := call1 fun {B Fz H σ m v x w Q} hr hv e q => by
  unfold lenD at e
  split at e
  · cases e
    obtain ⟨p, vs, rfl, s1, r1⟩ := hv.list
    exact ⟨_, _, rfl, .inl ⟨vs, .inl (.inl s1), rfl⟩, by rw [r1.length]; exact q _ _ (hr.push (.int _))⟩
  · cases e
    obtain ⟨p, vs, rfl, s1, r1⟩ := hv.tup
    exact ⟨_, _, rfl, .inr ⟨vs, s1, rfl⟩, by rw [r1.length]; exact q _ _ (hr.push (.int _))⟩
  · split at e
    · rename_i s hz
      cases e
      have := hv.str
      subst this
      exact ⟨_, _, rfl, ⟨Nat.le_trans hz sz_le, rfl⟩, q _ _ (hr.push (.int _))⟩
    · cases e
  · cases e
/-- all ints -/
def intsOf : List PyData → Option (List Int)
  | [] => some []
  | .int i :: r => (intsOf r).map (i :: ·)
  | _ :: _ => none
theorem intsOf_eq : ∀ {xs : List PyData} {ns : List Int}, intsOf xs = some ns → xs = ns.map .int
  | [], ns, h => by cases h; rfl
  | .int i :: r, ns, h => by
    cases hr : intsOf r with
    | none => simp [intsOf, hr] at h
    | some k =>
      simp only [intsOf, hr, Option.map_some, Option.some.injEq] at h
      subst h
      rw [intsOf_eq hr]; rfl
  | .none :: _, _, h => by cases h
  | .bool _ :: _, _, h => by cases h
  | .str _ :: _, _, h => by cases h
  | .list _ :: _, _, h => by cases h
  | .tuple _ :: _, _, h => by cases h
  | .dict _ :: _, _, h => by cases h
@[simp] theorem intsOf_map : ∀ ns : List Int, intsOf (ns.map .int) = some ns
  | [] => rfl
  | n :: ns => by simp [intsOf, intsOf_map ns]
def boolsOf : List PyData → Option (List Bool)
  | [] => some []
  | .bool i :: r => (boolsOf r).map (i :: ·)
  | _ :: _ => none
theorem boolsOf_eq : ∀ {xs : List PyData} {ns : List Bool}, boolsOf xs = some ns → xs = ns.map .bool
  | [], ns, h => by cases h; rfl
  | .bool i :: r, ns, h => by
    cases hr : boolsOf r with
    | none => simp [boolsOf, hr] at h
    | some k =>
      simp only [boolsOf, hr, Option.map_some, Option.some.injEq] at h
      subst h
      rw [boolsOf_eq hr]; rfl
  | .none :: _, _, h => by cases h
  | .int _ :: _, _, h => by cases h
  | .str _ :: _, _, h => by cases h
  | .list _ :: _, _, h => by cases h
  | .tuple _ :: _, _, h => by cases h
  | .dict _ :: _, _, h => by cases h
@[simp] theorem boolsOf_map : ∀ ns : List Bool, boolsOf (ns.map .bool) = some ns
  | [] => rfl
  | n :: ns => by simp [boolsOf, boolsOf_map ns]
def itemsD : PyData → Option (List PyData)
  | .list xs => some xs
  | .tuple xs => some xs
  | _ => none
def sumD (x : PyData) : Option W := (itemsD x).bind fun xs => (intsOf xs).map fun ns => .d (.int ns.sum)
theorem sum_rawT {prog : Program} {w : World} {A : Around} {E : Value → Shared → Prop} {s : Shared} {t : Addr} {its : List Value} {ns : List Int} {Q : Value → Shared → Prop} (hh : A.handled = none) (hl : s.heap.IsTuple t its.toArray) (hi : IntsAre its ns)
    (h : ∀ h' tk t', (∀ b o, s.heap.get? b = some o → h'.get? b = some o) → Q (.int ns.sum t') { s with heap := h', toks := tk }) : wpAny (model prog w) A (call (.builtin "sum") [.ref t]) Q E s := by
  obtain ⟨xs, e⟩ := hi.allInts.items
  have hn : numsOf (intItems xs).toList = ns := by rw [← e]; exact hi.numsOf
  rw [nums_intItems] at hn
  rw [e] at hl
  refine PySem.W.ktm_sumG hh hl fun h' tk t' hk => ?_
  have := h h' tk t' hk
  rw [preSum_eq, List.take_of_length_le (by simp), hn]; exact this
def rSumD (K : PySem.W.Frag) : List V → Hp → VK → Prop := fun vs H Q => ∃ (a : Addr) (ns : List Int), vs = [V.ref a] ∧ (SqL K H a (ns.map V.int) ∨ SqT K H a (ns.map V.int)) ∧ Q (.int ns.sum) H
theorem cr_sumD (hc : X.calm = true) : CallR X (.builtin "sum") (rSumD X.K) := by
  intro pins s σ H xs us Q I r h
  obtain ⟨a, ns, rfl, ha | ha, q⟩ := h
  · exact cr_sum hc pins s σ H _ us Q I r ⟨a, ns, rfl, ha, q⟩
  · have e := Vals.ref1 r
    subst e
    obtain ⟨its, rv, p, _⟩ := I.tuple ha
    exact sum_rawT (I.ok.hd hc) (show s.heap.IsTuple a its.toArray from p) (Vals.ints rv) fun h' tk t' hk => ⟨.int ns.sum, H, I.kept hk, ⟨_, rfl⟩, q⟩
theorem ok_sumD {K : PySem.W.Frag} : CallOk K (rSumD K) (g1 sumD) := call1 fun {B Fz H σ m v x w Q} hr hv e q => by
  unfold sumD at e
  cases hi : itemsD x with
  | none => rw [hi] at e; cases e
  | some xs =>
    rw [hi, Option.bind_some] at e
    cases hn : intsOf xs with
    | none => rw [hn] at e; cases e
    | some ns =>
      rw [hn] at e; cases e
      have e2 := intsOf_eq hn
      subst e2
      unfold itemsD at hi
      split at hi
      · cases hi
        obtain ⟨p, vs, rfl, s1, r1⟩ := hv.list
        have := r1.ints
        subst this
        exact ⟨p, ns, rfl, .inl (.inl (.inl s1)), q _ _ (hr.push (.int _))⟩
      · cases hi
        obtain ⟨p, vs, rfl, s1, r1⟩ := hv.tup
        have := r1.ints
        subst this
        exact ⟨p, ns, rfl, .inr s1, q _ _ (hr.push (.int _))⟩
      · cases hi
def allD : PyData → Option W
  | .list xs => (boolsOf xs).map fun bs => .d (.bool (bs.all id))
  | _ => none
def anyD : PyData → Option W
  | .list xs => (boolsOf xs).map fun bs => .d (.bool (bs.any id))
  | _ => none
theorem ok_allD {K : PySem.W.Frag} : CallOk K (rAll K) (g1 allD) := call1 fun {B Fz H σ m v x w Q} hr hv e q => by
  unfold allD at e
  split at e
  · rename_i xs
    cases hn : boolsOf xs with
    | none => rw [hn] at e; cases e
    | some bs =>
      rw [hn] at e; cases e
      have e2 := boolsOf_eq hn
      subst e2
      obtain ⟨p, vs, rfl, s1, r1⟩ := hv.list
      have := r1.bools
      subst this
      exact ⟨p, bs, rfl, .inl (.inl s1), q _ _ (hr.push (.bl _))⟩
  · cases e
theorem ok_anyD {K : PySem.W.Frag} : CallOk K (rAny K) (g1 anyD) := call1 fun {B Fz H σ m v x w Q} hr hv e q => by
  unfold anyD at e
  split at e
  · rename_i xs
    cases hn : boolsOf xs with
    | none => rw [hn] at e; cases e
    | some bs =>
      rw [hn] at e; cases e
      have e2 := boolsOf_eq hn
      subst e2
      obtain ⟨p, vs, rfl, s1, r1⟩ := hv.list
      have := r1.bools
      subst this
      exact ⟨p, bs, rfl, .inl (.inl s1), q _ _ (hr.push (.bl _))⟩
  · cases e
def absD : PyData → Option W
  | .int i => some (.d (.int (if i < 0 then -i else i)))
  | _ => none
theorem ok_absD {K : PySem.W.Frag} : CallOk K (fun xs H Q => ∃ i, xs = [.int i] ∧ Q (.int (if i < 0 then -i else i)) H) (g1 absD) := call1 fun {B Fz H σ m v x w Q} hr hv e q => by
  unfold absD at e
  split at e
  · cases e
    exact ⟨_, by rw [hv.int], q _ _ (hr.push (.int _))⟩
  · cases e
def toIntD : PyData → Option W
  | .int i => some (.d (.int i))
  | .bool b => some (.d (.int (if b then 1 else 0)))
  | _ => none
theorem ok_toIntD {K : PySem.W.Frag} : CallOk K (fun xs H Q => (∃ i, xs = [.int i] ∧ Q (.int i) H) ∨ ∃ k, xs = [.bl k] ∧ Q (.int (if k then 1 else 0)) H) (g1 toIntD) := call1 fun {B Fz H σ m v x w Q} hr hv e q => by
  unfold toIntD at e
  split at e
  · cases e
    exact .inl ⟨_, by rw [hv.int], q _ _ (hr.push (.int _))⟩
  · cases e
    exact .inr ⟨_, by rw [hv.bool], q _ _ (hr.push (.int _))⟩
  · cases e
def tupleD : PyData → Option W
  | .list xs => some (.d (.tuple xs))
  | .tuple xs => some (.d (.tuple xs))
  | _ => none
def listD : PyData → Option W
  | .list xs => some (.l xs)
  | .tuple xs => some (.l xs)
  | _ => none
theorem ok_tupleD {K : PySem.W.Frag} : CallOk K (fun xs H Q => ∃ p ys, xs = [.ref p] ∧ ((SqL K H p ys ∧ ∀ l, H l = none → Q (.ref l) (upd H l (.tup ys))) ∨ (SqT K H p ys ∧ Q (.ref p) H))) (g1 tupleD) := call1 fun {B Fz H σ m v x w Q} hr hv e q => by
  unfold tupleD at e
  split at e
  · cases e
    obtain ⟨p, vs, rfl, s1, r1⟩ := hv.list
    exact ⟨p, vs, rfl, .inl ⟨.inl (.inl s1), fun l hl => q _ _ (hr.newTup hl r1)⟩⟩
  · cases e
    obtain ⟨p, vs, rfl, s1, r1⟩ := hv.tup
    exact ⟨p, vs, rfl, .inr ⟨s1, q _ _ (hr.push (.tup s1 r1))⟩⟩
  · cases e
theorem ok_listD {K : PySem.W.Frag} : CallOk K (fun xs H Q => ∃ p ys, xs = [.ref p] ∧ (SqL K H p ys ∨ SqT K H p ys) ∧ ∀ l, H l = none → Q (.ref l) (upd H l (.lst ys))) (g1 listD) := call1 fun {B Fz H σ m v x w Q} hr hv e q => by
  unfold listD at e
  split at e
  · cases e
    obtain ⟨p, vs, rfl, s1, r1⟩ := hv.list
    exact ⟨p, vs, rfl, .inl (.inl (.inl s1)), fun l hl => q _ _ (hr.newLst hl r1)⟩
  · cases e
    obtain ⟨p, vs, rfl, s1, r1⟩ := hv.tup
    exact ⟨p, vs, rfl, .inr s1, fun l hl => q _ _ (hr.newLst hl r1)⟩
  · cases e

/-! ### least and greatest -/
def max2D : PyData → PyData → Option W
  | .int i, .int j => some (.d (.int (max i j)))
  | _, _ => none
def min2D : PyData → PyData → Option W
  | .int i, .int j => some (.d (.int (min i j)))
  | _, _ => none
/-- may be compared with one another -/
def alikeB (xs : List PyData) : Bool := match intsOf xs with
  | some _ => true
  | none => (xs.all fun x => xs.all fun y => PySem.W.alike x y) && (xs.all fun x => !isNoneD x) && decide (PyData.depthAll xs ≤ 100)
def minD1 (x : PyData) : Option W := (itemsD x).bind fun xs => match xs with
  | y :: ys => if alikeB (y :: ys) = true then some (.d (PySem.W.minD y ys)) else none
  | [] => none
def maxD1 (x : PyData) : Option W := (itemsD x).bind fun xs => match xs with
  | y :: ys => if alikeB (y :: ys) = true then some (.d (PySem.W.maxD y ys)) else none
  | [] => none
def g12 (f : PyData → Option W) (g : PyData → PyData → Option W) : List PyData → Option W
  | [x] => f x
  | [x, y] => g x y
  | _ => none
theorem alike_ints1 (i j : Int) : PySem.W.alike (.int i) (.int j) = true := by simp [PySem.W.alike]
theorem depth_ints1 : ∀ ns : List Int, PyData.depthAll (ns.map .int) = 0
  | [] => by simp [PyData.depthAll]
  | n :: ns => by
    rw [List.map_cons, PyData.depthAll, depth_ints1 ns]
    simp [PyData.depth]
theorem alikeB_ok {xs : List PyData} (h : alikeB xs = true) : PySem.W.AlikeAll xs ∧ PyData.depthAll xs ≤ 100 := by
  unfold alikeB at h
  cases hn : intsOf xs with
  | some ns =>
    have e := intsOf_eq hn
    subst e
    refine ⟨⟨fun x hx y hy => ?_, fun x hx => ?_⟩, ?_⟩
    · obtain ⟨i, _, rfl⟩ := List.mem_map.mp hx
      obtain ⟨j, _, rfl⟩ := List.mem_map.mp hy
      exact alike_ints1 i j
    · obtain ⟨i, _, rfl⟩ := List.mem_map.mp hx
      exact fun z => nomatch z
    · rw [depth_ints1]; exact Nat.zero_le _
  | none =>
    rw [hn] at h
    simp only [Bool.and_eq_true, List.all_eq_true, decide_eq_true_eq, Bool.not_eq_true'] at h
    exact ⟨⟨fun x hx y hy => h.1.1 x hx y hy, fun x hx => isNoneD_iff.mp (h.1.2 x hx)⟩, h.2⟩

/-- the item of a list of one's data that is read -/
theorem rp_of_reads {X : Cx} {pins : List (Addr × Obj)} {σ : L2.St} {H : Hp} {s : Shared} {Fz : Addr → Prop} {vs : List V} {xs : List PyData} {its : List Value} (I : Inv X pins σ H s) (r : RpAll X.K Fz H vs xs) (rv : Vals vs its) {i : Nat} {u : Value} (hu : its[i]? = some u) {d : PyData} {bs : List Addr} {h' : Heap} (hk : ∀ b o, s.heap.get? b = some o → h'.get? b = some o) (hr : Reads h' u d bs) :
    ∃ v, RelV v u ∧ Rp X.K Fz H v d := by
  have hl := rv.length
  obtain ⟨hi, _⟩ := List.getElem?_eq_some_iff.mp hu
  have hv : vs[i]? = some vs[i] := List.getElem?_eq_getElem (by omega)
  obtain ⟨x, hx, rx⟩ := r.get hv
  obtain ⟨u', hu', ru⟩ := rv.get hv
  rw [hu] at hu'; cases hu'
  obtain ⟨as, rd⟩ := Dp.reads I x vs[i] u rx.dp ru
  have e := PySem.SeqAt.plain_unique x d u as bs rx.plain (PyProof.Rows.Reads.keeps hk rd) hr
  subst e
  exact ⟨_, ru, rx⟩
/-- min, max of data: by the library's rule over what is read -/
def rBest (K : PySem.W.Frag) (g : PyData → List PyData → PyData) : List V → Hp → VK → Prop := fun vs H Q => ∃ (a : Addr) (us : List V) (Fz : Addr → Prop) (y : PyData) (ys : List PyData), vs = [V.ref a] ∧ (SqL K H a us ∨ SqT K H a us) ∧ RpAll K Fz H us (y :: ys) ∧ alikeB (y :: ys) = true ∧ ∀ v, Rp K Fz H v (g y ys) → Q v H
theorem cr_minD (hc : X.calm = true) (hu : X.A.units + 105 < cLine) : CallR X (.builtin "min") (rBest X.K PySem.W.minD) := by
  intro pins s σ H xs us Q I r h
  obtain ⟨a, ws, Fz, y, ys, rfl, ha | ha, hr, hk, q⟩ := h
  · have e := Vals.ref1 r
    subst e
    obtain ⟨its, rv, p, _⟩ := I.list ha
    obtain ⟨as, rd⟩ := Dp.readsAll I (y :: ys) ws its hr.dp rv
    obtain ⟨k1, k2⟩ := alikeB_ok hk
    refine PySem.W.min_list_data (I.ok.hd hc) p.isList (by simpa using rd) k1 (by omega) fun i v h' tk bs hi hrd hkp => ?_
    obtain ⟨v', r1, r2⟩ := rp_of_reads I hr rv (i := i) (by simpa using hi) hkp hrd
    exact ⟨v', H, I.kept hkp, r1, q v' r2⟩
  · have e := Vals.ref1 r
    subst e
    obtain ⟨its, rv, p, _⟩ := I.tuple ha
    obtain ⟨as, rd⟩ := Dp.readsAll I (y :: ys) ws its hr.dp rv
    obtain ⟨k1, k2⟩ := alikeB_ok hk
    refine PySem.W.min_tuple_data (I.ok.hd hc) p (by simpa using rd) k1 (by omega) fun i v h' tk bs hi hrd hkp => ?_
    obtain ⟨v', r1, r2⟩ := rp_of_reads I hr rv (i := i) (by simpa using hi) hkp hrd
    exact ⟨v', H, I.kept hkp, r1, q v' r2⟩
theorem cr_maxD (hc : X.calm = true) (hu : X.A.units + 105 < cLine) : CallR X (.builtin "max") (rBest X.K PySem.W.maxD) := by
  intro pins s σ H xs us Q I r h
  obtain ⟨a, ws, Fz, y, ys, rfl, ha | ha, hr, hk, q⟩ := h
  · have e := Vals.ref1 r
    subst e
    obtain ⟨its, rv, p, _⟩ := I.list ha
    obtain ⟨as, rd⟩ := Dp.readsAll I (y :: ys) ws its hr.dp rv
    obtain ⟨k1, k2⟩ := alikeB_ok hk
    refine PySem.W.max_list_data (I.ok.hd hc) p.isList (by simpa using rd) k1 (by omega) fun i v h' tk bs hi hrd hkp => ?_
    obtain ⟨v', r1, r2⟩ := rp_of_reads I hr rv (i := i) (by simpa using hi) hkp hrd
    exact ⟨v', H, I.kept hkp, r1, q v' r2⟩
  · have e := Vals.ref1 r
    subst e
    obtain ⟨its, rv, p, _⟩ := I.tuple ha
    obtain ⟨as, rd⟩ := Dp.readsAll I (y :: ys) ws its hr.dp rv
    obtain ⟨k1, k2⟩ := alikeB_ok hk
    refine PySem.W.max_tuple_data (I.ok.hd hc) p (by simpa using rd) k1 (by omega) fun i v h' tk bs hi hrd hkp => ?_
    obtain ⟨v', r1, r2⟩ := rp_of_reads I hr rv (i := i) (by simpa using hi) hkp hrd
    exact ⟨v', H, I.kept hkp, r1, q v' r2⟩
def rMax2 : List V → Hp → VK → Prop := fun xs H Q => ∃ i j, xs = [.int i, .int j] ∧ Q (.int (if j > i then j else i)) H
def rMin2 : List V → Hp → VK → Prop := fun xs H Q => ∃ i j, xs = [.int i, .int j] ∧ Q (.int (if j < i then j else i)) H
theorem cr_minA (hc : X.calm = true) (hu : X.A.units + 105 < cLine) : CallR X (.builtin "min") (fun xs H Q => rBest X.K PySem.W.minD xs H Q ∨ rMin2 xs H Q) := (cr_minD hc hu).or (call_min2 hc)
theorem cr_maxA (hc : X.calm = true) (hu : X.A.units + 105 < cLine) : CallR X (.builtin "max") (fun xs H Q => rBest X.K PySem.W.maxD xs H Q ∨ rMax2 xs H Q) := (cr_maxD hc hu).or (call_max2 hc)
theorem vw_items {K : PySem.W.Frag} {Fz : Addr → Prop} {H : Hp} {v : V} {x : PyData} {xs : List PyData} (h : Vw K Fz H v x) (e : itemsD x = some xs) : ∃ a us, v = .ref a ∧ (SqL K H a us ∨ SqT K H a us) ∧ RpAll K Fz H us xs := by
  unfold itemsD at e
  split at e
  · cases e
    obtain ⟨p, vs, rfl, s1, r1⟩ := h.list
    exact ⟨p, vs, rfl, .inl (.inl (.inl s1)), r1⟩
  · cases e
    obtain ⟨p, vs, rfl, s1, r1⟩ := h.tup
    exact ⟨p, vs, rfl, .inr s1, r1⟩
  · cases e
theorem ok_minA {K : PySem.W.Frag} : CallOk K (fun xs H Q => rBest K PySem.W.minD xs H Q ∨ rMin2 xs H Q) (g12 minD1 min2D) := by
  refine ⟨?_⟩
  intro B Fz H σ m vs xs w Q hr hp e q
  match xs, hp, e with
  | [x], hp, e =>
    obtain ⟨v, rfl, hv⟩ := pair1 hp
    have e : minD1 x = some w := e
    unfold minD1 at e
    cases hi : itemsD x with
    | none => rw [hi] at e; cases e
    | some ys =>
      rw [hi, Option.bind_some] at e
      cases ys with
      | nil => cases e
      | cons y ys =>
        dsimp only at e
        split at e
        · rename_i hk
          cases e
          obtain ⟨a, us, rfl, s1, r1⟩ := vw_items hv hi
          exact .inl ⟨a, us, Fz, y, ys, rfl, s1, r1, hk, fun v r => q v H (hr.push r)⟩
        · cases e
  | [x, y], hp, e =>
    obtain ⟨v, u, rfl, hv, hu⟩ := pair2 hp
    have e2 : min2D x y = some w := e
    clear e
    unfold min2D at e2
    split at e2
    · rename_i i j
      cases e2
      refine .inr ⟨i, j, by rw [hv.int, hu.int], ?_⟩
      have z : (if j < i then j else i) = min i j := by split <;> omega
      rw [z]
      exact q _ _ (hr.push (.int _))
    · cases e2
  | [], _, e => cases e
  | _ :: _ :: _ :: _, _, e => cases e
theorem ok_maxA {K : PySem.W.Frag} : CallOk K (fun xs H Q => rBest K PySem.W.maxD xs H Q ∨ rMax2 xs H Q) (g12 maxD1 max2D) := by
  refine ⟨?_⟩
  intro B Fz H σ m vs xs w Q hr hp e q
  match xs, hp, e with
  | [x], hp, e =>
    obtain ⟨v, rfl, hv⟩ := pair1 hp
    have e : maxD1 x = some w := e
    unfold maxD1 at e
    cases hi : itemsD x with
    | none => rw [hi] at e; cases e
    | some ys =>
      rw [hi, Option.bind_some] at e
      cases ys with
      | nil => cases e
      | cons y ys =>
        dsimp only at e
        split at e
        · rename_i hk
          cases e
          obtain ⟨a, us, rfl, s1, r1⟩ := vw_items hv hi
          exact .inl ⟨a, us, Fz, y, ys, rfl, s1, r1, hk, fun v r => q v H (hr.push r)⟩
        · cases e
  | [x, y], hp, e =>
    obtain ⟨v, u, rfl, hv, hu⟩ := pair2 hp
    have e2 : max2D x y = some w := e
    clear e
    unfold max2D at e2
    split at e2
    · rename_i i j
      cases e2
      refine .inr ⟨i, j, by rw [hv.int, hu.int], ?_⟩
      have z : (if j > i then j else i) = max i j := by split <;> omega
      rw [z]
      exact q _ _ (hr.push (.int _))
    · cases e2
  | [], _, e => cases e
  | _ :: _ :: _ :: _, _, e => cases e

/-! ### isinstance with a built-in class -/
def tyN : PyData → String
  | .none => "NoneType"
  | .bool _ => "bool"
  | .int _ => "int"
  | .str _ => "str"
  | .list _ => "list"
  | .tuple _ => "tuple"
  | .dict _ => "dict"
theorem Vw.ty {K : PySem.W.Frag} {Fz : Addr → Prop} {H : Hp} {v : V} {x : PyData} (h : Vw K Fz H v x) : TyX K H v (.type (tyN x)) := by
  cases h with
  | own e r => exact .base (.lst e)
  | rp r =>
    cases r with
    | non => exact .base .non
    | bl b => exact .base (.bl b)
    | int i => exact .base (.int i)
    | str s => exact .base (.str s)
    | lst f e r => exact .base (.lst e)
    | tup e r =>
      rcases e with (e | ⟨o, e⟩) | ⟨o, its, n, e, c, _⟩
      · exact .base (.tup e)
      · exact .fTuple e
      · exact .kTuple e c
def isInt : PyData → Bool
  | .int _ => true
  | .bool _ => true
  | _ => false
def isBool : PyData → Bool
  | .bool _ => true
  | _ => false
def isStr : PyData → Bool
  | .str _ => true
  | _ => false
def isTup : PyData → Bool
  | .tuple _ => true
  | _ => false
def isLst : PyData → Bool
  | .list _ => true
  | _ => false
theorem isi_int (x : PyData) : kitB (tyN x) "int" = some (isInt x) := by cases x <;> (simp only [tyN, isInt]; decide +kernel)
theorem isi_bool (x : PyData) : kitB (tyN x) "bool" = some (isBool x) := by cases x <;> (simp only [tyN, isBool]; decide +kernel)
theorem isi_str (x : PyData) : kitB (tyN x) "str" = some (isStr x) := by cases x <;> (simp only [tyN, isStr]; decide +kernel)
theorem isi_tup (x : PyData) : kitB (tyN x) "tuple" = some (isTup x) := by cases x <;> (simp only [tyN, isTup]; decide +kernel)
theorem isi_lst (x : PyData) : kitB (tyN x) "list" = some (isLst x) := by cases x <;> (simp only [tyN, isLst]; decide +kernel)
def vIsi (g : PyData → Bool) (f : Ms → Rz PyData) : Ms → Rz PyData := fun m => (f m).map fun x => .bool (g x)
theorem dv_isi {T : String} {tn : Str} {p p2 : Pos} {g : PyData → Bool} {f : Ms → Rz PyData} (hk : ∀ x, kitB (tyN x) T = some (g x)) (hv : bootBuiltins tn = some (.type T)) (hm2 : X.mg tn = none) (hm : X.mg "isinstance" = none) (ha : DR X ct Wx a f)
    (hg : Gl X "isinstance" := by rfl) (hg2 : Gl X tn := by rfl) (hn : tn ≠ "__name__" := by decide) (hdb : (tn == ("__debug__" : Str)) = false := by decide)
    (he : starEach (a :: [.Name tn p2]) X.env = (false, eval a X.env) :: starEach [.Name tn p2] X.env := by rfl) (he2 : starEach (.Name tn p2 :: []) X.env = (false, eval (.Name tn p2) X.env) :: starEach [] X.env := by rfl) (hpl : (backTo pos (starEach [.Name tn p2] X.env)).any (·.1) = false := by rfl) :
    DV X ct Wx (.Call (.Name "isinstance" p) [a, .Name tn p2] [] pos) (vIsi g f) :=
  ⟨PE_imp (pe_callB call_isi hg hm (by decide +kernel) (pa_cons ha.pe (pa_cons (pe_bltn (v := .ty T) hg2 hm2 hv rfl hn hdb) pa_nil he2) he) (by decide) (by decide) he hpl) fun σ H Q ⟨B, Fz, m, h, q⟩ => by
    unfold vIsi at q
    refine tR_then h ?_
    cases hf : f m with
    | st => rw [hf] at q; exact q
    | ex c => rw [hf] at q; exact q
    | ok x =>
      intro v H1 Fz1 x1 h1 l1 s1
      rw [hf] at q
      exact ⟨v, .ty T, .type (tyN x), .type T, g x, rfl, .ty T, (s1.vw h1).ty, kit_ty (hk x), q _ H1 Fz1 x1 ⟨h1, .bl _⟩⟩⟩

/-! ### list(range(..)), tuple(range(..)) -/
def rgD (lo hi : Int) : List PyData := (List.range (hi - lo).toNat).map fun i => .int (lo + (i : Nat))
def rgFit (lo hi : Int) : Bool := decide ((-1000000 ≤ lo ∧ lo ≤ 1000000) ∧ (-1000000 ≤ hi ∧ hi ≤ 1000000))
theorem rp_rg {K : PySem.W.Frag} {Fz : Addr → Prop} {H : Hp} (lo hi : Int) : RpAll K Fz H (rgV lo hi) (rgD lo hi) := by
  unfold rgV rgD
  generalize List.range (hi - lo).toNat = l
  induction l with
  | nil => exact .nil
  | cons i l ih => exact .cons (.int _) ih
end
end Dl
set_option Elab.async false
set_option linter.all false
set_option maxRecDepth 100000
/-! D6: statements. -/
namespace Dl
open PySem PySem.Spec PyProof.Rows L2
/-- how a statement ends -/
inductive Fl where
  | st | nx (m : Ms) | rt (x : PyData) | bk (m : Ms) | ct (m : Ms) | ex (c : Nat) (m : Ms)
def tS (K : PySem.W.Frag) (ct : CT) (Wx : WX) (g : Ms → Fl) : TS := fun D σ H => ∃ B Fz m, Rs K B Fz H σ m ∧
  match g m with
  | .st => False
  | .nx m' => ∀ σ' H' Fz', Ext B Fz Fz' → Rs K B Fz' H' σ' m' → D.nx σ' H'
  | .rt x => ∀ v H' Fz', Ext B Fz Fz' → (∃ σ' m', Rs K B Fz' H' σ' m') → Rp K Fz' H' v x → D.rt v H'
  | .bk m' => ∀ σ' H' Fz', Ext B Fz Fz' → Rs K B Fz' H' σ' m' → D.bk σ' H'
  | .ct m' => ∀ σ' H' Fz', Ext B Fz Fz' → Rs K B Fz' H' σ' m' → D.ct σ' H'
  | .ex c m' => ∀ σ' H' Fz', Ext B Fz Fz' → Rs K B Fz' H' σ' m' → Wx (ct c) Option.none σ' H'
structure DS (X : Cx) (ct : CT) (Wx : WX) (st : Stmt) (g : Ms → Fl) : Prop where
  ps : PS X st (tS X.K ct Wx g)
structure DSs (X : Cx) (ct : CT) (Wx : WX) (st : List Stmt) (g : Ms → Fl) : Prop where
  ps : PSs X st (tS X.K ct Wx g)
theorem PS_imp {X : Cx} {st : Stmt} {t t' : TS} (h : PS X st t) (q : ∀ D σ H, t' D σ H → t D σ H) : PS X st t' := ⟨fun pins s σ H D I w => h.run pins s σ H D I (q _ _ _ w)⟩
theorem PSs_imp {X : Cx} {st : List Stmt} {t t' : TS} (h : PSs X st t) (q : ∀ D σ H, t' D σ H → t D σ H) : PSs X st t' := ⟨fun pins s σ H D I w => h.run pins s σ H D I (q _ _ _ w)⟩
/-- behind a state: what the rest asks -/
def EndS (K : PySem.W.Frag) (ct : CT) (Wx : WX) (B : Hp) (Fz : Addr → Prop) (D : Ends) : Fl → Prop
  | .st => False
  | .nx m' => ∀ σ' H' Fz', Ext B Fz Fz' → Rs K B Fz' H' σ' m' → D.nx σ' H'
  | .rt x => ∀ v H' Fz', Ext B Fz Fz' → (∃ σ' m', Rs K B Fz' H' σ' m') → Rp K Fz' H' v x → D.rt v H'
  | .bk m' => ∀ σ' H' Fz', Ext B Fz Fz' → Rs K B Fz' H' σ' m' → D.bk σ' H'
  | .ct m' => ∀ σ' H' Fz', Ext B Fz Fz' → Rs K B Fz' H' σ' m' → D.ct σ' H'
  | .ex c m' => ∀ σ' H' Fz', Ext B Fz Fz' → Rs K B Fz' H' σ' m' → Wx (ct c) Option.none σ' H'
theorem tS_iff {K : PySem.W.Frag} {ct : CT} {Wx : WX} {g : Ms → Fl} {D : Ends} {σ : L2.St} {H : Hp} : tS K ct Wx g D σ H ↔ ∃ B Fz m, Rs K B Fz H σ m ∧ EndS K ct Wx B Fz D (g m) := by
  unfold tS
  constructor
  · rintro ⟨B, Fz, m, h, q⟩
    refine ⟨B, Fz, m, h, ?_⟩
    cases hg : g m <;> (rw [hg] at q; exact q)
  · rintro ⟨B, Fz, m, h, q⟩
    refine ⟨B, Fz, m, h, ?_⟩
    cases hg : g m <;> (rw [hg] at q; exact q)
theorem EndS.ext {K : PySem.W.Frag} {ct : CT} {Wx : WX} {B : Hp} {Fz Fz' : Addr → Prop} {D : Ends} {f : Fl} (e : Ext B Fz Fz') (h : EndS K ct Wx B Fz D f) : EndS K ct Wx B Fz' D f := by
  cases f with
  | st => exact h
  | nx m => exact fun σ' H' F' x => h σ' H' F' (e.trans x)
  | rt x => exact fun σ' H' F' x => h σ' H' F' (e.trans x)
  | bk m => exact fun σ' H' F' x => h σ' H' F' (e.trans x)
  | ct m => exact fun σ' H' F' x => h σ' H' F' (e.trans x)
  | ex c m => exact fun σ' H' F' x => h σ' H' F' (e.trans x)
section
variable {X : Cx} {ct : CT} {Wx : WX} {e a b c : Expr} {st : Stmt} {rest : List Stmt} {pos : Pos}
theorem mkS {te : TE} {g : Ms → Fl} (h : PS X st (fun D σ H => te σ H fun _ _ => True)) : True := trivial
/-- a statement's rule from the layer's -/
theorem ds_of {t : TS} {g : Ms → Fl} (h : PS X st t) (q : ∀ D σ H B Fz m, Rs X.K B Fz H σ m → EndS X.K ct Wx B Fz D (g m) → t D σ H) : DS X ct Wx st g :=
  ⟨PS_imp h fun D σ H w => by
    obtain ⟨B, Fz, m, h1, h2⟩ := tS_iff.mp w
    exact q D σ H B Fz m h1 h2⟩
theorem dss_of {sts : List Stmt} {t : TS} {g : Ms → Fl} (h : PSs X sts t) (q : ∀ D σ H B Fz m, Rs X.K B Fz H σ m → EndS X.K ct Wx B Fz D (g m) → t D σ H) : DSs X ct Wx sts g :=
  ⟨PSs_imp h fun D σ H w => by
    obtain ⟨B, Fz, m, h1, h2⟩ := tS_iff.mp w
    exact q D σ H B Fz m h1 h2⟩

/-! ### blocks -/
def sNil : Ms → Fl := fun m => .nx m
def sSeq (f g : Ms → Fl) : Ms → Fl := fun m => match f m with
  | .nx m' => g m'
  | r => r
theorem ds_nil : DSs X ct Wx [] sNil := dss_of pss_nil fun D σ H B Fz m h q => q σ H Fz .refl h
theorem ds_cons {f g : Ms → Fl} (h1 : DS X ct Wx st f) (h2 : DSs X ct Wx rest g) : DSs X ct Wx (st :: rest) (sSeq f g) := dss_of (pss_cons h1.ps h2.ps) fun D σ H B Fz m h q => by
  refine tS_iff.mpr ⟨B, Fz, m, h, ?_⟩
  unfold sSeq at q
  cases hf : f m with
  | st => rw [hf] at q; exact q
  | nx m' =>
    rw [hf] at q
    exact fun σ' H' F' x h' => tS_iff.mpr ⟨B, F', m', h', q.ext x⟩
  | rt x => rw [hf] at q; exact q
  | bk m' => rw [hf] at q; exact q
  | ct m' => rw [hf] at q; exact q
  | ex c m' => rw [hf] at q; exact q
theorem ds_one {f : Ms → Fl} (h1 : DS X ct Wx st f) : DSs X ct Wx [st] f := ⟨pss_one h1.ps⟩
/-- a slot's own list is given up -/
def frzAt (i : Nat) (m : Ms) : Ms := match m[i]? with
  | some (some (.l xs)) => m.set i (some (.d (.list xs)))
  | _ => m
def sFrz (i : Nat) (g : Ms → Fl) : Ms → Fl := fun m => g (frzAt i m)
theorem frz_end {i : Nat} {D : Ends} {σ : L2.St} {H B : Hp} {Fz : Addr → Prop} {m : Ms} {f : Fl} (h : Rs X.K B Fz H σ m) (q : EndS X.K ct Wx B Fz D f) : ∃ F', Rs X.K B F' H σ (frzAt i m) ∧ EndS X.K ct Wx B F' D f := by
  unfold frzAt
  split
  · rename_i xs e
    obtain ⟨F', x, h'⟩ := h.frzAt i e
    exact ⟨F', h', q.ext x⟩
  · exact ⟨Fz, h, q⟩
theorem ds_frz (i : Nat) {sts : List Stmt} {g : Ms → Fl} (h : DSs X ct Wx sts g) : DSs X ct Wx sts (sFrz i g) := dss_of h.ps fun D σ H B Fz m h q => by
  obtain ⟨F', h', q'⟩ := frz_end (i := i) h q
  exact tS_iff.mpr ⟨B, F', _, h', q'⟩
theorem ds_frz1 (i : Nat) {g : Ms → Fl} (h : DS X ct Wx st g) : DS X ct Wx st (sFrz i g) := ds_of h.ps fun D σ H B Fz m h q => by
  obtain ⟨F', h', q'⟩ := frz_end (i := i) h q
  exact tS_iff.mpr ⟨B, F', _, h', q'⟩

/-! ### small statements -/
theorem ds_pass : DS X ct Wx (.Pass pos) sNil := ds_of ps_pass fun D σ H B Fz m h q => q σ H Fz .refl h
def sBrk : Ms → Fl := fun m => .bk m
def sCnt : Ms → Fl := fun m => .ct m
theorem ds_break : DS X ct Wx (.Break pos) sBrk := ds_of ps_break fun D σ H B Fz m h q => q σ H Fz .refl h
theorem ds_cont : DS X ct Wx (.Continue pos) sCnt := ds_of ps_continue fun D σ H B Fz m h q => q σ H Fz .refl h
theorem ds_doc {x j pos pos'} : DS X ct Wx (.Expr (.Constant (.str x) j pos) pos') sNil := ds_of ps_doc fun D σ H B Fz m h q => q σ H Fz .refl h
def flE {α : Type} (f : Ms → Rz α) (k : α → Ms → Fl) : Ms → Fl := fun m => match f m with
  | .st => .st
  | .ok w => k w m
  | .ex c => .ex c m
/-- from an expression's end -/
theorem tE_end {f : Ms → Rz W} {B : Hp} {Fz : Addr → Prop} {σ : L2.St} {m : Ms} {H : Hp} {Q : VK} {D : Ends} {k : W → Ms → Fl} (h : Rs X.K B Fz H σ m)
    (q : EndS X.K ct Wx B Fz D (flE f k m))
    (hk : ∀ w v H' Fz', f m = .ok w → Ext B Fz Fz' → Rs X.K B Fz' H' (some v :: σ) (some w :: m) → EndS X.K ct Wx B Fz' D (k w m) → Q v H') : tE X.K ct Wx f σ H Q := by
  refine ⟨B, Fz, m, h, ?_⟩
  unfold flE at q
  cases hf : f m with
  | st => rw [hf] at q; exact q
  | ex c => rw [hf] at q; exact fun H' F' x r => q σ H' F' x r
  | ok w => rw [hf] at q; exact fun v H' F' x r => hk w v H' F' hf x r (q.ext x)
theorem tV_end {f : Ms → Rz PyData} {B : Hp} {Fz : Addr → Prop} {σ : L2.St} {m : Ms} {H : Hp} {Q : VK} {D : Ends} {k : PyData → Ms → Fl} (h : Rs X.K B Fz H σ m)
    (q : EndS X.K ct Wx B Fz D (flE f k m))
    (hk : ∀ x v H' Fz', f m = .ok x → Ext B Fz Fz' → Rs X.K B Fz' H' σ m → Rp X.K Fz' H' v x → EndS X.K ct Wx B Fz' D (k x m) → Q v H') : tV X.K ct Wx f σ H Q := by
  refine ⟨B, Fz, m, h, ?_⟩
  unfold flE at q
  cases hf : f m with
  | st => rw [hf] at q; exact q
  | ex c => rw [hf] at q; exact fun H' F' x r => q σ H' F' x r
  | ok w => rw [hf] at q; exact fun v H' F' x r => hk w v H' F' hf x r.1 r.2 (q.ext x)
/-- name = e -/
def sSet (i : Nat) (f : Ms → Rz W) : Ms → Fl := flE f fun w m => if i < m.length then .nx (m.set i (some w)) else .st
theorem ds_set {x : Str} {f : Ms → Rz W} {pos' : Pos} (i : Nat) (he : DE X ct Wx e f) (hN : X.N.Nodup) (hi : X.N[i]? = some x := by rfl) (hx : Loc X.env.scope x := by first | exact Or.inl rfl | exact Or.inr rfl)
    (hs : swapsWith e (some (.Name x pos')) pos.line X.env = pure false := by rfl) (hf : X.fn x = true ∨ X.env.scope.names.lookup x = some .local := by first | exact .inl rfl | exact .inr rfl) : DS X ct Wx (.Assign [.Name x pos'] e pos) (sSet i f) :=
  ds_of (ps_set hN hi hx he.pe hs hf) fun D σ H B Fz m h q => by
    refine tE_end (k := fun w m => if i < m.length then .nx (m.set i (some w)) else .st) h q fun w v H' F' _ x r q => ?_
    split at q
    · rename_i hl
      exact q _ _ F' .refl (r.put i hl)
    · exact q.elim
/-- name = [.. for ..] where the name is stored within the frame of the comprehension -/
theorem ds_setc {te : TE} {f : Ms → Rz W} (i : Nat) (hp : PS X st (tAsg te (gName i))) (ht : ∀ σ H Q, tE X.K ct Wx f σ H Q → te σ H Q) : DS X ct Wx st (sSet i f) :=
  ds_of hp fun D σ H B Fz m h q => by
    refine ht _ _ _ (tE_end (k := fun w m => if i < m.length then .nx (m.set i (some w)) else .st) h q fun w v H' F' _ x r q => ?_)
    split at q
    · rename_i hl
      exact q _ _ F' .refl (r.put i hl)
    · exact q.elim
/-- an expression as a statement -/
def sExpr (f : Ms → Rz PyData) : Ms → Fl := flE f fun _ m => .nx m
theorem ds_expr {f : Ms → Rz PyData} (he : DV X ct Wx e f) (hs : swapsWith e none pos.line X.env = pure false := by rfl) : DS X ct Wx (.Expr e pos) (sExpr f) :=
  ds_of (ps_expr he.pe hs) fun D σ H B Fz m h q => tV_end (k := fun _ m => .nx m) h q fun _ v H' F' _ x r _ q => q σ H' F' .refl r
def sRet (f : Ms → Rz PyData) : Ms → Fl := flE f fun x _ => .rt x
theorem ds_ret {f : Ms → Rz PyData} (he : DV X ct Wx e f) : DS X ct Wx (.Return (some e) pos) (sRet f) :=
  ds_of (ps_ret he.pe) fun D σ H B Fz m h q => tV_end (k := fun x _ => .rt x) h q fun _ v H' F' _ x r p q => q v H' F' .refl ⟨_, _, r⟩ p
def sRetN : Ms → Fl := fun _ => .rt .none
theorem ds_retN : DS X ct Wx (.Return none pos) sRetN := ds_of ps_retN fun D σ H B Fz m h q => q .non H Fz .refl ⟨_, _, h⟩ .non
def sIf (t : Ms → Rz Bool) (f g : Ms → Fl) : Ms → Fl := flE t fun b m => if b = true then f m else g m
theorem ds_if {t : Ms → Rz Bool} {f g : Ms → Fl} {A B : List Stmt} (ht : DT X ct Wx c t) (hf : DSs X ct Wx A f) (hg : DSs X ct Wx B g) : DS X ct Wx (.If c A B pos) (sIf t f g) :=
  ds_of (ps_if ht.pt hf.ps hg.ps) fun D σ H B Fz m h q => by
    refine ⟨B, Fz, m, h, ?_⟩
    unfold sIf flE at q
    cases hf : t m with
    | st => rw [hf] at q; exact q
    | ex c => rw [hf] at q; exact fun H' F' x r => q σ H' F' x r
    | ok b =>
      rw [hf] at q
      intro H' F' x r
      cases b with
      | true => rw [if_pos rfl]; exact tS_iff.mpr ⟨B, F', m, r, q.ext x⟩
      | false => rw [if_neg Bool.false_ne_true]; exact tS_iff.mpr ⟨B, F', m, r, q.ext x⟩
/-- code that is never reached -/
def sStuck : Ms → Fl := fun _ => .st
theorem ds_never : DS X ct Wx st sStuck := ds_of ps_never fun D σ H B Fz m h q => q.elim
theorem dss_never {sts : List Stmt} : DSs X ct Wx sts sStuck := dss_of pss_never fun D σ H B Fz m h q => q.elim

/-! ### targets -/
/-- what is stored where; vs: the slots that are touched -/
def gD (K : PySem.W.Frag) (vs : List Nat) (s : PyData → Ms → Option Ms) : TG := fun v σ H Q => ∃ B Fz m x, Rs K B Fz H σ m ∧ Rp K Fz H v x ∧
  match s x m with
  | some m' => ∀ σ', Rs K B Fz H σ' m' → σ'.length = σ.length → (∀ j, j ∉ vs → σ'[j]? = σ[j]?) → Q σ' H
  | none => False
def OffM {α : Type} (vs : List Nat) (s : α → Ms → Option Ms) : Prop := ∀ x m m', s x m = some m' → m'.length = m.length ∧ ∀ j, j ∉ vs → m'[j]? = m[j]?
structure DG (X : Cx) (tg : Expr) (vs : List Nat) (s : PyData → Ms → Option Ms) : Prop where
  pg : PG X tg (gD X.K vs s)
  off : OffM vs s
theorem PG_imp {tg : Expr} {t t' : TG} (h : PG X tg t) (q : ∀ v σ H Q, t' v σ H Q → t v σ H Q) : PG X tg t' := ⟨fun pins s σ H v u Q I r w => h.run pins s σ H v u Q I r (q _ _ _ _ w)⟩
def gSet (i : Nat) : PyData → Ms → Option Ms := fun x m => if i < m.length then some (m.set i (some (.d x))) else none
theorem dg_name {x : Str} (i : Nat) (hN : X.N.Nodup) (hi : X.N[i]? = some x := by rfl) (hx : Loc X.env.scope x := by first | exact Or.inl rfl | exact Or.inr rfl) (hf : X.fn x = true ∨ X.env.scope.names.lookup x = some .local := by first | exact .inl rfl | exact .inr rfl) :
    DG X (.Name x pos) [i] (gSet i) := ⟨PG_imp (pg_name hN hi hx hf) fun v σ H Q ⟨B, Fz, m, x, h, r, q⟩ => by
  unfold gSet at q
  split at q
  · rename_i hs
    split at hs
    · rename_i hl
      cases hs
      refine q _ ((h.push r).put i hl) (by simp) fun j hj => ?_
      rw [List.getElem?_set_ne]
      intro z; exact hj (by simp [z])
    · cases hs
  · exact q.elim, fun x m m' e => by
    unfold gSet at e
    split at e
    · cases e
      refine ⟨List.length_set, fun j hj => ?_⟩
      rw [List.getElem?_set_ne]
      intro z; exact hj (by simp [z])
    · cases e⟩
/-- several targets -/
def gDs (K : PySem.W.Frag) (vs : List Nat) (s : List PyData → Ms → Option Ms) : TGs := fun v σ H Q => ∃ B Fz m x, Rs K B Fz H σ m ∧ RpAll K Fz H v x ∧
  match s x m with
  | some m' => ∀ σ', Rs K B Fz H σ' m' → σ'.length = σ.length → (∀ j, j ∉ vs → σ'[j]? = σ[j]?) → Q σ' H
  | none => False
structure DGs (X : Cx) (ts : List Expr) (vs : List Nat) (s : List PyData → Ms → Option Ms) : Prop where
  pg : PGs X ts (gDs X.K vs s)
  off : OffM vs s
theorem PGs_imp {ts : List Expr} {t t' : TGs} (h : PGs X ts t) (q : ∀ v σ H Q, t' v σ H Q → t v σ H Q) : PGs X ts t' := ⟨fun pins s σ H v u Q I r w => h.run pins s σ H v u Q I r (q _ _ _ _ w)⟩
def gNil : List PyData → Ms → Option Ms := fun xs m => match xs with
  | [] => some m
  | _ => none
def gCons (s : PyData → Ms → Option Ms) (t : List PyData → Ms → Option Ms) : List PyData → Ms → Option Ms := fun xs m => match xs with
  | x :: r => (s x m).bind fun m' => t r m'
  | [] => none
theorem dgs_nil : DGs X [] [] gNil := ⟨PGs_imp pgs_nil fun v σ H Q ⟨B, Fz, m, x, h, r, q⟩ => by
  unfold gNil at q
  cases x with
  | nil =>
    cases r
    exact ⟨rfl, q σ h rfl fun _ _ => rfl⟩
  | cons _ _ => exact q.elim, fun x m m' e => by
    unfold gNil at e
    split at e
    · cases e; exact ⟨rfl, fun _ _ => rfl⟩
    · cases e⟩
theorem dgs_cons {tg : Expr} {ts : List Expr} {v1 v2 : List Nat} {s : PyData → Ms → Option Ms} {t : List PyData → Ms → Option Ms} (h1 : DG X tg v1 s) (h2 : DGs X ts v2 t)
    (hs : (assignEach (tg :: ts) X.env).map (·.2) = assign tg X.env :: (assignEach ts X.env).map (·.2) := by rfl) : DGs X (tg :: ts) (v1 ++ v2) (gCons s t) := ⟨PGs_imp (pgs_cons h1.pg h2.pg hs) fun v σ H Q ⟨B, Fz, m, x, h, r, q⟩ => by
  unfold gCons at q
  cases x with
  | nil => exact q.elim
  | cons y ys =>
    cases r with
    | @cons u us _ _ r rs =>
      refine ⟨u, us, rfl, B, Fz, m, y, h, r, ?_⟩
      dsimp only at q
      cases hs : s y m with
      | none => rw [hs] at q; exact q
      | some m' =>
        rw [hs] at q
        intro σ' h' l' o'
        refine ⟨B, Fz, m', ys, h', rs, ?_⟩
        cases ht : t ys m' with
        | none => rw [Option.bind_some, ht] at q; exact q
        | some m2 =>
          rw [Option.bind_some, ht] at q
          exact fun σ2 h2 l2 o2 => q σ2 h2 (l2.trans l') fun j hj => (o2 j fun z => hj (List.mem_append_right _ z)).trans (o' j fun z => hj (List.mem_append_left _ z)), fun x m m' e => by
    unfold gCons at e
    cases x with
    | nil => cases e
    | cons y r =>
      dsimp only at e
      cases hs : s y m with
      | none => rw [hs] at e; cases e
      | some m1 =>
        rw [hs, Option.bind_some] at e
        obtain ⟨l1, o1⟩ := h1.off _ _ _ hs
        obtain ⟨l2, o2⟩ := h2.off _ _ _ e
        exact ⟨l2.trans l1, fun j hj => (o2 j fun z => hj (List.mem_append_right _ z)).trans (o1 j fun z => hj (List.mem_append_left _ z))⟩⟩
def gTup' (n : Nat) (t : List PyData → Ms → Option Ms) : PyData → Ms → Option Ms := fun x m => match x with
  | .tuple xs => if xs.length = n then t xs m else none
  | _ => none
theorem dg_tup {ts : List Expr} {k : Nat} {vs : List Nat} {t : List PyData → Ms → Option Ms} {n : Nat} (h : DGs X ts vs t) (hc : X.calm = true := by rfl) (hn : (assignEach ts X.env).length = n := by rfl)
    (hst : (assignEach ts X.env).findIdx? (·.1) = none := by rfl) : DG X (.Tuple ts k pos) vs (gTup' n t) := ⟨PG_imp (pg_tup hc h.pg hn hst) fun v σ H Q ⟨B, Fz, m, x, h, r, q⟩ => by
  unfold gTup' at q
  cases x with
  | tuple xs =>
    dsimp only at q
    cases r with
    | @tup a us _ s r =>
      by_cases hl : xs.length = n
      · rw [if_pos hl] at q
        exact ⟨a, us, rfl, s, r.length.trans hl, B, Fz, m, xs, h, r, q⟩
      · rw [if_neg hl] at q
        exact q.elim
  | _ => exact q.elim, fun x m m' e => by
    unfold gTup' at e
    cases x with
    | tuple xs =>
      dsimp only at e
      split at e
      · exact h.off _ _ _ e
      · cases e
    | _ => cases e⟩
/-- target = value -/
def sAsg (f : Ms → Rz PyData) (s : PyData → Ms → Option Ms) : Ms → Fl := flE f fun x m => match s x m with
  | some m' => .nx m'
  | none => .st
theorem ds_asg {tg : Expr} {vs : List Nat} {s : PyData → Ms → Option Ms} {f : Ms → Rz PyData} (he : DV X ct Wx e f) (hg : DG X tg vs s) (hs : swapsWithSole [tg] e pos.line X.env = pure false := by rfl) (hw : swappedStores [tg] e X.env = pure none := by rfl)
    (h1 : (assignEach [tg] X.env).map (·.2) = [assign tg X.env] := by rfl) : DS X ct Wx (.Assign [tg] e pos) (sAsg f s) :=
  ds_of (ps_asg he.pe hg.pg hs hw h1) fun D σ H B Fz m h q => by
    refine tV_end (k := fun x m => match s x m with | some m' => .nx m' | none => .st) h q fun y v H' F' _ x r p q => ?_
    refine ⟨B, F', m, y, r, p, ?_⟩
    cases hs : s y m with
    | none => rw [hs] at q; exact q
    | some m' => rw [hs] at q; exact fun σ' h' _ _ => q σ' H' F' .refl h'
/-- a, b = x, y -/
def sPar (i j : Nat) (f g : Ms → Rz PyData) : Ms → Fl := flE (evalAllD [f, g]) fun xs m => match xs with
  | [x, y] => if i < m.length ∧ j < m.length then .nx ((m.set i (some (.d x))).set j (some (.d y))) else .st
  | _ => .st
theorem ds_par {i j : Nat} {x y : Str} {fa fb : Ms → Rz PyData} {px py pt : Pos} {kt k2 pt2} (hN : X.N.Nodup) (ha : DA X ct Wx [a, b] [fa, fb]) (hc : X.calm = true := by rfl) (hi : X.N[i]? = some x := by rfl) (hj : X.N[j]? = some y := by rfl) (hij : i ≠ j := by decide)
    (hx : X.env.scope.names.lookup x = some .local := by rfl) (hy : X.env.scope.names.lookup y = some .local := by rfl)
    (hw : swappedStores [.Tuple [.Name x px, .Name y py] kt pt] (.Tuple [a, b] k2 pt2) X.env = pure (some [x, y]) := by rfl)
    (hs : swapsWithSole [.Tuple [.Name x px, .Name y py] kt pt] (.Tuple [a, b] k2 pt2) pos.line X.env = pure false := by rfl) :
    DS X ct Wx (.Assign [.Tuple [.Name x px, .Name y py] kt pt] (.Tuple [a, b] k2 pt2) pos) (sPar i j fa fb) :=
  ds_of (ps_par hc hN hi hj hij hx hy ha.pa hw hs) fun D σ H B Fz m h q => by
    refine ⟨B, Fz, m, h, ?_⟩
    unfold sPar flE at q
    cases hf : evalAllD [fa, fb] m with
    | st => rw [hf] at q; exact q
    | ex c => rw [hf] at q; exact fun H' F' x r => q σ H' F' x r
    | ok xs =>
      rw [hf] at q
      intro vs H' F' x r p
      match xs, p, q with
      | [y, z], .cons p1 (.cons p2 .nil), q =>
        refine ⟨_, _, rfl, ?_⟩
        have q : EndS X.K ct Wx B Fz D (if i < m.length ∧ j < m.length then .nx ((m.set i (some (.d y))).set j (some (.d z))) else .st) := q
        split at q
        · rename_i hl
          exact q _ _ F' x ((((r.push p1).put i hl.1).push p2).put j (by simpa using hl.2))
        · exact q.elim
      | [], _, q => exact q.elim
      | [_], _, q => exact q.elim
      | _ :: _ :: _ :: _, _, q => exact q.elim
/-- name op= e -/
def ipD (g : Int → Int → Int) : PyData → PyData → Option PyData
  | .int i, .int j => some (.int (g i j))
  | _, _ => none
def sAug (i : Nat) (g : Int → Int → Int) (f : Ms → Rz PyData) : Ms → Fl := fun m => match vVar i m with
  | .ok x => flE f (fun y m => match ipD g x y with
    | some z => if i < m.length then .nx (m.set i (some (.d z))) else .st
    | none => .st) m
  | _ => .st
theorem ds_aug {i : Nat} {x : Str} {f : Ms → Rz PyData} {op : Operator} {g : Int → Int → Int} {pos' : Pos} (ho : PIp X op (ipI g)) (hN : X.N.Nodup) (he : DV X ct Wx e f) (hi : X.N[i]? = some x := by rfl) (hx : Loc X.env.scope x := by first | exact Or.inl rfl | exact Or.inr rfl)
    (hf : X.fn x = true ∨ X.env.scope.names.lookup x = some .local := by first | exact .inl rfl | exact .inr rfl) : DS X ct Wx (.AugAssign (.Name x pos') op e pos) (sAug i g f) :=
  ds_of (ps_aug hN hi hx he.pe ho hf) fun D σ H B Fz m h q => by
    unfold sAug at q
    cases hv : vVar i m with
    | st => rw [hv] at q; exact q.elim
    | ex c => exact absurd hv vVar_ex
    | ok y =>
      rw [hv] at q
      obtain ⟨v, h1, h2⟩ := h.get (vVar_ok hv)
      refine ⟨v, h1, ?_⟩
      obtain ⟨B2, hB, he', ht⟩ := h.step
      refine ⟨B2, Fz, m, hB, ?_⟩
      have q : EndS X.K ct Wx B Fz D (flE f (fun y' m => match ipD g y y' with | some z => if i < m.length then .nx (m.set i (some (.d z))) else .st | none => .st) m) := q
      unfold flE at q
      cases hf : f m with
      | st => rw [hf] at q; exact q
      | ex c => rw [hf] at q; exact fun H' F' x r => q σ H' F' (he' _ x) (ht (ρ := []) (r := []) x r rfl).1
      | ok z =>
        rw [hf] at q
        intro u H' F' x r
        obtain ⟨r', l⟩ := ht (ρ := []) (r := []) x r.1 rfl
        have q : EndS X.K ct Wx B Fz D (match ipD g y z with | some z => if i < m.length then .nx (m.set i (some (.d z))) else .st | none => .st) := q
        unfold ipD at q
        cases y with
        | int iy =>
          cases z with
          | int iz =>
            have q : EndS X.K ct Wx B Fz D (if i < m.length then .nx (m.set i (some (.d (.int (g iy iz))))) else .st) := q
            cases h2
            cases r.2
            refine ⟨iy, iz, rfl, rfl, ?_⟩
            split at q
            · rename_i hl
              exact q _ _ F' (he' _ x) ((Rs.push r' (Rp.int (g iy iz))).put i hl)
            · exact q.elim
          | _ => exact q.elim
        | _ => exact q.elim
end
end Dl
set_option Elab.async false
set_option linter.all false
set_option maxRecDepth 100000
/-! D7: loops. -/
namespace Dl
open PySem PySem.Spec PyProof.Rows L2
section
variable {K : PySem.W.Frag} {B : Hp} {Fz : Addr → Prop} {H : Hp} {σ τ : L2.St} {m n : Ms} {ct : CT} {Wx : WX}
theorem RL.split : ∀ {τ σ : L2.St} {n m : Ms} {fp : List Addr}, RL K Fz H (τ ++ σ) (n ++ m) fp → τ.length = n.length → ∃ f1 f2, fp = f1 ++ f2 ∧ RL K Fz H τ n f1 ∧ RL K Fz H σ m f2
  | [], σ, [], m, fp, h, _ => ⟨[], fp, rfl, .nil, h⟩
  | [], _, _ :: _, _, _, _, hl => by simp at hl
  | _ :: _, _, [], _, _, _, hl => by simp at hl
  | x :: τ, σ, y :: n, m, fp, h, hl => by
    rw [List.cons_append, List.cons_append] at h
    cases h with
    | no r =>
      obtain ⟨f1, f2, e, a, b⟩ := RL.split r (by simpa using hl)
      exact ⟨f1, f2, e, .no a, b⟩
    | @so _ _ f _ _ _ q r =>
      obtain ⟨f1, f2, e, a, b⟩ := RL.split r (by simpa using hl)
      exact ⟨f ++ f1, f2, by rw [e, List.append_assoc], .so q a, b⟩
theorem RL.glue {f2 : List Addr} : ∀ {τ : L2.St} {n : Ms} {f1 : List Addr}, RL K Fz H τ n f1 → RL K Fz H σ m f2 → RL K Fz H (τ ++ σ) (n ++ m) (f1 ++ f2)
  | _, _, _, .nil, b => b
  | _, _, _, .no r, b => .no (RL.glue r b)
  | _, _, _, .so q r, b => by rw [List.append_assoc]; exact .so q (RL.glue r b)
open Classical in
/-- values τ are held; what comes behind leaves them alone, whatever it does to the slots -/
theorem Rs.holdG (h : Rs K B Fz H (τ ++ σ) (n ++ m)) (hl : τ.length = n.length) : ∃ B2 : Hp, Rs K B2 Fz H σ m ∧ (∀ F1 F', Ext B2 F1 F' → Ext B F1 F') ∧
    ∀ {Fz' : Addr → Prop} {H' : Hp} {ρ : L2.St} {r : Ms}, Ext B2 Fz Fz' → Rs K B2 Fz' H' ρ r → Rs K B Fz' H' (τ ++ ρ) (n ++ r) ∧ Le Fz H Fz' H' := by
  obtain ⟨fp, rl, nd, own, base, fz⟩ := h
  obtain ⟨f1, f2, e, r1, r2⟩ := RL.split rl hl
  subst e
  rw [List.nodup_append] at nd
  obtain ⟨nd1, nd2, nd3⟩ := nd
  have b2s : ∀ a o, (if a ∈ f2 then none else H a) = some o → a ∉ f2 ∧ H a = some o := fun a o q => by
    by_cases z : a ∈ f2
    · rw [if_pos z] at q; cases q
    · rw [if_neg z] at q; exact ⟨z, q⟩
  have bb : ∀ a, (if a ∈ f2 then (none : Option HO) else H a) = none → B a = none := fun a q => by
    by_cases z : a ∈ f2
    · exact (own a (List.mem_append_right _ z)).1
    · rw [if_neg z] at q
      cases w : B a with
      | none => rfl
      | some o => rw [base a o w] at q; cases q
  refine ⟨fun a => if a ∈ f2 then none else H a, ⟨f2, r2, nd2, fun a ha => ⟨if_pos ha, (own a (List.mem_append_right _ ha)).2⟩, fun a o q => (b2s a o q).2, fz⟩, fun F1 F' x => ⟨x.le, fun a ha => (x.new a ha).imp id (bb a)⟩, ?_⟩
  intro Fz' H' ρ r x h'
  obtain ⟨fp', rl', nd', own', base', fz'⟩ := h'
  have st : ∀ a o, H a = some o → a ∉ f2 → H' a = some o := fun a o q z => base' a o (by rw [if_neg z]; exact q)
  have l : Le Fz H Fz' H' := ⟨x.le, fun a o q k => st a o q fun z => by
    rcases k with k | k
    · exact (own a (List.mem_append_right _ z)).2 k
    · obtain ⟨vs, q'⟩ := r2.own a z
      rw [q] at q'; cases q'
      exact k⟩
  have d1 : ∀ a ∈ f1, (if a ∈ f2 then none else H a) ≠ none := fun a ha => by
    have z : a ∉ f2 := fun z => nd3 a ha a z rfl
    rw [if_neg z]
    obtain ⟨vs, q⟩ := r1.own a ha
    rw [q]; simp
  have rt : RL K Fz' H' τ n f1 := r1.mono l fun a ha o q => st a o q fun z => nd3 a ha a z rfl
  refine ⟨⟨f1 ++ fp', RL.glue rt rl', ?_, fun a ha => ?_, fun a o q => ?_, fz'⟩, l⟩
  · rw [List.nodup_append]
    refine ⟨nd1, nd', fun a ha b hb e => ?_⟩
    subst e
    exact d1 a ha (own' a hb).1
  · rcases List.mem_append.mp ha with ha | ha
    · refine ⟨(own a (List.mem_append_left _ ha)).1, fun z => ?_⟩
      rcases x.new a z with z | z
      · exact (own a (List.mem_append_left _ ha)).2 z
      · exact d1 a ha z
    · exact ⟨bb a (own' a ha).1, (own' a ha).2⟩
  · have z : a ∉ f2 := fun z => by
      have := (own a (List.mem_append_right _ z)).1
      rw [q] at this; cases this
    exact st a o (base a o q) z
theorem Rs.stepG (h : Rs K B Fz H σ m) : ∃ B2 : Hp, Rs K B2 Fz H σ m ∧ (∀ F1 F', Ext B2 F1 F' → Ext B F1 F') ∧
    ∀ {Fz' : Addr → Prop} {H' : Hp} {ρ : L2.St} {r : Ms}, Ext B2 Fz Fz' → Rs K B2 Fz' H' ρ r → Rs K B Fz' H' ρ r ∧ Le Fz H Fz' H' := by
  obtain ⟨B2, h1, h2, h3⟩ := Rs.holdG (τ := []) (n := []) (by simpa using h) rfl
  exact ⟨B2, h1, h2, fun x h' => by simpa using h3 x h'⟩
/-- slots that hold nothing may be anything -/
theorem RL.anyway : ∀ {σ : L2.St} {m : Ms} {fp : List Addr}, RL K Fz H σ m fp → ∀ {ρ : L2.St}, ρ.length = σ.length → (∀ j : Nat, m[j]? ≠ some none → ρ[j]? = σ[j]?) → RL K Fz H ρ m fp
  | _, _, _, .nil, ρ, hl, _ => by
    cases ρ with
    | nil => exact .nil
    | cons _ _ => simp at hl
  | _, _, _, .no r, ρ, hl, hj => by
    cases ρ with
    | nil => simp at hl
    | cons y ρ => exact .no (RL.anyway r (by simpa using hl) fun j h => by simpa using hj (j + 1) (by simpa using h))
  | _, _, _, .so q r, ρ, hl, hj => by
    cases ρ with
    | nil => simp at hl
    | cons y ρ =>
      have e := hj 0 (by simp)
      simp at e
      subst e
      exact .so q (RL.anyway r (by simpa using hl) fun j h => by simpa using hj (j + 1) (by simpa using h))
theorem Rs.anyway {ρ : L2.St} (h : Rs K B Fz H σ m) (hl : ρ.length = σ.length) (hj : ∀ j : Nat, m[j]? ≠ some none → ρ[j]? = σ[j]?) : Rs K B Fz H ρ m := by
  obtain ⟨fp, r⟩ := h
  exact ⟨fp, r.rl.anyway hl hj, r.nd, r.own, r.base, r.fz⟩
/-- the end is the same from a base that stands on more -/
theorem EndS.up {B2 : Hp} {D : Ends} {f : Fl} (h2 : ∀ F1 F', Ext B2 F1 F' → Ext B F1 F') (h3 : ∀ {Fz' : Addr → Prop} {H' : Hp} {ρ : L2.St} {r : Ms}, Ext B2 Fz Fz' → Rs K B2 Fz' H' ρ r → Rs K B Fz' H' ρ r ∧ Le Fz H Fz' H') (h : EndS K ct Wx B Fz D f) : EndS K ct Wx B2 Fz D f := by
  cases f with
  | st => exact h
  | nx m => exact fun σ' H' F' x r => h σ' H' F' (h2 _ _ x) (h3 x r).1
  | rt y => exact fun v H' F' x ⟨σ', m', r⟩ => h v H' F' (h2 _ _ x) ⟨σ', m', (h3 x r).1⟩
  | bk m => exact fun σ' H' F' x r => h σ' H' F' (h2 _ _ x) (h3 x r).1
  | ct m => exact fun σ' H' F' x r => h σ' H' F' (h2 _ _ x) (h3 x r).1
  | ex c m => exact fun σ' H' F' x r => h σ' H' F' (h2 _ _ x) (h3 x r).1

/-! ### what is walked -/
/-- J yields the items xs, whatever comes to pass that leaves frozen data alone -/
def ItOk (K : PySem.W.Frag) (Fz : Addr → Prop) (H : Hp) (J : It) (xs : List PyData) : Prop := ∀ Fz' H', Le Fz H Fz' H' → (∀ i, i < xs.length → J.go i H') ∧ J.stop xs.length H' ∧
  ∀ (i : Nat) (x : PyData) (v : V) (H'' : Hp), xs[i]? = some x → J.yld i H' v H'' → (H'' = H' ∨ ∃ (p : Addr) (ts : List V), H' p = none ∧ H'' = upd H' p (.tup ts)) ∧ Rp K Fz' H'' v x
def tI (K : PySem.W.Frag) (ct : CT) (Wx : WX) (f : Ms → Rz (List PyData)) : TI := fun σ H R => ∃ B Fz m, Rs K B Fz H σ m ∧ match f m with
  | .st => False
  | .ok xs => ∀ J H' Fz', Ext B Fz Fz' → Rs K B Fz' H' σ m → ItOk K Fz' H' J xs → xs.length ≤ sizeLine → R J H'
  | .ex c => ∀ H' Fz', Ext B Fz Fz' → Rs K B Fz' H' σ m → Wx (ct c) Option.none σ H'
end
structure DI (X : Cx) (ct : CT) (Wx : WX) (tg e : Expr) (f : Ms → Rz (List PyData)) : Prop where
  pi : PI X tg e (tI X.K ct Wx f)
theorem PI_imp {X : Cx} {tg e : Expr} {t t' : TI} (h : PI X tg e t) (q : ∀ σ H R, t' σ H R → t σ H R) : PI X tg e t' := ⟨fun pins s σ H R I w => h.run pins s σ H R I (q _ _ _ w)⟩
/-- what is tracked has a bound -/
theorem pi_fin {X : Cx} {tg e : Expr} {t : TI} (h : PI X tg e t) : PI X tg e (fun σ H R => t σ H fun J H' => (∀ a xs, SqL X.K H' a xs → xs.length ≤ sizeLine) → (∀ a xs, SqT X.K H' a xs → xs.length ≤ sizeLine) → R J H') := ⟨fun pins s σ H R I w => by
  refine thn (h.run pins s σ H _ I w) fun v s1 q => thn q fun itv s2 ⟨it, fp, tn, J, H', e, I', T, t0, f, r⟩ => ⟨it, fp, tn, J, H', e, I', T, t0, f, r (fun a xs hq => ?_) fun a xs hq => ?_⟩
  · obtain ⟨_, _, _, hz⟩ := I'.list hq; exact hz
  · obtain ⟨_, _, _, hz⟩ := I'.tuple hq; exact hz⟩
section
variable {X : Cx} {ct : CT} {Wx : WX} {tg e a b c : Expr} {p pos : Pos} {K : PySem.W.Frag} {Fz : Addr → Prop} {H : Hp}
theorem itl_ok {a : Addr} {vs : List V} {ds : List PyData} (f : Fz a) (hq : H a = some (.lst vs)) (r : RpAll K Fz H vs ds) : ItOk K Fz H (Itl K a) ds := fun Fz' H' l => by
  have hq' : SqL K H' a vs := .inl (.inl (l.hp a _ hq (.inl f)))
  have r' := r.mono l
  refine ⟨fun i hi => ⟨vs, vs[i]'(by rw [r.length]; exact hi), hq', List.getElem?_eq_getElem _⟩, ⟨vs, hq', Nat.le_of_eq r.length⟩, fun i x v H'' hx hy => ?_⟩
  obtain ⟨e, hy⟩ := hy
  subst e
  obtain ⟨w, hw, rw'⟩ := r'.get' hx
  have := hy vs hq'
  rw [hw] at this; cases this
  exact ⟨.inl rfl, rw'⟩
theorem itt_ok {a : Addr} {vs : List V} {ds : List PyData} (hq : SqT K H a vs) (r : RpAll K Fz H vs ds) : ItOk K Fz H (Itt K a) ds := fun Fz' H' l => by
  have hq' : SqT K H' a vs := sqT_le l hq
  have r' := r.mono l
  refine ⟨fun i hi => ⟨vs, vs[i]'(by rw [r.length]; exact hi), hq', List.getElem?_eq_getElem _⟩, ⟨vs, hq', Nat.le_of_eq r.length⟩, fun i x v H'' hx hy => ?_⟩
  obtain ⟨e, hy⟩ := hy
  subst e
  obtain ⟨w, hw, rw'⟩ := r'.get' hx
  have := hy vs hq'
  rw [hw] at this; cases this
  exact ⟨.inl rfl, rw'⟩
/-- the items of a list or tuple -/
def itemsOf : PyData → Rz (List PyData)
  | .list xs => .ok xs
  | .tuple xs => .ok xs
  | _ => .st
def iSeq (f : Ms → Rz PyData) : Ms → Rz (List PyData) := fun m => (f m).bind itemsOf
theorem pi_seq {te : TE} (he : PE X e te) : PI X tg e (fun σ H R => te σ H fun x H1 => (∃ a xs, x = .ref a ∧ SqL X.K H1 a xs ∧ R (Itl X.K a) H1) ∨ ∃ a xs, x = .ref a ∧ SqT X.K H1 a xs ∧ R (Itt X.K a) H1) := by
  have vpe : ∀ (x : V) (v : Value), RelV x v → PE X e te → True := fun _ _ _ _ => trivial
  refine ⟨fun pins s σ H R I h => ?_⟩
  refine thn (he.run pins s σ H _ I h) fun v s1 ⟨x, H1, I1, r1, q1⟩ => ?_
  rcases q1 with ⟨a, xs, e, hq, q⟩ | ⟨a, xs, e, hq, q⟩ <;> subst e <;> cases r1
  · obtain ⟨its, rv, p, hz⟩ := I1.list hq
    refine wpAny_pyIter_list p.isList ⟨_, [s1.heap.objs.size], _, _, H1, rfl, I1.kept (t' := s1.toks) fun _ _ => Heap.get?_push_of_some _, turn_list a _, ⟨_, Heap.get?_push_size _ rfl, rfl, rfl⟩, fun b hb => ?_, q⟩
    rw [List.mem_singleton.mp hb]
    exact I1.fpOk (Nat.le_refl _) (I1.hok.fresh (Nat.le_refl _))
  · obtain ⟨its, rv, p, hz⟩ := I1.tuple hq
    refine wpAny_pyIter_tuple (show s1.heap.IsTuple a its.toArray from p) ⟨_, [s1.heap.objs.size], _, _, H1, rfl, I1.kept (t' := s1.toks) fun _ _ => Heap.get?_push_of_some _, turn_tuple a _, ⟨_, Heap.get?_push_size _ rfl, rfl, rfl⟩, fun b hb => ?_, q⟩
    rw [List.mem_singleton.mp hb]
    exact I1.fpOk (Nat.le_refl _) (I1.hok.fresh (Nat.le_refl _))
/-- tV's end, for anything that goes on from a value -/
theorem tV_to {f : Ms → Rz PyData} {g : PyData → Rz (List PyData)} {σ : L2.St} {H : Hp} {R : It → Hp → Prop} {Q : VK} (w : tI X.K ct Wx (fun m => (f m).bind g) σ H R)
    (hk : ∀ B Fz m x xs v H', Rs X.K B Fz H' σ m → g x = .ok xs → Rp X.K Fz H' v x → (∀ J, ItOk X.K Fz H' J xs → xs.length ≤ sizeLine → R J H') → Q v H') (hg : ∀ x c, g x ≠ .ex c) : tV X.K ct Wx f σ H Q := by
  obtain ⟨B, Fz, m, r, q⟩ := w
  refine ⟨B, Fz, m, r, ?_⟩
  dsimp only at q
  cases hf : f m with
  | st => rw [hf] at q; exact q
  | ex c => rw [hf] at q; exact q
  | ok x =>
    rw [hf] at q
    have q : match g x with
      | .st => False
      | .ok xs => ∀ J H' Fz', Ext B Fz Fz' → Rs X.K B Fz' H' σ m → ItOk X.K Fz' H' J xs → xs.length ≤ sizeLine → R J H'
      | .ex c => ∀ H' Fz', Ext B Fz Fz' → Rs X.K B Fz' H' σ m → Wx (ct c) Option.none σ H' := q
    intro v H' F' x' ⟨r', rv⟩
    cases hx : g x with
    | st => rw [hx] at q; exact q.elim
    | ex c => exact absurd hx (hg x c)
    | ok xs =>
      rw [hx] at q
      exact hk B F' m x xs v H' r' hx rv fun J o l => q J H' F' x' r' o l
theorem di_seq {f : Ms → Rz PyData} (he : DV X ct Wx e f) : DI X ct Wx tg e (iSeq f) := ⟨PI_imp (pi_fin (pi_seq he.pe)) fun σ H R w => tV_to (g := itemsOf) w (fun B Fz m x xs v H' r hx rv hk => by
    cases rv with
    | lst f hq ra =>
      cases hx
      exact .inl ⟨_, _, rfl, .inl (.inl hq), fun h1 _ => hk _ (itl_ok f hq ra) (by rw [← ra.length]; exact h1 _ _ (.inl (.inl hq)))⟩
    | tup hq ra =>
      cases hx
      exact .inr ⟨_, _, rfl, hq, fun _ h2 => hk _ (itt_ok hq ra) (by rw [← ra.length]; exact h2 _ _ hq)⟩
    | _ => cases hx) fun x c => by cases x <;> simp [itemsOf]⟩
/-- a range -/
def rngL (lo : Int) (n : Nat) : List PyData := (List.range n).map fun (i : Nat) => .int (lo + i)
theorem itr_ok {lo : Int} {n : Nat} : ItOk K Fz H (Itr lo n) (rngL lo n) := fun Fz' H' l => by
  have hn : (rngL lo n).length = n := by simp [rngL]
  refine ⟨fun i hi => by rw [hn] at hi; exact hi, by rw [hn]; exact Nat.le_refl _, fun i x v H'' hx hy => ?_⟩
  obtain ⟨e, hv⟩ := hy
  subst e hv
  unfold rngL at hx
  rw [List.getElem?_map] at hx
  cases z : (List.range n)[i]? with
  | none => rw [z] at hx; cases hx
  | some j =>
    rw [z] at hx
    have : j = i := by
      obtain ⟨h1, h2⟩ := List.getElem?_eq_some_iff.mp z
      rw [← h2]; simp
    subst this
    cases hx
    exact ⟨.inl rfl, .int _⟩
/-- small bounds; not for the kernel to reckon -/
theorem ex_rngOk : ∃ f : Int → Int → Bool, ∀ i j, f i j = true ↔ (-(2 ^ 62) ≤ i ∧ i < 2 ^ 62 ∧ -(2 ^ 62) ≤ j ∧ j < 2 ^ 62 ∧ j - i ≤ 16777216) := ⟨fun i j => decide (-(2 ^ 62) ≤ i ∧ i < 2 ^ 62 ∧ -(2 ^ 62) ≤ j ∧ j < 2 ^ 62 ∧ j - i ≤ 16777216), fun i j => by rw [decide_eq_true_eq]⟩
noncomputable def rngOk : Int → Int → Bool := Classical.choose ex_rngOk
theorem rngOk_iff {i j : Int} : rngOk i j = true ↔ (-(2 ^ 62) ≤ i ∧ i < 2 ^ 62 ∧ -(2 ^ 62) ≤ j ∧ j < 2 ^ 62 ∧ j - i ≤ 16777216) := Classical.choose_spec ex_rngOk i j
noncomputable def rng1 : List PyData → Rz (List PyData)
  | [.int j] => if rngOk 0 j then .ok (rngL 0 j.toNat) else .st
  | _ => .st
noncomputable def rng2 : List PyData → Rz (List PyData)
  | [.int i, .int j] => if rngOk i j then .ok (rngL i (j - i).toNat) else .st
  | _ => .st
/-- tAv's end -/
theorem tAv_to {es : List (Ms → Rz PyData)} {g : List PyData → Rz (List PyData)} {σ : L2.St} {H : Hp} {R : It → Hp → Prop} {Q : List V → Hp → Prop} (w : tI X.K ct Wx (fun m => (evalAllD es m).bind g) σ H R)
    (hk : ∀ B Fz m x xs v H', Rs X.K B Fz H' σ m → g x = .ok xs → RpAll X.K Fz H' v x → (∀ J, ItOk X.K Fz H' J xs → xs.length ≤ sizeLine → R J H') → Q v H') (hg : ∀ x c, g x ≠ .ex c) : tAv X.K ct Wx es σ H Q := by
  obtain ⟨B, Fz, m, r, q⟩ := w
  refine ⟨B, Fz, m, r, ?_⟩
  dsimp only at q
  cases hf : evalAllD es m with
  | st => rw [hf] at q; exact q
  | ex c => rw [hf] at q; exact q
  | ok x =>
    rw [hf] at q
    have q : match g x with
      | .st => False
      | .ok xs => ∀ J H' Fz', Ext B Fz Fz' → Rs X.K B Fz' H' σ m → ItOk X.K Fz' H' J xs → xs.length ≤ sizeLine → R J H'
      | .ex c => ∀ H' Fz', Ext B Fz Fz' → Rs X.K B Fz' H' σ m → Wx (ct c) Option.none σ H' := q
    intro v H' F' x' r' rv
    cases hx : g x with
    | st => rw [hx] at q; exact q.elim
    | ex c => exact absurd hx (hg x c)
    | ok xs =>
      rw [hx] at q
      exact hk B F' m x xs v H' r' hx rv fun J o l => q J H' F' x' r' o l
def iArg (g : List PyData → Rz (List PyData)) (es : List (Ms → Rz PyData)) : Ms → Rz (List PyData) := fun m => (evalAllD es m).bind g
theorem RpAll.one {v : List V} {x : PyData} (r : RpAll K Fz H v [x]) : ∃ u, v = [u] ∧ Rp K Fz H u x := by
  cases r with | cons r z => cases z; exact ⟨_, rfl, r⟩
theorem RpAll.two {v : List V} {x y : PyData} (r : RpAll K Fz H v [x, y]) : ∃ u w, v = [u, w] ∧ Rp K Fz H u x ∧ Rp K Fz H w y := by
  cases r with | cons r z => cases z with | cons r' z => cases z; exact ⟨_, _, rfl, r, r'⟩
theorem rng1_ok {x : List PyData} {xs : List PyData} (h : rng1 x = .ok xs) : ∃ j, x = [.int j] ∧ rngOk 0 j = true ∧ xs = rngL 0 j.toNat := by
  unfold rng1 at h
  split at h
  · split at h
    · cases h; exact ⟨_, rfl, by assumption, rfl⟩
    · cases h
  · cases h
theorem rng2_ok {x : List PyData} {xs : List PyData} (h : rng2 x = .ok xs) : ∃ i j, x = [.int i, .int j] ∧ rngOk i j = true ∧ xs = rngL i (j - i).toNat := by
  unfold rng2 at h
  split at h
  · split at h
    · cases h; exact ⟨_, _, rfl, by assumption, rfl⟩
    · cases h
  · cases h
theorem rng1_ex {x : List PyData} {c : Nat} : rng1 x ≠ .ex c := by
  unfold rng1
  split
  · split <;> simp
  · simp
theorem rng2_ex {x : List PyData} {c : Nat} : rng2 x ≠ .ex c := by
  unfold rng2
  split
  · split <;> simp
  · simp
theorem rngL_len {lo : Int} {n : Nat} : (rngL lo n).length = n := by simp [rngL]
theorem di_range1 {f : Ms → Rz PyData} (ha : DA X ct Wx [a] [f]) (hm : X.mg "range" = none) (hg : Gl X "range" := by rfl) (hs : starEach [a] X.env = [(false, eval a X.env)] := by rfl) : DI X ct Wx tg (.Call (.Name "range" p) [a] [] pos) (iArg rng1 [f]) :=
  ⟨PI_imp (pi_range1 hg hm ha.pa hs) fun σ H R w => tAv_to (g := rng1) w (fun B Fz m x xs v H' r hx rv hk => by
    obtain ⟨j, rfl, ok, rfl⟩ := rng1_ok hx
    obtain ⟨u, rfl, ru⟩ := rv.one
    cases ru
    rw [rngOk_iff] at ok
    exact ⟨j, rfl, ok.2.2.1, ok.2.2.2.1, hk _ itr_ok (by rw [rngL_len, sizeLine_eq]; have := ok.2.2.2.2; omega)⟩) fun _ _ => rng1_ex⟩
theorem di_range2 {f g : Ms → Rz PyData} (ha : DA X ct Wx [a, b] [f, g]) (hm : X.mg "range" = none) (hg : Gl X "range" := by rfl) (hs : starEach [a, b] X.env = [(false, eval a X.env), (false, eval b X.env)] := by rfl) (hs2 : starEach [b] X.env = [(false, eval b X.env)] := by rfl) :
    DI X ct Wx tg (.Call (.Name "range" p) [a, b] [] pos) (iArg rng2 [f, g]) :=
  ⟨PI_imp (pi_range2 hg hm ha.pa hs hs2) fun σ H R w => tAv_to (g := rng2) w (fun B Fz m x xs v H' r hx rv hk => by
    obtain ⟨i, j, rfl, ok, rfl⟩ := rng2_ok hx
    obtain ⟨u, u2, rfl, ru, ru2⟩ := rv.two
    cases ru
    cases ru2
    rw [rngOk_iff] at ok
    exact ⟨i, j, rfl, ⟨ok.1, ok.2.1, ok.2.2.1, ok.2.2.2.1⟩, hk _ itr_ok (by rw [rngL_len, sizeLine_eq]; have := ok.2.2.2.2; omega)⟩) fun _ _ => rng2_ex⟩
end
end Dl
set_option Elab.async false
set_option linter.all false
set_option maxRecDepth 100000
/-! D8: writing in place; for, while, comprehensions. -/
namespace Dl
open PySem PySem.Spec PyProof.Rows L2
section
variable {K : PySem.W.Frag} {B : Hp} {Fz : Addr → Prop} {H : Hp} {σ τ : L2.St} {m n : Ms} {ct : CT} {Wx : WX}
theorem le_own {a : Addr} {vs us : List V} (ha : H a = some (.lst vs)) (nf : ¬ Fz a) : Le Fz H Fz (upd H a (.lst us)) := ⟨fun _ h => h, fun b o q k => by
  have : b ≠ a := fun e => by
    subst e
    rw [ha] at q; cases q
    exact k.elim nf id
  rw [upd_ne this]; exact q⟩
theorem RL.write : ∀ {σ : L2.St} {m : Ms} {fp : List Addr} (i : Nat) {xs : List PyData}, RL K Fz H σ m fp → fp.Nodup → (∀ a ∈ fp, ¬ Fz a) → m[i]? = some (some (.l xs)) → ∃ a vs, σ[i]? = some (some (.ref a)) ∧ H a = some (.lst vs) ∧ RpAll K Fz H vs xs ∧ a ∈ fp ∧
    ∀ (us : List V) (ys : List PyData), RpAll K Fz H us ys → RL K Fz (upd H a (.lst us)) σ (m.set i (some (.l ys))) fp
  | _, _, _, _, _, .nil, _, _, e => by simp at e
  | _, _, _, 0, _, .no _, _, _, e => by simp at e
  | _, _, _, i + 1, _, .no r, nd, nf, e => by
    obtain ⟨a, vs, h1, h2, h3, h4, h5⟩ := RL.write i r nd nf (by simpa using e)
    exact ⟨a, vs, by simpa using h1, h2, h3, h4, fun us ys r => .no (h5 us ys r)⟩
  | _, _, _, 0, _, .so (fp := fp) q r, nd, nf, e => by
    have e' := Option.some.inj (Option.some.inj e)
    subst e'
    cases q with
    | @l p vs _ e r' =>
      rw [List.singleton_append, List.nodup_cons] at nd
      refine ⟨p, vs, rfl, e, r', by simp, fun us ys ry => ?_⟩
      have l := le_own (us := us) e (nf p (by simp))
      exact .so (.l upd_same (ry.mono l)) (r.mono l fun b hb o q => by rw [upd_ne (fun z => nd.1 (by rw [← z]; exact hb))]; exact q)
  | _, _, _, i + 1, _, .so (f := f) q r, nd, nf, e => by
    rw [List.nodup_append] at nd
    obtain ⟨a, vs, h1, h2, h3, h4, h5⟩ := RL.write i r nd.2.1 (fun a ha => nf a (List.mem_append_right _ ha)) (by simpa using e)
    have l := fun us => le_own (us := us) h2 (nf a (List.mem_append_right _ h4))
    exact ⟨a, vs, by simpa using h1, h2, h3, List.mem_append_right _ h4, fun us ys ry => .so (q.mono (l us) fun b hb o q => by rw [upd_ne (fun z => nd.2.2 b hb a h4 z)]; exact q) (h5 us ys ry)⟩
/-- an own list is written -/
theorem Rs.write (i : Nat) {xs : List PyData} (h : Rs K B Fz H σ m) (e : m[i]? = some (some (.l xs))) : ∃ a vs, σ[i]? = some (some (.ref a)) ∧ H a = some (.lst vs) ∧ RpAll K Fz H vs xs ∧
    ∀ (us : List V) (ys : List PyData), RpAll K Fz H us ys → Rs K B Fz (upd H a (.lst us)) σ (m.set i (some (.l ys))) := by
  obtain ⟨fp, r⟩ := h
  obtain ⟨a, vs, h1, h2, h3, h4, h5⟩ := r.rl.write i r.nd (fun a ha => (r.own a ha).2) e
  refine ⟨a, vs, h1, h2, h3, fun us ys ry => ⟨fp, h5 us ys ry, r.nd, r.own, fun b o q => ?_, fun b hb => ?_⟩⟩
  · have : b ≠ a := fun z => by
      subst z
      rw [(r.own b h4).1] at q; cases q
    rw [upd_ne this]; exact r.base b o q
  · by_cases z : b = a
    · subst z; rw [upd_same]; simp
    · rw [upd_ne z]; exact r.fz b hb
/-! ### for -/
def goFor (s : PyData → Ms → Option Ms) (b : Ms → Fl) : List PyData → Ms → Fl
  | [], m => .nx m
  | x :: r, m => match s x m with
    | none => .st
    | some m1 => match b m1 with
      | .nx m2 => goFor s b r m2
      | .ct m2 => goFor s b r m2
      | .bk m2 => .nx m2
      | o => o
def flI {α : Type} (f : Ms → Rz α) (k : α → Ms → Fl) : Ms → Fl := flE f k
def sFor (f : Ms → Rz (List PyData)) (s : PyData → Ms → Option Ms) (b : Ms → Fl) : Ms → Fl := flE f fun xs m => goFor s b xs m
theorem yld_st {H' : Hp} (h : Rs K B Fz H σ m) (hh : H' = H ∨ ∃ (p : Addr) (ts : List V), H p = none ∧ H' = upd H p (.tup ts)) : Rs K B Fz H' σ m := by
  rcases hh with e | ⟨p, ts, hp, e⟩
  · rw [e]; exact h
  · rw [e]; exact h.new hp
end
section
variable {X : Cx} {ct : CT} {Wx : WX} {tg iter : Expr} {pos : Pos} {body : List Stmt}
theorem ds_for {f : Ms → Rz (List PyData)} {vs : List Nat} {s : PyData → Ms → Option Ms} {b : Ms → Fl} (hp : PassesOwn (model X.prog X.w) X.A X.env X.xe) (hi : DI X ct Wx tg iter f) (hg : DG X tg vs s) (hb : DSs X ct Wx body b) (hc : X.calm = true := by rfl)
    (hs : ∀ x, foldedSetIterable iter X.env x = pure x := by intro _; rfl) : DS X ct Wx (.For tg iter body [] pos) (sFor f s b) :=
  ds_of (ps_for hp hc hi.pi hg.pg hb.ps hs) fun D σ H B Fz m h q => by
    refine ⟨B, Fz, m, h, ?_⟩
    unfold sFor flE at q
    cases hf : f m with
    | st => rw [hf] at q; exact q
    | ex c => rw [hf] at q; exact fun H' F' x r => q σ H' F' x r
    | ok xs =>
      rw [hf] at q
      have q : EndS X.K ct Wx B Fz D (goFor s b xs m) := q
      intro J H1 F1 x1 r1 io ln
      obtain ⟨B3, h3, e3, up3⟩ := r1.stepG
      have q1 := (q.ext x1).up e3 up3
      refine ⟨fun i k σ H => k = xs.length - i ∧ i ≤ xs.length ∧ ∃ Fz m, Rs X.K B3 Fz H σ m ∧ Ext B3 F1 Fz ∧ EndS X.K ct Wx B3 Fz D (goFor s b (xs.drop i) m), ⟨_, rfl, Nat.zero_le _, F1, m, h3, .refl, q1⟩, ?_⟩
      rintro i k σ H ⟨rfl, hi, Fz, m, r, x, q⟩
      have l := (up3 x r).2
      obtain ⟨go, stop, yl⟩ := io Fz H l
      by_cases hlt : i < xs.length
      · refine .inr ⟨go i hlt, fun σ' H' => ∃ Fz m, Rs X.K B3 Fz H' σ' m ∧ Ext B3 F1 Fz ∧ EndS X.K ct Wx B3 Fz D (goFor s b (xs.drop (i + 1)) m), fun σ' H' z => ⟨xs.length - (i + 1), by omega, rfl, hlt, z⟩, fun v H' y => ?_⟩
        obtain ⟨hh, rv⟩ := yl i _ v H' (List.getElem?_eq_getElem hlt) y
        have r' := yld_st r hh
        rw [List.drop_eq_getElem_cons hlt] at q
        unfold goFor at q
        refine ⟨B3, Fz, m, _, r', rv, ?_⟩
        cases hs : s xs[i] m with
        | none => rw [hs] at q; exact q
        | some m1 =>
          rw [hs] at q
          intro σ2 r2 _ _
          refine tS_iff.mpr ⟨B3, Fz, m1, r2, ?_⟩
          dsimp only at q
          cases hb : b m1 with
          | st => rw [hb] at q; exact q
          | nx m2 => rw [hb] at q; exact fun σ3 H3 F3 x3 r3 => ⟨F3, m2, r3, x.trans x3, q.ext x3⟩
          | ct m2 => rw [hb] at q; exact fun σ3 H3 F3 x3 r3 => ⟨F3, m2, r3, x.trans x3, q.ext x3⟩
          | bk m2 => rw [hb] at q; exact q
          | rt x => rw [hb] at q; exact q
          | ex c m2 => rw [hb] at q; exact q
      · have e : i = xs.length := by omega
        subst e
        rw [List.drop_length] at q
        exact .inl ⟨stop, q σ H Fz .refl r⟩
/-! ### while -/
def goWhile (t : Ms → Rz Bool) (b : Ms → Fl) : Nat → Ms → Fl
  | 0, _ => .st
  | n + 1, m => match t m with
    | .st => .st
    | .ex c => .ex c m
    | .ok false => .nx m
    | .ok true => match b m with
      | .nx m2 => goWhile t b n m2
      | .ct m2 => goWhile t b n m2
      | .bk m2 => .nx m2
      | o => o
theorem ds_while {t : Ms → Rz Bool} {c : Expr} {b : Ms → Fl} (k : Nat) (hp : PassesOwn (model X.prog X.w) X.A X.env X.xe) (ht : DT X ct Wx c t) (hb : DSs X ct Wx body b) : DS X ct Wx (.While c body [] pos) (goWhile t b k) :=
  ds_of (ps_while hp ht.pt hb.ps) fun D σ H B Fz m h q => by
    refine ⟨fun k σ H => ∃ Fz m, Rs X.K B Fz H σ m ∧ EndS X.K ct Wx B Fz D (goWhile t b k m), ⟨k, Fz, m, h, q⟩, ?_⟩
    rintro k σ H ⟨Fz, m, r, q⟩
    refine ⟨B, Fz, m, r, ?_⟩
    cases k with
    | zero => exact q.elim
    | succ n =>
      unfold goWhile at q
      cases ht : t m with
      | st => rw [ht] at q; exact q
      | ex c => rw [ht] at q; exact fun H' F' x r => q σ H' F' x r
      | ok w =>
        rw [ht] at q
        intro H1 F1 x1 r1
        cases w with
        | false => rw [if_neg Bool.false_ne_true]; exact q σ H1 F1 x1 r1
        | true =>
          rw [if_pos rfl]
          refine ⟨fun σ H => ∃ Fz m, Rs X.K B Fz H σ m ∧ EndS X.K ct Wx B Fz D (goWhile t b n m), fun σ' H' z => ⟨n, Nat.lt_succ_self _, z⟩, tS_iff.mpr ⟨B, F1, m, r1, ?_⟩⟩
          dsimp only at q
          cases hb : b m with
          | st => rw [hb] at q; exact q
          | nx m2 => rw [hb] at q; exact fun σ3 H3 F3 x3 r3 => ⟨F3, m2, r3, (q.ext x1).ext x3⟩
          | ct m2 => rw [hb] at q; exact fun σ3 H3 F3 x3 r3 => ⟨F3, m2, r3, (q.ext x1).ext x3⟩
          | bk m2 => rw [hb] at q; exact q.ext x1
          | rt x => rw [hb] at q; exact q.ext x1
          | ex c m2 => rw [hb] at q; exact q.ext x1
/-! ### comprehensions -/
theorem wipe_get {σ : L2.St} {j : Nat} : ∀ {vs : List Nat}, (wipe σ vs)[j]? = if j ∈ vs then (if j < σ.length then some none else none) else σ[j]?
  | [] => by simp [wipe]
  | v :: vs => by
    unfold wipe
    rw [List.getElem?_set, wipe_get (vs := vs), wipe_length]
    by_cases e : v = j
    · subst e; simp
    · rw [if_neg e]
      have : (j ∈ v :: vs) ↔ j ∈ vs := by simp [Ne.symm e]
      simp only [this]
theorem wipe_eq {σ ρ : L2.St} {vs : List Nat} (hl : ρ.length = (wipe σ vs).length) (h : ∀ j, j ∉ vs → ρ[j]? = (wipe σ vs)[j]?) : wipe ρ vs = wipe σ vs := by
  rw [wipe_length] at hl
  apply List.ext_getElem?
  intro j
  rw [wipe_get, wipe_get]
  by_cases e : j ∈ vs
  · rw [if_pos e, if_pos e, hl]
  · rw [if_neg e, if_neg e, h j e, wipe_get, if_neg e]
def wipeM (m : Ms) : List Nat → Ms
  | [] => m
  | v :: vs => (wipeM m vs).set v none
theorem wipeM_length {m : Ms} : ∀ {vs : List Nat}, (wipeM m vs).length = m.length
  | [] => rfl
  | v :: vs => by unfold wipeM; rw [List.length_set, wipeM_length]
theorem wipeM_get {m : Ms} {j : Nat} : ∀ {vs : List Nat}, (wipeM m vs)[j]? = if j ∈ vs then (if j < m.length then some none else none) else m[j]?
  | [] => by simp [wipeM]
  | v :: vs => by
    unfold wipeM
    rw [List.getElem?_set, wipeM_get (vs := vs), wipeM_length]
    by_cases e : v = j
    · subst e; simp
    · rw [if_neg e]
      have : (j ∈ v :: vs) ↔ j ∈ vs := by simp [Ne.symm e]
      simp only [this]
theorem Rs.clears {K : PySem.W.Frag} {B : Hp} {Fz : Addr → Prop} {H : Hp} {σ : L2.St} {m : Ms} {x : Option V} {y : Option W} (h : Rs K B Fz H (x :: σ) (y :: m)) : ∀ vs : List Nat, Rs K B Fz H (x :: wipe σ vs) (y :: wipeM m vs)
  | [] => h
  | v :: vs => (Rs.clears h vs).clear (v + 1)
/-- nothing, or data -/
def isNo : Option (Option W) → Bool
  | some none => true
  | some (some (.d _)) => true
  | _ => false
def wipeOk (vs : List Nat) (m : Ms) : Bool := vs.all fun i => isNo m[i]?
theorem wipeOk_get {vs : List Nat} {m : Ms} (h : wipeOk vs m = true) {j : Nat} (hj : j ∈ vs) : m[j]? = some none ∨ ∃ x, m[j]? = some (some (.d x)) := by
  have q := List.all_eq_true.mp h j hj
  unfold isNo at q
  split at q
  · rename_i e; exact .inl e
  · rename_i x e; exact .inr ⟨x, e⟩
  · cases q
/-- data that were put aside are there again -/
theorem RL.merge {K : PySem.W.Frag} {F1 Fz : Addr → Prop} {H1 H : Hp} (l : Le F1 H1 Fz H) : ∀ {σ : L2.St} {m : Ms} {fp : List Addr} {ρ : L2.St} {r : Ms} {fr : List Addr}, RL K F1 H1 σ m fp → RL K Fz H ρ r fr → r.length = m.length →
    (∀ j : Nat, (r[j]? = m[j]? ∧ ρ[j]? = σ[j]?) ∨ (r[j]? = some none ∧ (m[j]? = some none ∨ ∃ x, m[j]? = some (some (.d x))))) → RL K Fz H σ m fr
  | _, _, _, _, _, _, .nil, b, hl, _ => by
    cases b with
    | nil => exact .nil
    | no _ => simp at hl
    | so _ _ => simp at hl
  | _, _, _, _, _, _, .no a, b, hl, hj => by
    cases b with
    | nil => simp at hl
    | no b => exact .no (RL.merge l a b (by simpa using hl) fun j => by simpa using hj (j + 1))
    | so q b =>
      rcases hj 0 with ⟨e, _⟩ | ⟨e, _⟩ <;> simp at e
  | _, _, _, _, _, _, .so q a, b, hl, hj => by
    cases b with
    | nil => simp at hl
    | no b =>
      rcases hj 0 with ⟨e, _⟩ | ⟨_, e | ⟨x, e⟩⟩
      · simp at e
      · simp at e
      · simp at e
        subst e
        cases q with
        | d q => exact .so (f := []) (.d (q.mono l)) (RL.merge l a b (by simpa using hl) fun j => by simpa using hj (j + 1))
    | so q' b =>
      rcases hj 0 with ⟨e, e2⟩ | ⟨e, _⟩
      · simp at e e2
        subst e e2
        exact .so q' (RL.merge l a b (by simpa using hl) fun j => by simpa using hj (j + 1))
      · simp at e
def goLc (s : PyData → Ms → Option Ms) (t : Ms → Rz Bool) (e : Ms → Rz PyData) (m : Ms) : List PyData → Rz (List PyData)
  | [] => .ok []
  | x :: r => match s x m with
    | none => .st
    | some m1 => match t m1 with
      | .ok true => match e m1 with
        | .ok y => (goLc s t e m r).map (y :: ·)
        | _ => .st
      | .ok false => goLc s t e m r
      | _ => .st
def eLc (vs : List Nat) (f : Ms → Rz (List PyData)) (s : PyData → Ms → Option Ms) (t : Ms → Rz Bool) (e : Ms → Rz PyData) : Ms → Rz W := fun m => if wipeOk vs m = true then (f m).bind fun xs => (goLc s t e (wipeM m vs) xs).map .l else .st
theorem lc_sound {K : PySem.W.Frag} {Wy : WX} {vs : List Nat} {f : Ms → Rz (List PyData)} {s : PyData → Ms → Option Ms} {t : Ms → Rz Bool} {e : Ms → Rz PyData} (off : OffM vs s) {σ : L2.St} {H : Hp} {Q : VK} (w : tE K ct Wx (eLc vs f s t e) σ H Q) :
    tLc (tI K ct Wx f) (gD K vs s) (tT K ct Wy t) (tV K ct Wy e) vs σ H Q := by
  obtain ⟨B, Fz, m, r, q⟩ := w
  refine ⟨B, Fz, m, r, ?_⟩
  unfold eLc at q
  by_cases hw : wipeOk vs m = true
  · rw [if_pos hw] at q
    have no : ∀ {j}, j ∈ vs → (wipeM m vs)[j]? = some none := fun {j} hj => by
      have : j < m.length := by
        rcases wipeOk_get hw hj with e | ⟨x, e⟩ <;> exact (List.getElem?_eq_some_iff.mp e).1
      rw [wipeM_get, if_pos hj, if_pos this]
    cases hf : f m with
    | st => rw [hf] at q; exact q
    | ex c => rw [hf] at q; exact q
    | ok xs =>
      rw [hf, Rz.bind_ok] at q
      intro J H1 F1 x1 r1 io ln D hD
      cases hz : goLc s t e (wipeM m vs) xs with
      | st => rw [hz] at q; exact q.elim
      | ex c =>
        have noex : ∀ xs, goLc s t e (wipeM m vs) xs ≠ .ex c := fun xs => by
          induction xs with
          | nil => simp [goLc]
          | cons x r ih =>
            unfold goLc
            split
            · simp
            · split
              · split
                · intro z
                  cases hr : goLc s t e (wipeM m vs) r with
                  | st => rw [hr] at z; cases z
                  | ex c' => rw [hr] at z; cases z; exact ih hr
                  | ok _ => rw [hr] at z; cases z
                · simp
              · exact ih
              · simp
        exact absurd hz (noex xs)
      | ok zs =>
        rw [hz] at q
        obtain ⟨B2, h2, e2, up2⟩ := r1.stepG
        have hσ : Rs K B2 F1 H1 (wipe σ vs) (wipeM m vs) := by
          have := Rs.clears (x := some .non) (y := some (.d .none)) (h2.push .non) vs
          exact this.pop
        have rD := hσ.newLst hD .nil
        refine ⟨fun i k H => k = xs.length - i ∧ i ≤ xs.length ∧ ∃ Fz acc ys, Rs K B2 Fz H (some (.ref D) :: wipe σ vs) (some (.l acc) :: wipeM m vs) ∧ Ext B2 F1 Fz ∧ acc.length ≤ i ∧ goLc s t e (wipeM m vs) (xs.drop i) = .ok ys ∧ acc ++ ys = zs, ⟨_, rfl, Nat.zero_le _, F1, [], zs, rD, .refl, Nat.le_refl _, hz, rfl⟩, ?_⟩
        rintro i k H ⟨rfl, hi, Fz, acc, ys, rr, x, ha, hy, hyz⟩
        have l := (up2 x rr).2
        obtain ⟨go, stop, yl⟩ := io Fz H l
        by_cases hlt : i < xs.length
        · refine .inr ⟨go i hlt, fun H' => ∃ Fz acc ys, Rs K B2 Fz H' (some (.ref D) :: wipe σ vs) (some (.l acc) :: wipeM m vs) ∧ Ext B2 F1 Fz ∧ acc.length ≤ i + 1 ∧ goLc s t e (wipeM m vs) (xs.drop (i + 1)) = .ok ys ∧ acc ++ ys = zs, fun H' z => ⟨xs.length - (i + 1), by omega, rfl, hlt, z⟩, fun v H' y => ?_⟩
          obtain ⟨hh, rv⟩ := yl i _ v H' (List.getElem?_eq_getElem hlt) y
          have r' := yld_st rr hh
          obtain ⟨B3, h3, e3, up3⟩ := Rs.holdG (τ := [some (.ref D)]) (n := [some (.l acc)]) r' rfl
          rw [List.drop_eq_getElem_cons hlt] at hy
          unfold goLc at hy
          refine ⟨B3, Fz, wipeM m vs, _, h3, rv, ?_⟩
          cases hs : s xs[i] (wipeM m vs) with
          | none => rw [hs] at hy; cases hy
          | some m1 =>
            rw [hs] at hy
            intro σ2 r2 l2 o2
            dsimp only at hy
            have we := wipe_eq l2 o2
            refine ⟨we, B3, Fz, m1, r2, ?_⟩
            have wm : wipeM m1 vs = wipeM m vs := by
              obtain ⟨o1, o2⟩ := off _ _ _ hs
              apply List.ext_getElem?
              intro j
              rw [wipeM_get (m := m1)]
              by_cases z : j ∈ vs
              · rw [if_pos z, no z]
                have : j < m1.length := by rw [o1]; exact (List.getElem?_eq_some_iff.mp (no z)).1
                rw [if_pos this]
              · rw [if_neg z, o2 j z]
            cases ht : t m1 with
            | st => rw [ht] at hy; cases hy
            | ex c => rw [ht] at hy; cases hy
            | ok b =>
              rw [ht] at hy
              intro H3 F3 x3 r3
              cases b with
              | false =>
                rw [if_neg Bool.false_ne_true]
                dsimp only at hy
                have g := Rs.clears (x := some (.ref D)) (y := some (.l acc)) (σ := σ2) (m := m1) (up3 x3 r3).1 vs
                rw [we, wm] at g
                exact ⟨F3, acc, ys, g, x.trans (e3 _ _ x3), Nat.le_succ_of_le ha, hy, hyz⟩
              | true =>
                rw [if_pos rfl]
                dsimp only at hy
                refine ⟨B3, F3, m1, r3, ?_⟩
                cases he : e m1 with
                | st => rw [he] at hy; cases hy
                | ex c => rw [he] at hy; cases hy
                | ok z =>
                  rw [he] at hy
                  dsimp only at hy
                  intro u H4 F4 x4 ⟨r4, p4⟩
                  have g := Rs.clears (x := some (.ref D)) (y := some (.l acc)) (σ := σ2) (m := m1) (up3 (x3.trans x4) r4).1 vs
                  rw [we, wm] at g
                  obtain ⟨a, avs, g1, g2, g3, g4⟩ := g.write 0 rfl
                  have ea : a = D := by simpa using g1.symm
                  subst ea
                  cases hr : goLc s t e (wipeM m vs) (xs.drop (i + 1)) with
                  | st => rw [hr] at hy; cases hy
                  | ex c => rw [hr] at hy; cases hy
                  | ok y2 =>
                    rw [hr] at hy
                    cases hy
                    refine ⟨avs, g2, by rw [g3.length]; omega, F4, acc ++ [z], y2, g4 _ _ (g3.append (.cons p4 .nil)), x.trans (e3 _ _ (x3.trans x4)), by simp; omega, rfl, by rw [List.append_assoc]; exact hyz⟩
        · have e' : i = xs.length := by omega
          subst e'
          rw [List.drop_length] at hy
          cases hy
          rw [List.append_nil] at hyz
          subst hyz
          refine .inl ⟨stop, q _ H Fz (x1.trans (e2 _ _ x)) ?_⟩
          obtain ⟨fpr, rlr, nd, own, base, fz⟩ := (up2 x rr).1
          obtain ⟨fp1, s1⟩ := r1
          cases rlr with
          | @so _ _ f _ _ fp q rl =>
            refine ⟨_, .so q (RL.merge l s1.rl rl wipeM_length fun j => ?_), nd, own, base, fz⟩
            by_cases z : j ∈ vs
            · exact .inr ⟨no z, wipeOk_get hw z⟩
            · exact .inl ⟨by rw [wipeM_get, if_neg z], by rw [wipe_get, if_neg z]⟩
  · rw [if_neg hw] at q
    exact q.elim
/-- a comprehension's tests -/
structure DTs (X : Cx) (ct : CT) (Wx : WX) (ifs : List Expr) (t : Ms → Rz Bool) : Prop where
  pt : PTs X ifs (tT X.K ct Wx t)
theorem dts_nil : DTs X ct Wx [] (fun _ => .ok true) := ⟨⟨fun pins s σ H Q I ⟨B, Fz, m, r, q⟩ => pts_nil.run pins s σ H Q I (q H Fz .refl r)⟩⟩
theorem dts_one {c : Expr} {t : Ms → Rz Bool} (h : DT X ct Wx c t) : DTs X ct Wx [c] t := ⟨pts_one h.pt⟩
abbrev W0 : WX := fun _ _ _ _ => False
theorem de_lc {elt : Expr} {ifs : List Expr} {scope : Scope} {own : List (Str × Nat)} {f : Ms → Rz (List PyData)} {s : PyData → Ms → Option Ms} {t : Ms → Rz Bool} {e : Ms → Rz PyData} (hN : X.N.Nodup) (hi : DI X ct Wx tg iter f) (ok : BlkOk X.N X.env.scope scope own)
    (hg : ∀ (s' : Shared) (H : Hp) (C : Addr) (cl : List (Str × Addr)) (fp : List Addr), DG (X.blk s' H scope (compEnvC scope cl C X.env) fp) tg (own.map (·.2)) s)
    (ht : ∀ (s' : Shared) (H : Hp) (C : Addr) (cl : List (Str × Addr)) (fp : List Addr), DTs (X.blk s' H scope (compEnvC scope cl C X.env) fp) ct W0 ifs t)
    (he : ∀ (s' : Shared) (H : Hp) (C : Addr) (cl : List (Str × Addr)) (fp : List Addr), DV (X.blk s' H scope (compEnvC scope cl C X.env) fp) ct W0 elt e) (hc : X.calm = true := by rfl) (hs : ∀ x, foldedSetIterable iter X.env x = pure x := by intro _; rfl) :
    DE X ct Wx (.ListComp elt [⟨tg, iter, ifs, 0⟩] scope pos) (eLc (own.map (·.2)) f s t e) :=
  ⟨⟨fun pins s0 σ H Q I w => (pe_lc hc hN hi.pi ok (fun s' H C cl fp => (hg s' H C cl fp).pg) (fun s' H C cl fp => (ht s' H C cl fp).pt) (fun s' H C cl fp => (he s' H C cl fp).pe) hs).run pins s0 σ H Q I (lc_sound ((hg s0 H 0 [] []).off) w)⟩⟩
/-- name = [..] on one line -/
theorem ds_lc {elt : Expr} {ifs : List Expr} {scope : Scope} {own : List (Str × Nat)} {f : Ms → Rz (List PyData)} {s : PyData → Ms → Option Ms} {t : Ms → Rz Bool} {e : Ms → Rz PyData} {y : Str} {py spos : Pos} (i : Nat) (hN : X.N.Nodup) (hi : DI X ct Wx tg iter f) (ok : BlkOk X.N X.env.scope scope own)
    (hg : ∀ (s' : Shared) (H : Hp) (C : Addr) (cl : List (Str × Addr)) (fp : List Addr), DG (X.blk s' H scope (compEnvC scope cl C X.env) fp) tg (own.map (·.2)) s)
    (ht : ∀ (s' : Shared) (H : Hp) (C : Addr) (cl : List (Str × Addr)) (fp : List Addr), DTs (X.blk s' H scope (compEnvC scope cl C X.env) fp) ct W0 ifs t)
    (he : ∀ (s' : Shared) (H : Hp) (C : Addr) (cl : List (Str × Addr)) (fp : List Addr), DV (X.blk s' H scope (compEnvC scope cl C X.env) fp) ct W0 elt e)
    (hk : X.env.scope.kind = .function := by rfl) (hl : (py.line == pos.line) = true := by rfl) (ha : (scope.names.any fun (n, k) => n == y && (k == .local || k == .cell)) = false := by rfl)
    (hy : X.N[i]? = some y := by rfl) (hyl : X.env.scope.names.lookup y = some .local := by rfl) (hc : X.calm = true := by rfl) (hs : ∀ x, foldedSetIterable iter X.env x = pure x := by intro _; rfl)
    (hsp : spos.line = pos.line := by rfl) :
    DS X ct Wx (.Assign [.Name y py] (.ListComp elt [⟨tg, iter, ifs, 0⟩] scope pos) spos) (sSet i (eLc (own.map (·.2)) f s t e)) :=
  ⟨⟨fun pins s0 σ0 H0 D0 I0 w0 => (ds_setc i (ps_setLc hc hN hy hyl (by rw [hsp]; exact sw_true hk hyl hl ha) hi.pi ok (fun s' H C cl fp => (hg s' H C cl fp).pg) (fun s' H C cl fp => (ht s' H C cl fp).pt) (fun s' H C cl fp => (he s' H C cl fp).pe) hs) fun σ H Q w => lc_sound ((hg s0 H 0 [] []).off) w).ps.run pins s0 σ0 H0 D0 I0 w0⟩⟩
end
end Dl
set_option Elab.async false
set_option linter.all false
set_option maxRecDepth 100000
/-! D9: enumerate, zip, ranges with a step. -/
namespace Dl
open PySem PySem.Spec PyProof.Rows L2
set_option maxHeartbeats 1000000 in
theorem meets_enum1 {v : Value} {o : Obj} {H : Heap → Prop} (B : Begins v o H) :
    Meets (Builtin.«enumerate.__new__» ⟨[.type "enumerate", v], []⟩) (fun _ R s => H s.heap ∧
      R (.ok (.ret (.ref (s.heap.push o).objs.size))) { s with heap := (s.heap.push o).push { cls := .type "enumerate", data := .fields #[.none, .bool false, .ref s.heap.objs.size, rawInt 0, .none, .none] } }) :=
  .of_wp fun prog w A R s h => by
    obtain ⟨hp, g, d, tk, os⟩ := s; obtain ⟨h1, h⟩ := h
    have hsub := sub_enumerate
    have q1 : ∀ {A' : Around} {E : Value → Shared → Prop} {Q : Value → Shared → Prop}, Q (.ref hp.objs.size) ⟨hp.push o, g, d, tk, os⟩ → wpAny (model prog w) A' (pyIter v) Q E ⟨hp, g, d, tk, os⟩ :=
      fun q => B.iter prog w _ _ ⟨hp, g, d, tk, os⟩ _ h1 q
    wp_walk using q1
    refine wpAny_stack_any fun st => wpAny_pure ?_
    split
    · rename_i c _ _ _ _ _
      cases (c == Value.type "enumerate")
      · wp_walk using q1
        exact ⟨_, rfl, h⟩
      · wp_walk using q1
        exact ⟨_, rfl, h⟩
    · wp_walk using q1
      exact ⟨_, rfl, h⟩
section
variable {prog : Program} {w : World} {A : Around} {E : Value → Shared → Prop} {s : Shared}
theorem enum_begins1 {v : Value} {o : Obj} {H : Heap → Prop} {Q : Value → Shared → Prop} (B : Begins v o H) (h1 : H s.heap)
    (h : ∀ h', IsEnum h' (s.heap.objs.size + 1) s.heap.objs.size 0 .none → h'.get? s.heap.objs.size = some o → h'.objs.size = s.heap.objs.size + 2 →
      (∀ b o, s.heap.get? b = some o → h'.get? b = some o) → Q (.ref (s.heap.objs.size + 1)) { s with heap := h' }) :
    wpAny (model prog w) A (call (.type "enumerate") [v]) Q E s := by
  refine callType_new F.called_enumerate (by decide) (F.typeCall_enumerate_1 _) (F.newCall_enumerate_1 _) (fun obj => F.args_object_init_2 obj _) F.entry_enumerate_new (meets_enum1 B) ⟨h1, ?_⟩
  have hz : (s.heap.push o).objs.size = s.heap.objs.size + 1 := Heap.size_push ..
  show _ ∧ _
  rw [hz]
  have he : IsEnum ((s.heap.push o).push { cls := .type "enumerate", data := .fields #[.none, .bool false, .ref s.heap.objs.size, rawInt 0, .none, .none] }) (s.heap.objs.size + 1) s.heap.objs.size 0 .none := by
    have := Heap.get?_push_size (s.heap.push o) (o := { cls := .type "enumerate", data := .fields #[.none, .bool false, .ref s.heap.objs.size, rawInt 0, .none, .none] }) rfl
    rw [hz] at this; exact this
  exact ⟨⟨_, he, rfl⟩, h _ he (Heap.get?_push_of_some _ (Heap.get?_push_size _ B.free)) (by rw [Heap.size_push, hz]) fun b o x => Heap.get?_push_of_some _ (Heap.get?_push_of_some _ x)⟩
end
/-- the tuple at a as it stands, each item in a new pair -/
def ItT (K : PySem.W.Frag) (a : Addr) : It :=
  ⟨fun i H => ∃ (xs : List V) (x : V), SqT K H a xs ∧ xs[i]? = some x, fun i H v H' => ∃ T x, v = .ref T ∧ H T = none ∧ H' = upd H T (.tup [.int (i : Nat), x]) ∧ ∀ xs, SqT K H a xs → xs[i]? = some x, fun i H => ∃ xs : List V, SqT K H a xs ∧ xs.length = i⟩
theorem turn_enumT {P : Program} {w : World} {K : PySem.W.Frag} {elts : List Expr} {kk : Nat} {tpos : Pos} (a e it : Addr) :
    Turn P w K (.Tuple elts kk tpos) (ItT K a) [e, it] e (fun i h => (∃ old, IsEnum h e it ((i : Nat) : Int) old) ∧ h.IsTupleIter it a i ∧ e ≠ it) where
  mem := by simp
  obj := fun i h st b hb => by
    obtain ⟨⟨old, he⟩, ⟨o, ho, hc, hd⟩, _⟩ := st
    have e' : b = e ∨ b = it := by simpa using hb
    rcases e' with z | z
    · rw [z]; exact ⟨_, he, fun v q => nomatch q⟩
    · rw [z]; exact ⟨o, ho, fun v q => by rw [hd] at q; cases q⟩
  keep := fun i h h' st k => let ⟨⟨old, he⟩, hi, hne⟩ := st; ⟨⟨old, k e (by simp) _ he⟩, hi.at fun o q => k it (by simp) o q, hne⟩
  item := by
    intro X hP hw hK hc i pins s σ H E I hf st hg
    subst hP hw hK
    obtain ⟨⟨old, he⟩, hit, hne⟩ := st
    obtain ⟨xs, x, hq, hx⟩ := hg
    obtain ⟨its, rv, p, hz⟩ := I.tuple hq
    obtain ⟨u, hu, ru⟩ := rv.get hx
    have p' : s.heap.IsTuple a its.toArray := p
    have hai : a ≠ it := fun z => by
      obtain ⟨o, h1, h2, _⟩ := p'
      obtain ⟨o', h3, h4, _⟩ := hit
      rw [z, h3] at h1; cases h1
      rw [h4] at h2; exact absurd h2 (by decide)
    have hae : e ≠ a := fun z => by
      obtain ⟨o, h1, h2, _⟩ := p'
      have he' : s.heap.get? e = some _ := he
      rw [← z, he'] at h1; cases h1
      exact absurd (show Value.type "enumerate" = Value.type "tuple" from h2) (by decide)
    have D := Draws.tuple (prog := X.prog) (w := X.w) (A := X.A.in1) (I.ok.hd hc) it a hai its.toArray
    have hel : e < s.heap.objs.size := Heap.lt_size he
    have hil : it < s.heap.objs.size := by obtain ⟨_, q, _⟩ := hit; exact Heap.lt_size q
    have hlt : i < its.toArray.size := by
      have := (List.getElem?_eq_some_iff.mp hu).1
      simpa using this
    refine wpAny_pyNext_enum_itemD D he ⟨hit, p'⟩ hlt hne (by simp [hne, hae]) fun x' h' tk hP ho hst' hT hsz hk => ?_
    have ex : x' = u := by
      have hP : its.toArray[i]? = some x' := hP
      have : its[i]? = some x' := by simpa using hP
      rw [hu] at this; cases this; rfl
    subst ex
    obtain ⟨hit', _⟩ := hst'
    refine ⟨_, rfl, wpAny_letOwnedTupleGo_enum (s := { s with heap := h', toks := tk + 1 }) ho fun h'' he' sb => ?_⟩
    have hT2 : h''.get? s.heap.objs.size = some { cls := .type "tuple", data := .seq #[.int i tk, x'] } := (sb.2 _ (Nat.ne_of_gt hel)).trans hT
    have new : ObjOk X.prog X.w (upd H s.heap.objs.size (.tup [.int (i : Nat), x])) h'' s.heap.objs.size (.tup [.int (i : Nat), x]) :=
      ⟨by show 2 ≤ sizeLine; decide, [.int i tk, x'], .cons ⟨_, rfl⟩ (.cons ru .nil), ⟨_, hT2, rfl, _, rfl⟩⟩
    have I1 : Inv X pins σ (upd H s.heap.objs.size (.tup [.int (i : Nat), x])) { s with heap := h'', toks := tk + 1 } :=
      I.turnedNew (ch := [e, it]) (fun b ob hb q => (sb.2 b (fun z => hb (by simp [z]))).trans (hk b ob (fun z => hb (by simp [z])) (fun z => hb (by simp [z])) q)) hf (Nat.le_refl _) new
    refine ⟨.ref s.heap.objs.size, _, I1, rfl, ⟨_, x, rfl, I.hok.fresh (Nat.le_refl _), rfl, fun ys hy => by rw [I.tuple_inj hy hq]; exact hx⟩, ⟨⟨x', ?_⟩, hit'.at fun o q => (sb.2 it (Ne.symm hne)).trans q, hne⟩, fun b hb => ?_⟩
    · have e1 : ((i + 1 : Nat) : Int) = (i : Int) + 1 := by omega
      rw [e1]; exact he'
    · have hb' : b < s.heap.objs.size := by
        have e' : b = e ∨ b = it := by simpa using hb
        rcases e' with z | z
        · rw [z]; exact hel
        · rw [z]; exact hil
      rw [upd_ne (Nat.ne_of_lt hb')]
      exact (hf b hb).1
  done := by
    intro X hP hw hK hc i pins s σ H E I hf st hg
    subst hP hw hK
    obtain ⟨⟨old, he⟩, hit, hne⟩ := st
    obtain ⟨xs, hq, hx⟩ := hg
    obtain ⟨its, rv, p, hz⟩ := I.tuple hq
    have p' : s.heap.IsTuple a its.toArray := p
    have hai : a ≠ it := fun z => by
      obtain ⟨o, h1, h2, _⟩ := p'
      obtain ⟨o', h3, h4, _⟩ := hit
      rw [z, h3] at h1; cases h1
      rw [h4] at h2; exact absurd h2 (by decide)
    obtain ⟨f0, f1, f2, f3, f4, f5⟩ := hf it (by simp)
    have hl := rv.length
    have D := Draws.tuple (prog := X.prog) (w := X.w) (A := X.A.in1) (I.ok.hd hc) it a hai its.toArray
    have hn : its.toArray.size = i := by rw [List.size_toArray]; omega
    exact wpAny_pyNext_enum_endD D he (show _ ∧ _ from by rw [hn]; exact ⟨hit, p'⟩) fun h' eb => ⟨rfl, I.turned (t' := s.toks) (fun b o hb q => eb b o hb q) f0 f1 f3 f4 f5⟩
  self := fun A i s Q E st h => let ⟨⟨_, he⟩, _⟩ := st; wpAny_pyIter_enum he h
def iEnumT (K : PySem.W.Frag) (ta : TA) : TI := fun σ H R => ta σ H fun vs H1 => ∃ a xs, vs = [.ref a] ∧ ((SqL K H1 a xs ∧ R (Ite K a) H1) ∨ (SqT K H1 a xs ∧ R (ItT K a) H1))
section
variable {X : Cx} {ct : CT} {Wx : WX} {e e2 a b c : Expr} {p pos tpos : Pos} {elts : List Expr} {kk : Nat} {K : PySem.W.Frag} {Fz : Addr → Prop} {H : Hp} {tg : Expr}
theorem pi_enumA {ta : TA} (hg : Gl X "enumerate") (hm : X.mg "enumerate" = none) (ha : PA X [e] ta) (hs : starEach [e] X.env = [(false, eval e X.env)] := by rfl) :
    PI X (.Tuple elts kk tpos) (.Call (.Name "enumerate" p) [e] [] pos) (iEnumT X.K ta) := by
  refine ⟨fun pins s σ H R I h => ?_⟩
  refine Call_ (ld_blt I hg hm boot_enumerate (PyProof.Rows.callWith_type1 (thn (ha.run pos pins s σ H _ I h) fun us s1 ⟨vs, H1, I1, r1, q1⟩ => ?_) hs rfl))
  obtain ⟨a, xs, ex, q⟩ := q1
  subst ex
  cases r1 with
  | cons r rr =>
    cases rr
    cases r
    have fresh : ∀ b, b ∈ [s1.heap.objs.size + 1, s1.heap.objs.size] → FpOk X pins H1 b := fun b hb => by
      have e' : b = s1.heap.objs.size + 1 ∨ b = s1.heap.objs.size := by simpa using hb
      have hle : s1.heap.objs.size ≤ b := by
        rcases e' with z | z
        · rw [z]; exact Nat.le_add_right _ _
        · rw [z]; exact Nat.le_refl _
      exact I1.fpOk hle (I1.hok.fresh hle)
    rcases q with ⟨hq, q⟩ | ⟨hq, q⟩
    · obtain ⟨its, rv, p', hz⟩ := I1.list hq
      refine call_enumerate_list p'.isList fun h' he hit hsz hk => wpAny_pyIter_enum he ?_
      have I2 : Inv X pins σ H1 { s1 with heap := h' } := I1.kept (t' := s1.toks) hk
      exact ⟨s1.heap.objs.size + 1, [s1.heap.objs.size + 1, s1.heap.objs.size], _, _, H1, rfl, I2, turn_enum a (s1.heap.objs.size + 1) s1.heap.objs.size, ⟨⟨.none, he⟩, hit, Nat.succ_ne_self _⟩, fresh, q⟩
    · obtain ⟨its, rv, p', hz⟩ := I1.tuple hq
      refine enum_begins1 (begins_tuple a its.toArray) p' fun h' he hit hsz hk => wpAny_pyIter_enum he ?_
      have I2 : Inv X pins σ H1 { s1 with heap := h' } := I1.kept (t' := s1.toks) hk
      exact ⟨s1.heap.objs.size + 1, [s1.heap.objs.size + 1, s1.heap.objs.size], _, _, H1, rfl, I2, turn_enumT a (s1.heap.objs.size + 1) s1.heap.objs.size, ⟨⟨.none, he⟩, ⟨_, hit, rfl, rfl⟩, Nat.succ_ne_self _⟩, fresh, q⟩
/-! the rules -/
def enumFrom (i : Nat) : List PyData → List PyData
  | [] => []
  | x :: r => .tuple [.int (i : Nat), x] :: enumFrom (i + 1) r
theorem enumFrom_len : ∀ (xs : List PyData) (i : Nat), (enumFrom i xs).length = xs.length
  | [], _ => rfl
  | x :: r, i => by rw [enumFrom, List.length_cons, List.length_cons, enumFrom_len]
theorem enumFrom_get : ∀ (xs : List PyData) (i j : Nat), (enumFrom i xs)[j]? = (xs[j]?).map fun x => .tuple [.int ((i + j : Nat) : Int), x]
  | [], _, _ => by simp [enumFrom]
  | x :: r, i, 0 => by simp [enumFrom]
  | x :: r, i, j + 1 => by
    rw [enumFrom, List.getElem?_cons_succ, List.getElem?_cons_succ, enumFrom_get]
    have : i + 1 + j = i + (j + 1) := by omega
    rw [this]
def enumD : List PyData → Rz (List PyData)
  | [.list xs] => .ok (enumFrom 0 xs)
  | [.tuple xs] => .ok (enumFrom 0 xs)
  | _ => .st
theorem enum_ok {g : Addr → List V → Prop} {J : It} {vs : List V} {ds : List PyData} {sq : Hp → Prop} (hs : ∀ Fz' H', Le Fz H Fz' H' → (sq H' ∧ RpAll K Fz' H' vs ds))
    (h1 : ∀ H' i, sq H' → i < vs.length → J.go i H') (h2 : ∀ H', sq H' → J.stop vs.length H')
    (h3 : ∀ H' i v H'', sq H' → J.yld i H' v H'' → ∃ T x, v = .ref T ∧ H' T = none ∧ H'' = upd H' T (.tup [.int (i : Nat), x]) ∧ vs[i]? = some x) : ItOk K Fz H J (enumFrom 0 ds) := fun Fz' H' l => by
  obtain ⟨sq, r⟩ := hs Fz' H' l
  rw [enumFrom_len, ← r.length]
  refine ⟨fun i hi => h1 H' i sq hi, h2 H' sq, fun i x v H'' hx hy => ?_⟩
  obtain ⟨T, y, rfl, hT, rfl, hg⟩ := h3 H' i v H'' sq hy
  rw [enumFrom_get] at hx
  obtain ⟨d, hd, rd⟩ := r.get hg
  rw [hd] at hx
  cases hx
  refine ⟨.inr ⟨T, _, hT, rfl⟩, .tup (.inl (.inl upd_same)) (.cons (by rw [Nat.zero_add]; exact .int _) (.cons (rd.mono ⟨fun _ z => z, fun a o q _ => same_new hT a o q⟩) .nil))⟩
theorem di_enum {f : Ms → Rz PyData} (ha : DA X ct Wx [e] [f]) (hm : X.mg "enumerate" = none) (hg : Gl X "enumerate" := by rfl) (hs : starEach [e] X.env = [(false, eval e X.env)] := by rfl) : DI X ct Wx (.Tuple elts kk tpos) (.Call (.Name "enumerate" p) [e] [] pos) (iArg enumD [f]) :=
  ⟨PI_imp (pi_fin (pi_enumA hg hm ha.pa hs)) fun σ H R w => tAv_to (g := enumD) w (fun B Fz m x xs v H' r hx rv hk => by
    unfold enumD at hx
    split at hx
    · cases hx
      obtain ⟨u, rfl, ru⟩ := rv.one
      cases ru with
      | @lst a vs ds f hq ra =>
        refine ⟨a, vs, rfl, .inl ⟨.inl (.inl hq), fun hl _ => hk _ (enum_ok (g := fun _ _ => True) (vs := vs) (sq := fun H' => SqL X.K H' a vs) (fun F2 H2 l => ⟨.inl (.inl (l.hp a _ hq (.inl f))), ra.mono l⟩) (fun H' i sq hi => ⟨vs, vs[i], sq, List.getElem?_eq_getElem hi⟩) (fun H' sq => ⟨vs, sq, Nat.le_refl _⟩) fun H' i v H'' sq ⟨T, x, h1, h2, h3, h4⟩ => ⟨T, x, h1, h2, h3, h4 vs sq⟩) (by rw [enumFrom_len, ← ra.length]; exact hl _ _ (.inl (.inl hq)))⟩⟩
    · cases hx
      obtain ⟨u, rfl, ru⟩ := rv.one
      cases ru with
      | @tup a vs ds hq ra =>
        refine ⟨a, vs, rfl, .inr ⟨hq, fun _ ht => hk _ (enum_ok (g := fun _ _ => True) (vs := vs) (sq := fun H' => SqT X.K H' a vs) (fun F2 H2 l => ⟨sqT_le l hq, ra.mono l⟩) (fun H' i sq hi => ⟨vs, vs[i], sq, List.getElem?_eq_getElem hi⟩) (fun H' sq => ⟨vs, sq, rfl⟩) fun H' i v H'' sq ⟨T, x, h1, h2, h3, h4⟩ => ⟨T, x, h1, h2, h3, h4 vs sq⟩) (by rw [enumFrom_len, ← ra.length]; exact ht _ _ hq)⟩⟩
    · cases hx) fun x c => by unfold enumD; split <;> simp⟩
def zipL : List PyData → List PyData → List PyData
  | x :: xs, y :: ys => .tuple [x, y] :: zipL xs ys
  | _, _ => []
theorem zipL_len : ∀ (xs ys : List PyData), (zipL xs ys).length = min xs.length ys.length
  | [], ys => by simp [zipL]
  | _ :: _, [] => by simp [zipL]
  | x :: xs, y :: ys => by rw [zipL, List.length_cons, zipL_len, List.length_cons, List.length_cons]; omega
theorem zipL_get : ∀ (xs ys : List PyData) (i : Nat), (zipL xs ys)[i]? = (xs[i]?).bind fun x => (ys[i]?).map fun y => .tuple [x, y]
  | [], ys, i => by simp [zipL]
  | x :: xs, [], i => by
    cases h : (x :: xs)[i]? <;> simp [zipL, h]
  | x :: xs, y :: ys, 0 => by simp [zipL]
  | x :: xs, y :: ys, i + 1 => by
    rw [zipL, List.getElem?_cons_succ, List.getElem?_cons_succ, List.getElem?_cons_succ, zipL_get]
def zipD : List PyData → Rz (List PyData)
  | [.list xs, .list ys] => .ok (zipL xs ys)
  | [.tuple xs, .tuple ys] => .ok (zipL xs ys)
  | _ => .st
theorem zip_ok {J : It} {vs us : List V} {ds es : List PyData} {sq : Hp → Prop} (hs : ∀ Fz' H', Le Fz H Fz' H' → (sq H' ∧ RpAll K Fz' H' vs ds ∧ RpAll K Fz' H' us es))
    (h1 : ∀ H' i, sq H' → i < vs.length → i < us.length → J.go i H') (h2 : ∀ H' i, sq H' → (vs.length ≤ i ∨ us.length ≤ i) → J.stop i H')
    (h3 : ∀ H' i v H'', sq H' → J.yld i H' v H'' → ∃ T x y, v = .ref T ∧ H' T = none ∧ H'' = upd H' T (.tup [x, y]) ∧ vs[i]? = some x ∧ us[i]? = some y) : ItOk K Fz H J (zipL ds es) := fun Fz' H' l => by
  obtain ⟨sq, r, r'⟩ := hs Fz' H' l
  rw [zipL_len, ← r.length, ← r'.length]
  refine ⟨fun i hi => h1 H' i sq (by omega) (by omega), h2 H' _ sq (by omega), fun i x v H'' hx hy => ?_⟩
  obtain ⟨T, y, z, rfl, hT, rfl, hg, hz⟩ := h3 H' i v H'' sq hy
  rw [zipL_get] at hx
  obtain ⟨d, hd, rd⟩ := r.get hg
  obtain ⟨d2, hd2, rd2⟩ := r'.get hz
  rw [hd, hd2] at hx
  cases hx
  have lt : Le Fz' H' Fz' (upd H' T (.tup [y, z])) := ⟨fun _ z => z, fun a o q _ => same_new hT a o q⟩
  exact ⟨.inr ⟨T, _, hT, rfl⟩, .tup (.inl (.inl upd_same)) (.cons (rd.mono lt) (.cons (rd2.mono lt) .nil))⟩
theorem di_zip {f g : Ms → Rz PyData} (ha : DA X ct Wx [e, e2] [f, g]) (hm : X.mg "zip" = none) (hg : Gl X "zip" := by rfl)
    (hs : starEach [e, e2] X.env = (false, eval e X.env) :: starEach [e2] X.env := by rfl) (hpl : (backTo pos (starEach [e2] X.env)).any (·.1) = false := by rfl) : DI X ct Wx (.Tuple elts kk tpos) (.Call (.Name "zip" p) [e, e2] [] pos) (iArg zipD [f, g]) :=
  ⟨PI_imp (pi_fin (RZ.pi_zipA hg hm ha.pa hs hpl)) fun σ H R w => tAv_to (g := zipD) w (fun B Fz m x xs v H' r hx rv hk => by
    unfold zipD at hx
    split at hx
    · cases hx
      obtain ⟨u, u2, rfl, ru, ru2⟩ := rv.two
      cases ru with
      | @lst a vs ds f hq ra =>
        cases ru2 with
        | @lst b ws es f2 hq2 ra2 =>
          refine ⟨a, b, vs, ws, rfl, .inl ⟨.inl (.inl hq), .inl (.inl hq2), fun hl _ => hk _ (zip_ok (vs := vs) (us := ws) (sq := fun H' => SqL X.K H' a vs ∧ SqL X.K H' b ws) (fun F2 H2 l => ⟨⟨.inl (.inl (l.hp a _ hq (.inl f))), .inl (.inl (l.hp b _ hq2 (.inl f2)))⟩, ra.mono l, ra2.mono l⟩) (fun H' i sq hi hj => ⟨vs, ws, vs[i], ws[i], sq.1, sq.2, List.getElem?_eq_getElem hi, List.getElem?_eq_getElem hj⟩) (fun H' i sq h => ⟨vs, ws, sq.1, sq.2, h⟩)
            fun H' i v H'' sq ⟨T, x, y, h1, h2, h3, h4, h5⟩ => ⟨T, x, y, h1, h2, h3, h4 vs sq.1, h5 ws sq.2⟩) (by rw [zipL_len]; have := hl _ _ (.inl (.inl hq)); have := ra.length; omega)⟩⟩
    · cases hx
      obtain ⟨u, u2, rfl, ru, ru2⟩ := rv.two
      cases ru with
      | @tup a vs ds hq ra =>
        cases ru2 with
        | @tup b ws es hq2 ra2 =>
          refine ⟨a, b, vs, ws, rfl, .inr ⟨hq, hq2, fun _ hl => hk _ (zip_ok (vs := vs) (us := ws) (sq := fun H' => SqT X.K H' a vs ∧ SqT X.K H' b ws) (fun F2 H2 l => ⟨⟨sqT_le l hq, sqT_le l hq2⟩, ra.mono l, ra2.mono l⟩) (fun H' i sq hi hj => ⟨vs, ws, vs[i], ws[i], sq.1, sq.2, List.getElem?_eq_getElem hi, List.getElem?_eq_getElem hj⟩) (fun H' i sq h => ⟨vs, ws, sq.1, sq.2, h⟩)
            fun H' i v H'' sq ⟨T, x, y, h1, h2, h3, h4, h5⟩ => ⟨T, x, y, h1, h2, h3, h4 vs sq.1, h5 ws sq.2⟩) (by rw [zipL_len]; have := hl _ _ hq; have := ra.length; omega)⟩⟩
    · cases hx) fun x c => by unfold zipD; split <;> simp⟩
/-- range(i, j, -1) -/
def rngDn (lo : Int) (n : Nat) : List PyData := (List.range n).map fun (i : Nat) => .int (lo - i)
noncomputable def rng3 : List PyData → Rz (List PyData)
  | [.int i, .int j, .int c] => if c = -1 ∧ rngOk j i = true then .ok (rngDn i (i - j).toNat) else .st
  | _ => .st
theorem itc_ok {lo : Int} {n : Nat} : ItOk K Fz H (Itc lo (-1) n) (rngDn lo n) := fun Fz' H' l => by
  have hn : (rngDn lo n).length = n := by simp [rngDn]
  refine ⟨fun i hi => by rw [hn] at hi; exact hi, by rw [hn]; exact Nat.le_refl _, fun i x v H'' hx hy => ?_⟩
  obtain ⟨e, hv⟩ := hy
  subst e hv
  unfold rngDn at hx
  rw [List.getElem?_map] at hx
  cases z : (List.range n)[i]? with
  | none => rw [z] at hx; cases hx
  | some j =>
    rw [z] at hx
    have : j = i := by
      obtain ⟨h1, h2⟩ := List.getElem?_eq_some_iff.mp z
      rw [← h2]; simp
    subst this
    cases hx
    have : lo + (j : Nat) * -1 = lo - (j : Nat) := by omega
    rw [this]
    exact ⟨.inl rfl, .int _⟩
theorem RpAll.three {v : List V} {x y z : PyData} (r : RpAll K Fz H v [x, y, z]) : ∃ u w t, v = [u, w, t] ∧ Rp K Fz H u x ∧ Rp K Fz H w y ∧ Rp K Fz H t z := by
  cases r with | cons r z => cases z with | cons r' z => cases z with | cons r'' z => cases z; exact ⟨_, _, _, rfl, r, r', r''⟩
theorem di_range3 {f g h : Ms → Rz PyData} (ha : DA X ct Wx [a, b, c] [f, g, h]) (hm : X.mg "range" = none) (hg : Gl X "range" := by rfl) (hs : starEach [a, b, c] X.env = (false, eval a X.env) :: starEach [b, c] X.env := by rfl) (hpl : (backTo pos (starEach [b, c] X.env)).any (·.1) = false := by rfl) :
    DI X ct Wx tg (.Call (.Name "range" p) [a, b, c] [] pos) (iArg rng3 [f, g, h]) :=
  ⟨PI_imp (pi_range3 hg hm ha.pa hs hpl) fun σ H R w => tAv_to (g := rng3) w (fun B Fz m x xs v H' r hx rv hk => by
    unfold rng3 at hx
    split at hx
    · split at hx
      · rename_i i j c hh
        obtain ⟨hc, ok⟩ := hh
        subst hc
        cases hx
        obtain ⟨u1, u2, u3, rfl, r1, r2, r3⟩ := rv.three
        cases r1
        cases r2
        cases r3
        rw [rngOk_iff] at ok
        exact ⟨i, j, -1, (i - j).toNat, rfl, RgC.neg ok.2.2.1 ok.2.2.2.1 ok.1 ok.2.1, hk _ itc_ok (by simp only [rngDn, List.length_map, List.length_range]; rw [sizeLine_eq]; have := ok.2.2.2.2; omega)⟩
      · cases hx
    · cases hx) fun x c => by
      unfold rng3
      split
      · split <;> simp
      · simp⟩
end
end Dl
set_option Elab.async false
set_option linter.all false
set_option maxRecDepth 100000
/-! D10: defs, calls, exceptions, the script, appending. -/
namespace Dl
open PySem PySem.Spec PyProof.Rows L2

/-! ### what a def computes -/
/-- the promise of a def: F by what its parameters are -/
def spW (ct : CT) (K : PySem.W.Frag) (n : Nat) (F : Ms → Rz PyData) : Sp := fun vs H Q E => ∃ Fz m, vs.length = n ∧ (∀ a, Fz a → H a ≠ none) ∧ RL K Fz H (vs.map some) m [] ∧ match F m with
  | .st => False
  | .ok x => ∀ v H' Fz', Same H H' → Ext H Fz Fz' → (∀ a, Fz' a → H' a ≠ none) → Rp K Fz' H' v x → Q v H'
  | .ex c => ∀ H' Fz', Same H H' → Ext H Fz Fz' → (∀ a, Fz' a → H' a ≠ none) → E (ct c) Option.none H'
/-- the body's answer: N slots in all -/
def fnW (N : Nat) (g : Ms → Fl) : Ms → Rz PyData := fun m => match g (m ++ List.replicate (N - m.length) none) with
  | .nx _ => .ok .none
  | .rt x => .ok x
  | .ex c _ => .ex c
  | _ => .st
def fnD (N : Nat) (g : Ms → Fl) : List PyData → Rz PyData := fun ds => fnW N g (ds.map fun x => some (.d x))
section
variable {P : Program} {w : World} {K : PySem.W.Frag} {mg : Str → Option Value} {base : Heap} {ct : CT}
theorem RL.pad {Fz : Addr → Prop} {H : Hp} {σ : L2.St} {m : Ms} {fp : List Addr} (k : Nat) (h : RL K Fz H σ m fp) : RL K Fz H (σ ++ List.replicate k none) (m ++ List.replicate k none) fp := by
  have z : RL K Fz H (List.replicate k none) (List.replicate k none) [] := by
    induction k with
    | zero => exact .nil
    | succ k ih => rw [List.replicate_succ, List.replicate_succ]; exact .no ih
  have := RL.glue h z
  rwa [List.append_nil] at this
/-- a def by its body -/
theorem fn_body {x qual : Str} {st : Stmt} {f : Addr} {fd : FuncData} {N ps : List Str} {k : Nat} {g : Ms → Fl} (F : Fun K x qual st f fd) (S : FnScope N ps (defScope st))
    (hb : ∀ (cdv : Value) (A : Around) (outer : List Env) (s : Shared) (H : Hp) (E : XK), Room k (A.deeper (envOfC qual (defScope st) s.heap.objs.size f cdv)) →
      DSs (cxOf (L2.CX P w) P w K mg base N qual (defScope st) f cdv A outer s H E) ct (fun cls d _ H => E cls d H) (defBody st) g) : FnOk P w K mg base (L2.CX P w) (k + 1) f fd ps (spW ct K ps.length (fnW N.length g)) := by
  refine F.okX S (fun vs H Q E ⟨Fz, m, h, _⟩ => h) fun cdv A outer s H vs Q E hr ⟨Fz, m, hl, hz, h, q⟩ => ⟨_, (hb cdv A outer s H E hr).ps, ?_⟩
  have hm : vs.length = m.length := by rw [← h.length, List.length_map]
  refine tS_iff.mpr ⟨H, Fz, m ++ List.replicate (N.length - m.length) none, ⟨[], ?_, List.nodup_nil, fun a ha => absurd ha (List.not_mem_nil), fun _ _ z => z, hz⟩, ?_⟩
  · unfold L2.start
    rw [hm]
    exact h.pad _
  · unfold fnW at q
    cases hg : g (m ++ List.replicate (N.length - m.length) none) with
    | st => rw [hg] at q; exact q
    | bk _ => rw [hg] at q; exact q.elim
    | ct _ => rw [hg] at q; exact q.elim
    | nx m' => rw [hg] at q; exact fun σ' H' Fz' x r => q .non H' Fz' (fun a o e => r.base a o e) x r.fzn .non
    | rt y => rw [hg] at q; exact fun v H' Fz' x ⟨σ', m', r⟩ p => q v H' Fz' (fun a o e => r.base a o e) x r.fzn p
    | ex c m' => rw [hg] at q; exact fun σ' H' Fz' x r => q H' Fz' (fun a o e => r.base a o e) x r.fzn
/-- a def that may be called by its name -/
structure CallW (P : Program) (w : World) (K : PySem.W.Frag) (mg : Str → Option Value) (base : Heap) (ct : CT) (k : Nat) (x : Str) (n : Nat) (F : Ms → Rz PyData) : Prop where
  ex : ∃ f fd ps, FnOk P w K mg base (L2.CX P w) k f fd ps (spW ct K n F) ∧ mg x = some (.ref f) ∧ PySem.W.keepIn K (.ref f) = true ∧ Binds K fd ps []
/-- what the program's text gives of a def -/
structure DefD (K : PySem.W.Frag) (mg : Str → Option Value) (x : Str) (st : Stmt) (ps : List Str) : Prop where
  ex : ∃ f fd, Fun K x x st f fd ∧ mg x = some (.ref f) ∧ Binds K fd ps []
theorem callW_of {x : Str} {st : Stmt} {N ps : List Str} {k n np : Nat} {g : Ms → Fl} (D : DefD K mg x st ps) (S : FnScope N ps (defScope st)) (hn : N.length = n) (hp : ps.length = np)
    (hb : ∀ (f : Addr) (cdv : Value) (A : Around) (outer : List Env) (s : Shared) (H : Hp) (E : XK), Room k (A.deeper (envOfC x (defScope st) s.heap.objs.size f cdv)) →
      DSs (cxOf (L2.CX P w) P w K mg base N x (defScope st) f cdv A outer s H E) ct (fun cls d _ H => E cls d H) (defBody st) g) : CallW P w K mg base ct (k + 1) x np (fnW n g) := by
  obtain ⟨f, fd, F, hm, hb'⟩ := D.ex
  subst hn hp
  exact ⟨f, fd, ps, fn_body F S (hb f), hm, F.kp, hb'⟩
end
section
variable {X : Cx} {ct : CT} {Wx : WX} {e e2 a b c : Expr} {es : List Expr} {p pos : Pos} {x : Str}
/-- a call of a def, data given -/
def vFn (F : Ms → Rz PyData) (fs : List (Ms → Rz PyData)) : Ms → Rz PyData := fun m => (evalAllD fs m).bind fun xs => F (xs.map fun x => some (.d x))
theorem RL.ofAll {K : PySem.W.Frag} {Fz : Addr → Prop} {H : Hp} : ∀ {vs : List V} {xs : List PyData}, RpAll K Fz H vs xs → RL K Fz H (vs.map some) (xs.map fun x => some (.d x)) []
  | _, _, .nil => .nil
  | _, _, .cons r rs => .so (f := []) (.d r) (RL.ofAll rs)
theorem ext_base {B H : Hp} {Fz Fz' : Addr → Prop} (h : ∀ a o, B a = some o → H a = some o) (x : Ext H Fz Fz') : Ext B Fz Fz' := ⟨x.le, fun a ha => (x.new a ha).imp id fun z => by
  cases q : B a with
  | none => rfl
  | some o => rw [h a o q] at z; cases z⟩
theorem fn_end {K : PySem.W.Frag} {F : Ms → Rz PyData} {n : Nat} {B H : Hp} {Fz : Addr → Prop} {σ : L2.St} {m ma : Ms} {vs : List V} {Q : VK} (hl : vs.length = n) (r : Rs K B Fz H σ m) (ra : RL K Fz H (vs.map some) ma [])
    (q : match F ma with
      | .st => False
      | .ok a => ∀ v H' Fz', Ext B Fz Fz' → Rs K B Fz' H' σ m → Rp K Fz' H' v a → Q v H'
      | .ex c => ∀ H' Fz', Ext B Fz Fz' → Rs K B Fz' H' σ m → Wx (ct c) Option.none σ H') : spW ct K n F vs H Q (WE Wx σ) := by
  refine ⟨Fz, ma, hl, r.fzn, ra, ?_⟩
  cases hf : F ma with
  | st => rw [hf] at q; exact q
  | ok y => rw [hf] at q; exact fun v H' Fz' sm x nz rp => q v H' Fz' (ext_base r.base x) (r.grow sm x nz) rp
  | ex c => rw [hf] at q; exact fun H' Fz' sm x nz => q H' Fz' (ext_base r.base x) (r.grow sm x nz)
theorem dv_call {k j n : Nat} {F : Ms → Rz PyData} {fs : List (Ms → Rz PyData)} (c : CallW X.prog X.w X.K X.mg X.base ct k x n F) (hr : Room j X.A) (hk : k ≤ j) (tk : Takes X Wx) (ha : DA X ct Wx (e :: es) fs) (hn : (e :: es).length = n := by rfl) (hg : Gl X x := by rfl)
    (hdb : (x == ("__debug__" : Str)) = false := by decide) (he : starEach (e :: es) X.env = (false, eval e X.env) :: starEach es X.env := by rfl) (hpl : (backTo pos (starEach es X.env)).any (·.1) = false := by rfl) (hfl : fs.length = (e :: es).length := by rfl) :
    DV X ct Wx (.Call (.Name x p) (e :: es) [] pos) (vFn F fs) := by
  obtain ⟨f, fd, ps, hf, hm, hkp, hb⟩ := c.ex
  refine ⟨PE_imp (pe_callS hf (hr.mono hk) hg hm hkp hb (fun σ => passAt tk σ) ha.pa hdb he hpl) fun σ H Q ⟨B, Fz, m, r, q⟩ => ⟨B, Fz, m, r, ?_⟩⟩
  unfold vFn at q
  cases hf : evalAllD fs m with
  | st => rw [hf] at q; exact q
  | ex c => rw [hf] at q; exact q
  | ok xs =>
    rw [hf, Rz.bind_ok] at q
    intro vs H1 F1 x1 r1 p1
    have lens : ∀ (fs : List (Ms → Rz PyData)) (xs : List PyData), evalAllD fs m = .ok xs → xs.length = fs.length := by
      intro fs
      induction fs with
      | nil => intro xs h; cases h; rfl
      | cons f fs ih =>
        intro xs h
        unfold evalAllD at h
        cases hf : f m with
        | st => rw [hf] at h; cases h
        | ex c => rw [hf] at h; cases h
        | ok x =>
          rw [hf, Rz.bind_ok] at h
          cases hs : evalAllD fs m with
          | st => rw [hs] at h; cases h
          | ex c => rw [hs] at h; cases h
          | ok ys => rw [hs] at h; cases h; simp [ih _ hs]
    refine fn_end (by rw [p1.length, lens _ _ hf, hfl]; exact hn) r1 (RL.ofAll p1) ?_
    cases hF : F (xs.map fun x => some (.d x)) with
    | st => rw [hF] at q; exact q
    | ok y => rw [hF] at q; exact fun v H' F' x r p => q v H' F' (x1.trans x) ⟨r, p⟩
    | ex c => rw [hF] at q; exact fun H' F' x r => q H' F' (x1.trans x) r

/-! ### the script -/
/-- f(script, e) -/
def rAt (i : Nat) (m : Ms) : Option (List Int) := match m[i]? with
  | some (some (.r ns)) => some ns
  | _ => none
theorem rAt_some {i : Nat} {m : Ms} {ns : List Int} (h : rAt i m = some ns) : m[i]? = some (some (.r ns)) := by
  unfold rAt at h
  split at h
  · rename_i e; cases h; exact e
  · cases h
def vFnR (F : Ms → Rz PyData) (i : Nat) (f : Ms → Rz PyData) : Ms → Rz PyData := fun m => match rAt i m with
  | some ns => (f m).bind fun x => F [some (.r ns), some (.d x)]
  | none => .st
theorem dv_callR {k j : Nat} {F : Ms → Rz PyData} {f : Ms → Rz PyData} {y : Str} {p2 : Pos} (i : Nat) (c : CallW X.prog X.w X.K X.mg X.base ct k x 2 F) (hr : Room j X.A) (hk : k ≤ j) (tk : Takes X Wx) (hb : DV X ct Wx e f) (hN : X.N[i]? = some y := by rfl)
    (hv : Vis X.env.scope y := by first | exact Or.inl rfl | exact Or.inr (Or.inl rfl) | exact Or.inr (Or.inr rfl)) (hd : (y == ("__debug__" : Str)) = false := by decide) (hcd : (y == ("__classdict__" : Str)) = false := by decide) (hg : Gl X x := by rfl)
    (hdb : (x == ("__debug__" : Str)) = false := by decide) (he : starEach [.Name y p2, e] X.env = (false, eval (.Name y p2) X.env) :: starEach [e] X.env := by rfl) (hpl : (backTo pos (starEach [e] X.env)).any (·.1) = false := by rfl) (hes : starEach [e] X.env = (false, eval e X.env) :: starEach [] X.env := by rfl) :
    DV X ct Wx (.Call (.Name x p) [.Name y p2, e] [] pos) (vFnR F i f) := by
  obtain ⟨f0, fd, ps, hf, hm, hkp, hbd⟩ := c.ex
  refine ⟨PE_imp (pe_callS hf (hr.mono hk) hg hm hkp hbd (fun σ => passAt tk σ) (pa_cons (pe_var hN hv hd hcd) (pa_cons hb.pe pa_nil hes) he) hdb he hpl) fun σ H Q ⟨B, Fz, m, r, q⟩ => ?_⟩
  unfold vFnR at q
  cases hi : rAt i m with
  | none => rw [hi] at q; exact q.elim
  | some ns =>
    rw [hi] at q
    dsimp only at q
    obtain ⟨a, h1, h2, h3⟩ := r.getR (rAt_some hi)
    refine ⟨.ref a, h1, ?_⟩
    show tV X.K ct Wx f σ H _
    refine tV_then r ?_
    cases hf : f m with
    | st => rw [hf] at q; exact q
    | ex c => rw [hf] at q; exact q
    | ok z =>
      rw [hf, Rz.bind_ok] at q
      intro v H1 F1 x1 r1 l1 p1
      have ra : RL X.K F1 H1 ([V.ref a, v].map some) [some (.r ns), some (.d z)] [] := .so (f := []) (h3.mono l1 fun a ha => absurd ha List.not_mem_nil) (.so (f := []) (.d p1) .nil)
      refine fn_end rfl r1 ra ?_
      cases hF : F [some (.r ns), some (.d z)] with
      | st => rw [hF] at q; exact q
      | ok y => rw [hF] at q; exact fun v H' F' x r p => q v H' F' (x1.trans x) ⟨r, p⟩
      | ex c => rw [hF] at q; exact fun H' F' x r => q H' F' (x1.trans x) r

/-- script[:k] -/
def eScr (i : Nat) (k : Int) : Ms → Rz W := fun m => match rAt i m with
  | some ns => .ok (.l ((cutL ns none (some k)).map .int))
  | none => .st
theorem cut_ints {ns : List Int} {k : Int} : cutV (ns.map V.int) none (some k) = (cutL ns none (some k)).map V.int := by
  unfold cutV cutL
  rw [List.length_map, List.map_take, List.map_drop]
theorem de_scr {y : Str} {p2 p3 p4 : Pos} {k : Int} {kk : Nat} (i : Nat) (hN : X.N[i]? = some y := by rfl)
    (hv : Vis X.env.scope y := by first | exact Or.inl rfl | exact Or.inr (Or.inl rfl) | exact Or.inr (Or.inr rfl)) (hd : (y == ("__debug__" : Str)) = false := by decide) (hcd : (y == ("__classdict__" : Str)) = false := by decide) :
    DE X ct Wx (.Subscript (.Name y p2) (.Slice none (some (.Constant (.int k) kk p3)) none p4) pos) (eScr i k) := ⟨PE_imp (pe_slice sl_list (pe_var hN hv hd hcd) po_none (po_some pe_int)) fun σ H Q ⟨B, Fz, m, r, q⟩ => by
  unfold eScr at q
  cases hi : rAt i m with
  | none => rw [hi] at q; exact q.elim
  | some ns =>
    rw [hi] at q
    obtain ⟨a, h1, h2, h3⟩ := r.getR (rAt_some hi)
    refine ⟨.ref a, h1, k, rfl, a, _, rfl, h2, fun p hp => q _ _ Fz .refl ?_⟩
    rw [cut_ints]
    exact r.newLst hp (RpAll.of_ints _)⟩
/-- what a slot's own list holds -/
def lAt (i : Nat) (m : Ms) : Option (List PyData) := match m[i]? with
  | some (some (.l xs)) => some xs
  | _ => none
theorem lAt_some {i : Nat} {m : Ms} {xs : List PyData} (h : lAt i m = some xs) : m[i]? = some (some (.l xs)) := by
  unfold lAt at h
  split at h
  · rename_i e; cases h; exact e
  · cases h
/-- name.append(e) -/
def sApp (i : Nat) (f : Ms → Rz PyData) : Ms → Fl := fun m => match lAt i m with
  | some xs => flE f (fun x m => if xs.length < 16777216 then .nx (m.set i (some (.l (xs ++ [x])))) else .st) m
  | none => .st
theorem ds_app {y : Str} {p2 apos cpos : Pos} {f : Ms → Rz PyData} (i : Nat) (ha : DA X ct Wx [e] [f]) (hN : X.N[i]? = some y := by rfl)
    (hv : Vis X.env.scope y := by first | exact Or.inl rfl | exact Or.inr (Or.inl rfl) | exact Or.inr (Or.inr rfl)) (hd : (y == ("__debug__" : Str)) = false := by decide) (hcd : (y == ("__classdict__" : Str)) = false := by decide)
    (hbase : attributeBase (.Name y p2) "append" X.env (eval (.Name y p2) X.env) = eval (.Name y p2) X.env := by rfl)
    (hfew : ((backTo cpos (starEach [e] X.env)).all (fun x => !x.1) && (backToKw cpos (keywordEach [] X.env)).all (fun x => x.1.isSome)
      && decide (([e] : List Expr).length + ([] : List Keyword).length + (if ([] : List Keyword).isEmpty then 0 else 1) < 30)) = true := by rfl)
    (hline : (apos.endLine == cpos.line) = true := by rfl) (hs : starEach [e] X.env = (false, eval e X.env) :: starEach [] X.env := by rfl) (hplain : (backTo cpos (starEach [] X.env)).any (·.1) = false := by rfl)
    (hsw : swapsWith (.Call (.Attribute (.Name y p2) "append" apos) [e] [] cpos) none pos.line X.env = pure false := by rfl) :
    DS X ct Wx (.Expr (.Call (.Attribute (.Name y p2) "append" apos) [e] [] cpos) pos) (sApp i f) :=
  ds_of (ps_expr (pe_bm PySem.F.plainAttrs_list PySem.F.slot_list_append PySem.F.type_list_append mt_append (pe_var hN hv hd hcd) ha.pa hbase hfew hline hs hplain) hsw) fun D σ H B Fz m h q => by
    unfold sApp at q
    cases hi : lAt i m with
    | none => rw [hi] at q; exact q.elim
    | some xs =>
      rw [hi] at q
      have q : EndS X.K ct Wx B Fz D (flE f (fun x m => if xs.length < 16777216 then .nx (m.set i (some (.l (xs ++ [x])))) else .st) m) := q
      obtain ⟨a, vs, h1, h2, h3, _⟩ := h.getL (lAt_some hi)
      refine ⟨.ref a, h1, .inl ⟨rfl, _, .inl (.inl h2)⟩, B, Fz, m, h, ?_⟩
      unfold flE at q
      unfold evalAllD
      cases hf : f m with
      | st => rw [hf] at q; exact q
      | ex c => rw [hf] at q; exact fun H' F' x r => q σ H' F' x r
      | ok z =>
        rw [hf] at q
        have q : EndS X.K ct Wx B Fz D (if xs.length < 16777216 then .nx (m.set i (some (.l (xs ++ [z])))) else .st) := q
        intro us H1 F1 x1 r1 p1
        obtain ⟨u, rfl, pu⟩ := RpAll.one p1
        obtain ⟨a', vs', g1, g2, g3, g4⟩ := r1.write i (lAt_some hi)
        rw [h1] at g1; cases g1
        split at q
        · rename_i hlt
          refine ⟨a, vs', u, rfl, rfl, g2, by rw [g3.length, sizeLine_eq]; omega, q σ _ F1 x1 (g4 _ _ (g3.append (.cons pu .nil)))⟩
        · exact q.elim

end
end Dl
set_option Elab.async false
set_option linter.all false
set_option maxRecDepth 100000
/-! D11: exceptions. -/
namespace Dl
open PySem PySem.Spec PyProof.Rows L2
def sRaise (c : Nat) : Ms → Fl := fun m => .ex c m
/-- what the text gives of an own exception class -/
structure ExcD (K : PySem.W.Frag) (mg : Str → Option Value) (ct : CT) (c : Nat) (x : Str) : Prop where
  ex : ∃ C, ct c = .ref C ∧ PySem.W.excIn K C [.type "ValueError", .type "Exception", .type "BaseException", .type "object"] "ValueError.__new__" = true ∧ mg x = some (.ref C) ∧ PySem.W.keepIn K (.ref C) = true ∧
    PySem.W.subIn K (.ref C) (.type "BaseException") = some true ∧ PySem.W.typeIn K (.ref C) = some (.type "type")
section
variable {X : Cx} {ct : CT} {Wx : WX} {p p2 pos pos' : Pos} {x : Str}
theorem ds_raise {c j : Nat} {m : Str} (E : ExcD X.K X.mg ct c x) (tk : Takes X Wx) (hc : X.calm = true := by rfl) (hg : Gl X x := by rfl) (hdb : (x == ("__debug__" : Str)) = false := by decide) :
    DS X ct Wx (.Raise (some (.Call (.Name x p) [.Constant (.str m) j p2] [] pos)) none pos') (sRaise c) := by
  obtain ⟨C, e, h1, h2, h3, h4, h5⟩ := E.ex
  refine ds_of (ps_raise hc tk (pmk_own PySem.F.excBase_ValueError h1 h2 h3 (raises_own h4 h5) hg hdb)) fun D σ H B Fz m h q => ?_
  have q : ∀ σ' H' Fz', Ext B Fz Fz' → Rs X.K B Fz' H' σ' m → Wx (ct c) Option.none σ' H' := q
  rw [e] at q
  exact q σ H Fz .refl h

/-! ### try -/
def noEx : Fl → Fl
  | .ex _ _ => .st
  | o => o
def goTry : List ((Nat → Option Bool) × (Ms → Fl)) → Nat → Ms → Fl
  | [], c, m => .ex c m
  | (p, s) :: r, c, m => match p c with
    | some true => noEx (s m)
    | some false => goTry r c m
    | none => .st
def sTry (g : Ms → Fl) (hs : List ((Nat → Option Bool) × (Ms → Fl))) : Ms → Fl := fun m => match g m with
  | .ex c m' => goTry hs c m'
  | o => o
inductive DHs (X : Cx) (ct : CT) : List ExceptHandler → List (Value × (Nat → Option Bool) × (Ms → Fl)) → Prop
  | nil : DHs X ct [] []
  | cons {x : Str} {c : Value} {pt : Nat → Option Bool} {s : Ms → Fl} {b₀ : Stmt} {suite : List Stmt} {np pos' : Pos} {hds : List ExceptHandler} {l : List (Value × (Nat → Option Bool) × (Ms → Fl))} (hc : Names X x c)
      (hp : ∀ n b, pt n = some b → PySem.W.exmOne X.K (ct n) c = some b)
      (hs : ∀ (a : Addr) (oe : Obj) (pn : List (Addr × Obj)), DSs (X.suite a ((a, oe) :: pn)) ct W0 (b₀ :: suite) s) (r : DHs X ct hds l) :
      DHs X ct (.ExceptHandler (some (.Name x np)) none (b₀ :: suite) pos' :: hds) ((c, pt, s) :: l)
def hdT (K : PySem.W.Frag) (ct : CT) (l : List (Value × (Nat → Option Bool) × (Ms → Fl))) : List (Value × (Addr → Value → Option Addr → TS)) := l.map fun z => (z.1, fun _ _ _ => tS K ct W0 z.2.2)
theorem DHs.ok {hds : List ExceptHandler} {l : List (Value × (Nat → Option Bool) × (Ms → Fl))} (h : DHs X ct hds l) : HdsOk X hds (hdT X.K ct l) := by
  induction h with
  | nil => exact .nil
  | cons hc hp hs r ih => exact .cons hc (fun a oe cls d pn _ _ => (hs a oe pn).ps) ih
theorem noEx_end {K : PySem.W.Frag} {B : Hp} {Fz : Addr → Prop} {D : Ends} {f : Fl} {Wy : WX} (h : EndS K ct Wx B Fz D (noEx f)) : EndS K ct Wy B Fz D f := by
  cases f with
  | ex c m => exact h.elim
  | _ => exact h
theorem DHs.many {hds : List ExceptHandler} {l : List (Value × (Nat → Option Bool) × (Ms → Fl))} (h : DHs X ct hds l) {c : Nat} {m : Ms} {D : Ends} {σ : L2.St} {H B : Hp} {Fz : Addr → Prop} (r : Rs X.K B Fz H σ m)
    (q : EndS X.K ct Wx B Fz D (goTry (l.map (·.2)) c m)) : wMany X.K Wx D (hdT X.K ct l) (ct c) none σ H := by
  induction h with
  | nil => exact q σ H Fz .refl r
  | @cons x cv pt s b₀ suite np pos' hds l hc hp hs r' ih =>
    rw [List.map_cons] at q
    unfold goTry at q
    cases hb : pt c with
    | none => rw [hb] at q; exact q.elim
    | some b =>
      rw [hb] at q
      refine ⟨b, hp c b hb, fun e a na => ?_, fun e => ?_⟩
      · subst e
        exact tS_iff.mpr ⟨B, Fz, m, r, noEx_end q⟩
      · subst e
        exact ih q
theorem ds_try {body : List Stmt} {h₀ : ExceptHandler} {hds : List ExceptHandler} {l : List (Value × (Nat → Option Bool) × (Ms → Fl))} {g : Ms → Fl} (tk : Takes X Wx)
    (hb : ∀ (W : WX) (pn : List (Addr × Obj)) (xe : Value → Shared → Prop), Takes (X.tr pn xe) W → PassesOwn (model X.prog X.w) X.A X.env xe → DSs (X.tr pn xe) ct W body g)
    (hh : DHs X ct (h₀ :: hds) l) (hs : X.stack = X.env :: X.outer := by rfl) (hf : X.env.frame = some X.env.locals := by rfl) : DS X ct Wx (.Try body (h₀ :: hds) [] [] pos) (sTry g (l.map (·.2))) :=
  ds_of (ps_try_many (tb := fun W => tS X.K ct W g) hs hf tk (fun W pn xe tk hp => (hb W pn xe tk hp).ps) hh.ok) fun D σ H B Fz m h q => by
    refine tS_iff.mpr ⟨B, Fz, m, h, ?_⟩
    unfold sTry at q
    cases hg : g m with
    | ex c m' =>
      rw [hg] at q
      exact fun σ' H' F' x r => hh.many r (EndS.ext x q)
    | _ => rw [hg] at q; exact q
/-! ### try: .. except X as e: return .. isinstance(e, Y) .. -/
def constV : PyData → Option V
  | .none => some .non
  | .bool b => some (.bl b)
  | .int i => some (.int i)
  | .str s => some (.str s)
  | _ => none
theorem constV_rp {K : PySem.W.Frag} {y : PyData} {u : V} (h : constV y = some u) {Fz : Addr → Prop} {H : Hp} : Rp K Fz H u y := by
  cases y with
  | none => cases h; exact .non
  | bool b => cases h; exact .bl b
  | int i => cases h; exact .int i
  | str s => cases h; exact .str s
  | _ => cases h
structure DIs (X : Cx) (ct : CT) (i : Nat) (ex : Expr) (v : Nat → Option PyData) : Prop where
  pe : ∀ (a : Addr) (oe : Obj) (cls : Value) (d : Option Addr) (pn : List (Addr × Obj)), Zc cls d oe → (∃ vs, oe.data = .fields vs) →
    PE (X.suite a ((a, oe) :: pn)) ex (fun σ H Q => d = none ∧ ∃ c y u, cls = ct c ∧ σ[i]? = some (some (V.ref a)) ∧ v c = some y ∧ constV y = some u ∧ Q u H)
def sTryIs (g : Ms → Fl) (i : Nat) (p : Nat → Option Bool) (v : Nat → Option PyData) : Ms → Fl := fun m => match g m with
  | .ex c m' => match p c with
    | some true => match v c with
      | some y => if i < m'.length ∧ (constV y).isSome = true then .rt y else .st
      | none => .st
    | some false => .ex c m'
    | none => .st
  | o => o
theorem ds_tryIs {body : List Stmt} {g : Ms → Fl} {cv : Value} {pt : Nat → Option Bool} {v : Nat → Option PyData} {n : Str} {ex : Expr} {np rpos hpos : Pos} (i : Nat) (tk : Takes X Wx) (hN : X.N.Nodup) (hc : Names X x cv) (hp : ∀ n b, pt n = some b → PySem.W.exmOne X.K (ct n) cv = some b)
    (hb : ∀ (W : WX) (pn : List (Addr × Obj)) (xe : Value → Shared → Prop), Takes (X.tr pn xe) W → PassesOwn (model X.prog X.w) X.A X.env xe → DSs (X.tr pn xe) ct W body g)
    (hx : DIs X ct i ex v) (hi : X.N[i]? = some n := by rfl) (hln : X.env.kindOf n = some .local := by rfl) (hs : X.stack = X.env :: X.outer := by rfl) (hf : X.env.frame = some X.env.locals := by rfl) :
    DS X ct Wx (.Try body [.ExceptHandler (some (.Name x np)) (some n) [.Return (some ex) rpos] hpos] [] [] pos) (sTryIs g i pt v) :=
  ds_of (ps_try_as (i := i) (tb := fun W => tS X.K ct W g) (ts := fun a cls d D σ H => d = none ∧ ∃ c y u, cls = ct c ∧ σ[i]? = some (some (V.ref a)) ∧ v c = some y ∧ constV y = some u ∧ D.rt u H) hs hf hN hi hln hc tk
      (fun W pn xe tk hp => (hb W pn xe tk hp).ps) (fun a oe cls d pn hz hd => pss_one (ps_ret (hx.pe a oe cls d pn hz hd)))) fun D σ H B Fz m h q => by
    refine tS_iff.mpr ⟨B, Fz, m, h, ?_⟩
    unfold sTryIs at q
    cases hg : g m with
    | ex c m' =>
      rw [hg] at q
      dsimp only at q
      intro σ' H' F' x r
      cases hb : pt c with
      | none => rw [hb] at q; exact q.elim
      | some b =>
        rw [hb] at q
        refine ⟨b, hp c b hb, fun e a na => ?_, fun e => ?_⟩
        · subst e
          dsimp only at q
          cases hv : v c with
          | none => rw [hv] at q; exact q.elim
          | some y =>
            rw [hv] at q
            dsimp only at q
            split at q
            · rename_i hl
              have q : ∀ v H' Fz', Ext B Fz Fz' → (∃ σ' m', Rs X.K B Fz' H' σ' m') → Rp X.K Fz' H' v y → D.rt v H' := q
              obtain ⟨hl, hy⟩ := hl
              cases hcu : constV y with
              | none => rw [hcu] at hy; cases hy
              | some u =>
                refine ⟨rfl, c, y, u, rfl, ?_, hv, hcu, q u H' F' x ⟨σ', m', r⟩ (constV_rp hcu)⟩
                rw [List.getElem?_set_self (by rw [r.lsz]; exact hl)]
            · exact q.elim
        · subst e
          exact q σ' H' F' x r
    | _ => rw [hg] at q; exact q
/-- isinstance(e, Y) -/
theorem dis_is {n y : Str} {i : Nat} {cv : Addr} {isT : Nat → Option Bool} {pn1 py : Pos} (hN : X.N[i]? = some n := by rfl) (hc : ∀ c b, isT c = some b → ∃ D, ct c = .ref D ∧ ExcC X.K D ∧ PySem.W.kitOne X.K (.ref D) (.ref cv) = some b) (hy : X.mg y = some (.ref cv)) (hmi : X.mg "isinstance" = none)
    (hv : Vis X.env.scope n := by first | exact Or.inl rfl | exact Or.inr (Or.inl rfl) | exact Or.inr (Or.inr rfl)) (hgy : Gl X y := by rfl) (hgi : Gl X "isinstance" := by rfl) (hd : (n == ("__debug__" : Str)) = false := by decide) (hcd : (n == ("__classdict__" : Str)) = false := by decide) (hdy : (y == ("__debug__" : Str)) = false := by decide)
    (he : starEach [.Name n pn1, .Name y py] X.env = (false, eval (.Name n pn1) X.env) :: starEach [.Name y py] X.env := by rfl) (he2 : starEach [.Name y py] X.env = (false, eval (.Name y py) X.env) :: starEach [] X.env := by rfl) (hpl : (backTo pos (starEach [.Name y py] X.env)).any (·.1) = false := by rfl) :
    DIs X ct i (.Call (.Name "isinstance" p) [.Name n pn1, .Name y py] [] pos) (fun c => (isT c).map .bool) := ⟨fun a oe cls d pn hz hf => ⟨fun pins s σ H Q I ⟨hd0, c, z, u, hcls, hσ, hv', hu, q⟩ => by
  subst hd0
  cases hb : isT c with
  | none => rw [hb] at hv'; cases hv'
  | some b =>
    rw [hb] at hv'
    cases hv'
    cases hu
    obtain ⟨D, e1, e2, e3⟩ := hc c b hb
    rw [e1] at hcls
    subst hcls
    refine (pe_callB (X := X.suite a ((a, oe) :: pn)) (call_isE (pn := pn) e2 hz hf) hgi hmi (by rfl) (pa_cons (pe_var hN hv hd hcd) (pa_cons (pe_glob (v := V.ref cv) hgy hy rfl hdy) pa_nil he2) he) (by decide) (by decide) he hpl).run pins s σ H Q I ?_
    exact ⟨.ref a, hσ, .ref cv, .ref cv, b, rfl, fun u r => by cases r; rfl, e3, q⟩⟩⟩
end
end Dl
set_option Elab.async false
set_option linter.all false
set_option maxRecDepth 100000
/-! D12: sorted(set(..)) of tuples of ints; is None. -/
namespace Dl
open PySem PySem.Spec PyProof.Rows L2
section
variable {P : Program} {w : World} {A : Around} {E : Value → Shared → Prop} {s : Shared}
/-- the set's first object -/
abbrev freshSet (w : World) : Obj := { cls := .type "set", dict := none, data := .set #[] 0 (.fresh 0 0 (!w.params.followText "set-order")) }
set_option maxHeartbeats 3200000 in
/-- set of a tuple of tuples of ints -/
theorem set_tupT {l : Addr} {items : Array Value} (ks : List (Addr × List Int)) {Q : Value → Shared → Prop} (hh : A.handled = none) (hl : s.heap.IsTuple l items) (hit : items.toList = ks.map fun p => Value.ref p.1) (hk : ∀ p ∈ ks, IsT P w s.heap p.2 p.1) (hfew : ks.length < 64) (hu : A.units + 3 < cLine)
    (h : ∀ (h' : Heap) (tk : Nat) L es ep t, SetTR P w h' s.heap.objs.size L es ep t → Got ks ks.length L → (∀ b o, s.heap.get? b = some o → h'.get? b = some o) → Q (.ref s.heap.objs.size) { s with heap := h', toks := tk }) : wpAny (model P w) A (call (.type "set") [.ref l]) Q E s := by
  have isz : items.size = ks.length := by rw [← Array.length_toList, hit, List.length_map]
  obtain ⟨c, tl, hmro⟩ := F.called_set.mro
  have made := F.called_set.made
  have sub := F.called_set.sub
  refine wpAny_call (codeAny_of_tree ?_)
  show wpAny _ _ (callAny (.type "set") _) _ _ _
  refine wpAny_pure ⟨Code.quiet_builtin _ (by decide +kernel), codeAny_builtin F.entry_type_call ?_⟩
  rw [Around.under_plain (weight_type_call_type "set" [.ref l] []) rfl]
  have nt := F.called_set.notType
  have cc := F.called_set.canCreate
  have tc := F.typeCall_set_1 (.ref l)
  repeat (any_goals (first | assumption | wp_step))
  refine codeAny_mono (code_set_led1 (.ref l) (E := E) (Q₁ := fun ob s1 => ob = .ref s.heap.objs.size ∧ s1 = { s with heap := s.heap.push (freshSet w) }) ⟨rfl, rfl⟩) fun r s1 hr => ?_
  match r, hr with
  | .error e, hr => exact hr
  | .ok (.ret ob), hr =>
    obtain ⟨rfl, rfl⟩ := hr
    have gS : (s.heap.push (freshSet w)).get? s.heap.objs.size = some (freshSet w) := Heap.get?_push_size _ rfl
    have ty : Shared.TypeIs { s with heap := s.heap.push (freshSet w) } (.ref s.heap.objs.size) "set" := ⟨_, gS, rfl⟩
    have il := F.called_set.init.lookup
    have ib := F.called_set.init.bind (.ref s.heap.objs.size)
    repeat (any_goals (first | assumption | wp_step))
    refine codeAny_mono (codeAny_call_builtin (R := wants (fun r s2 => r = .none ∧ ∃ h' tk L es ep t, s2 = { s with heap := h', toks := tk } ∧ SetTR P w h' s.heap.objs.size L es ep t ∧ Got ks ks.length L ∧ (∀ b o, s.heap.get? b = some o → h'.get? b = some o)) E) F.called_set.init.plain F.entry_set_init (check_set_init_1 ty ?_)) fun r2 s2 hr2 => ?_
    · have ltS : l < s.heap.objs.size := by obtain ⟨_, z, _⟩ := id hl; exact Heap.lt_size z
      obtain ⟨⟨oc, od, odt, osl⟩, ho, hc, nl, hd⟩ := id hl
      simp only at hc hd
      subst hc; subst hd
      have ho' : (s.heap.push (freshSet w)).get? l = some { cls := .type "tuple", dict := od, data := .seq items nl, slots := osl } := Heap.get?_push_of_some _ ho
      have s1 := F.sub_tuple_set
      have s2 := F.sub_tuple_frozenset
      have nd : (Value.type "tuple" == Value.type "dict") = false := by decide
      have il1 : (s.heap.push (freshSet w)).IsTuple l items := ⟨_, ho', rfl, nl, rfl⟩
      unfold Builtin.«set.__init__» noKeywords Builtin.Frozenset.updateFrom
      generalize hPI : pyIter = PI
      wp_walk
      subst hPI
      refine wpAny_pyIter_tuple il1 (wpAny_bind (wpAny_runValue ?_))
      have ha : A.in1.in1.in1.handled = none := by simp [hh]
      have szS : (s.heap.push (freshSet w)).objs.size = s.heap.objs.size + 1 := Heap.size_push ..
      have ne1 : l ≠ (s.heap.push (freshSet w)).objs.size := by rw [szS]; exact Nat.ne_of_lt (Nat.lt_succ_of_lt ltS)
      have nin : s.heap.objs.size ∉ [(s.heap.push (freshSet w)).objs.size, l] := by
        rw [szS]
        intro z
        rcases List.mem_cons.mp z with z | z
        · exact absurd z (Nat.ne_of_lt (Nat.lt_succ_self _))
        · exact absurd (List.mem_singleton.mp z).symm (Nat.ne_of_lt ltS)
      have gone : ∀ b, s.heap.objs.size ≤ b → s.heap.get? b = none := fun b hb => by
        cases q : s.heap.get? b with
        | none => rfl
        | some o => exact absurd (Heap.lt_size q) (Nat.not_lt_of_le hb)
      refine set_update_tups ((Walks.tuple ha (s.heap.push (freshSet w)).objs.size l ne1 items).toS) s.heap.objs.size nin ks isz hfew (fun i v hv => ?_) s.heap hk (gone _ (Nat.le_refl _)) (fun b hb => gone b (by rw [List.mem_singleton.mp hb, szS]; exact Nat.le_succ _)) hu items.size 0 _ (by omega) (Nat.zero_le _)
        ⟨⟨_, Heap.get?_push_size _ rfl, rfl, rfl⟩, il1.at fun o q => Heap.get?_push_of_some _ q⟩ (fun b o e => Heap.get?_push_of_some _ (Heap.get?_push_of_some _ e)) ⟨[], #[], 0, _, setTR_fresh (Heap.get?_push_of_some _ gS), Got.zero ks⟩ fun s' L es ep t hm hS' g' hkp => ?_
      · have q : items.toList[i]? = some v := by rw [Array.getElem?_toList]; exact hv
        rw [hit, List.getElem?_map] at q
        cases hq : ks[i]? with
        | none => rw [hq] at q; cases q
        | some p => rw [hq] at q; exact ⟨p, rfl, (Option.some.inj q).symm⟩
      · obtain ⟨h', g2, d', tk', os'⟩ := s'
        obtain rfl : g2 = s.gens := hm.gens
        obtain rfl : d' = s.drawn := hm.drawn
        obtain rfl : os' = s.os := hm.os
        show wpAny _ _ _ _ _ _
        refine wpAny_pure ?_
        show wpAny _ _ (ret Value.none) _ _ _
        rw [isz] at g'
        exact wpAny_pure ⟨rfl, h', tk', L, es, ep, t, rfl, hS', g', hkp⟩
    · match r2, hr2 with
      | .error e, hr2 => exact hr2
      | .ok (.ret r), hr2 =>
        obtain ⟨rfl, h', tk, L, es, ep, t, rfl, hS', g', hk'⟩ := hr2
        repeat (any_goals (first | assumption | wp_step))
        exact h _ _ _ _ _ _ hS' g' hk'
end
section
variable {X : Cx} {ct : CT} {Wx : WX} {e : Expr} {p p2 pos pos2 : Pos}
/-- set(xs), xs a list or a tuple of tuples of ints -/
def rSetA (K : PySem.W.Frag) (P : Program) (w : World) : List V → Hp → VK → Prop := fun xs H Q => ∃ (l : Addr) (ks : List (Addr × List Int)), xs = [V.ref l] ∧ (SqL K H l (ks.map fun p => V.ref p.1) ∨ SqT K H l (ks.map fun p => V.ref p.1)) ∧ (∀ p ∈ ks, SqT K H p.1 (p.2.map V.int)) ∧ ks.length < 64 ∧
  ∀ a L, H a = none → (∀ p ∈ L, p ∈ ks) → (∀ p ∈ ks, p.2 ∈ L.map (·.2)) → Q (.ref a) (upd H a (SetTO P w a L))
theorem cr_setA (hc : X.calm = true) (hu : X.A.units + 64 < cLine) : CallR X (.type "set") (rSetA X.K X.prog X.w) := by
  intro pins s σ H xs us Q I r ⟨l, ks, ex, hl, hk, hf, q⟩
  rcases hl with hl | hl
  · exact cr_setOfT hc hu pins s σ H xs us Q I r ⟨l, ks, ex, hl, hk, hf, q⟩
  · subst ex
    rw [Vals.ref1 r]
    obtain ⟨its, rv, pl, hz⟩ := I.tuple hl
    refine set_tupT (P := X.prog) (w := X.w) ks (I.ok.hd hc) (show s.heap.IsTuple l its.toArray from pl) (by simpa using refs_of_vals rv) (fun p hp => I.isT (hk p hp)) hf (by omega) fun h' tk L es ep t R g k => ?_
    exact ⟨.ref s.heap.objs.size, upd H s.heap.objs.size (SetTO X.prog X.w s.heap.objs.size L), I.laid (t' := tk) k (Nat.le_refl _) (setTO_new R.t0), rfl, q _ L (I.hok.fresh (Nat.le_refl _)) (fun p hp => List.mem_of_mem_take (g.sub p hp)) fun p hp => g.all p (by rw [List.take_length]; exact hp)⟩
end
end Dl
set_option Elab.async false
set_option linter.all false
set_option maxRecDepth 100000
/-! D13: sorted(set(..)), is None. -/
namespace Dl
open PySem PySem.Spec PyProof.Rows L2
/-- rows of ints -/
def rowsD : List PyData → Option (List (List Int))
  | [] => some []
  | .tuple xs :: r => (intsOf xs).bind fun n => (rowsD r).map (n :: ·)
  | _ :: _ => none
def rowT (ns : List Int) : PyData := .tuple (ns.map .int)
theorem rowsD_eq : ∀ {xs : List PyData} {R : List (List Int)}, rowsD xs = some R → xs = R.map rowT
  | [], R, h => by cases h; rfl
  | x :: r, R, h => by
    cases x with
    | tuple ys =>
      unfold rowsD at h
      cases hy : intsOf ys with
      | none => rw [hy] at h; cases h
      | some n =>
        rw [hy, Option.bind_some] at h
        cases hr : rowsD r with
        | none => rw [hr] at h; cases h
        | some k =>
          rw [hr] at h
          cases h
          rw [rowsD_eq hr, intsOf_eq hy]; rfl
    | _ => cases h
@[simp] theorem rowsD_map : ∀ R : List (List Int), rowsD (R.map rowT) = some R
  | [] => rfl
  | n :: R => by simp [rowsD, rowT, ← List.map_map, rowsD_map R]
/-- in order, each once -/
def insC (B : Int) (x : List Int) : List (List Int) → List (List Int)
  | [] => [x]
  | y :: r => if x = y then y :: r else if TS.code B x ≤ TS.code B y then x :: y :: r else y :: insC B x r
def ssort (B : Int) (R : List (List Int)) : List (List Int) := R.foldr (insC B) []
theorem insC_mem {B : Int} {x z : List Int} : ∀ {R : List (List Int)}, z ∈ insC B x R ↔ z = x ∨ z ∈ R
  | [] => by simp [insC]
  | y :: r => by
    unfold insC
    split
    · rename_i h; subst h; simp
    · split
      · simp
      · rw [List.mem_cons, insC_mem, List.mem_cons]
        constructor
        · rintro (h | h | h) <;> simp [h]
        · rintro (h | h | h) <;> simp [h]
theorem ssort_mem {B : Int} {z : List Int} : ∀ {R : List (List Int)}, z ∈ ssort B R ↔ z ∈ R
  | [] => by simp [ssort]
  | y :: r => by
    show z ∈ insC B y (ssort B r) ↔ _
    rw [insC_mem, ssort_mem, List.mem_cons]
theorem code_bd {B : Int} (hB : 0 < B) : ∀ {r : List Int}, TS.Bd B r → 0 ≤ TS.code B r ∧ TS.code B r < B ^ r.length
  | [], _ => by simp [TS.code]
  | d :: r, h => by
    obtain ⟨a, b⟩ := code_bd hB h.tail
    have := TS.num1 a b h.head.1 h.head.2
    show 0 ≤ d * B ^ r.length + TS.code B r ∧ d * B ^ r.length + TS.code B r < B ^ (r.length + 1)
    rw [Int.pow_succ]
    exact this
theorem code_inj {B : Int} (hB : 0 < B) : ∀ {r t : List Int}, TS.Bd B r → TS.Bd B t → r.length = t.length → TS.code B r = TS.code B t → r = t
  | [], [], _, _, _, _ => rfl
  | [], _ :: _, _, _, h, _ => by simp at h
  | _ :: _, [], _, _, h, _ => by simp at h
  | d :: r, e :: t, h1, h2, hl, hc => by
    have hl' : r.length = t.length := by simpa using hl
    have hc' : d * B ^ r.length + TS.code B r = e * B ^ t.length + TS.code B t := hc
    rw [← hl'] at hc'
    obtain ⟨a1, a2⟩ := code_bd hB h1.tail
    obtain ⟨b1, b2⟩ := code_bd hB h2.tail
    rw [← hl'] at b2
    have hP : 0 < B ^ r.length := by omega
    generalize B ^ r.length = P at *
    have hde : d = e := by
      rcases Int.lt_trichotomy d e with z | z | z
      · have : (d + 1) * P ≤ e * P := Int.mul_le_mul_of_nonneg_right (by omega) (by omega)
        rw [Int.add_mul] at this; omega
      · exact z
      · have : (e + 1) * P ≤ d * P := Int.mul_le_mul_of_nonneg_right (by omega) (by omega)
        rw [Int.add_mul] at this; omega
    subst hde
    rw [code_inj hB h1.tail h2.tail hl' (by omega)]
/-- rows that may be sorted: d ints each, within [0, B) -/
def rowsOk (B : Int) (R : List (List Int)) : Bool := decide (R.length < 64) && R.all fun r => decide (r.length = (R.headD [0]).length) && decide (1 ≤ r.length) && r.all fun m => decide (0 ≤ m ∧ m < B)
theorem insC_pw {B : Int} {x : List Int} : ∀ {R : List (List Int)}, R.Pairwise (fun q r => TS.code B q < TS.code B r) → (∀ y ∈ R, TS.code B x = TS.code B y → x = y) → (insC B x R).Pairwise (fun q r => TS.code B q < TS.code B r)
  | [], _, _ => by simp [insC]
  | y :: r, h, hi => by
    unfold insC
    rw [List.pairwise_cons] at h
    split
    · rw [List.pairwise_cons]; exact h
    · rename_i hne
      split
      · rename_i hle
        have hlt : TS.code B x < TS.code B y := by
          have : TS.code B x ≠ TS.code B y := fun e => hne (hi y (by simp) e)
          omega
        rw [List.pairwise_cons, List.pairwise_cons]
        refine ⟨fun z hz => ?_, h⟩
        rcases List.mem_cons.mp hz with e | hz
        · subst e; exact hlt
        · exact Int.lt_trans hlt (h.1 z hz)
      · rename_i hle
        rw [List.pairwise_cons]
        refine ⟨fun z hz => ?_, insC_pw h.2 fun w hw => hi w (List.mem_cons_of_mem _ hw)⟩
        rcases insC_mem.mp hz with e | hz
        · subst e; omega
        · exact h.1 z hz
theorem ssort_pw {B : Int} : ∀ {R : List (List Int)}, (∀ x ∈ R, ∀ y ∈ R, TS.code B x = TS.code B y → x = y) → (ssort B R).Pairwise (fun q r => TS.code B q < TS.code B r)
  | [], _ => by simp [ssort]
  | y :: r, h => by
    show (insC B y (ssort B r)).Pairwise _
    exact insC_pw (ssort_pw fun x hx z hz => h x (List.mem_cons_of_mem _ hx) z (List.mem_cons_of_mem _ hz)) fun z hz => h y (by simp) z (List.mem_cons_of_mem _ (ssort_mem.mp hz))
/-- two rows in strict order with the same members are one -/
theorem strict_uniq {α : Type} {f : α → Int} : ∀ {l k : List α}, l.Pairwise (fun q r => f q < f r) → k.Pairwise (fun q r => f q < f r) → (∀ z, z ∈ l ↔ z ∈ k) → l = k
  | [], [], _, _, _ => rfl
  | [], y :: k, _, _, h => absurd ((h y).mpr (by simp)) (by simp)
  | x :: l, [], _, _, h => absurd ((h x).mp (by simp)) (by simp)
  | x :: l, y :: k, h1, h2, h => by
    rw [List.pairwise_cons] at h1 h2
    have e : x = y := by
      rcases List.mem_cons.mp ((h x).mp (by simp)) with a | a
      · exact a
      · rcases List.mem_cons.mp ((h y).mpr (by simp)) with b | b
        · exact b.symm
        · have := h2.1 x a; have := h1.1 y b; omega
    subst e
    rw [strict_uniq h1.2 h2.2 fun z => ?_]
    constructor
    · intro hz
      rcases List.mem_cons.mp ((h z).mp (List.mem_cons_of_mem _ hz)) with a | a
      · subst a; have := h1.1 z hz; omega
      · exact a
    · intro hz
      rcases List.mem_cons.mp ((h z).mpr (List.mem_cons_of_mem _ hz)) with a | a
      · subst a; have := h2.1 z hz; omega
      · exact a
def ssetB : Int := 1048576
def ssetD (x : PyData) : Option W := (itemsD x).bind fun xs => (rowsD xs).bind fun R => if rowsOk ssetB R = true then some (.l ((ssort ssetB R).map rowT)) else none
section
variable {X : Cx} {ct : CT} {Wx : WX} {e a b : Expr} {p p2 pos pos2 : Pos}
theorem rows_split {K : PySem.W.Frag} {Fz : Addr → Prop} {H : Hp} : ∀ {R : List (List Int)} {vs : List V}, RpAll K Fz H vs (R.map rowT) → ∃ ks : List (Addr × List Int), vs = ks.map (fun p => V.ref p.1) ∧ ks.map (·.2) = R ∧ ∀ p ∈ ks, SqT K H p.1 (p.2.map V.int)
  | [], vs, h => by cases h; exact ⟨[], rfl, rfl, fun _ z => absurd z List.not_mem_nil⟩
  | n :: R, vs, h => by
    cases h with
    | cons r rs =>
      obtain ⟨ks, e1, e2, e3⟩ := rows_split rs
      cases r with
      | tup hq ra =>
        have := ra.ints
        subst this
        refine ⟨(_, n) :: ks, by rw [e1]; rfl, by rw [← e2]; rfl, fun p hp => ?_⟩
        rcases List.mem_cons.mp hp with e | hp
        · subst e; exact hq
        · exact e3 p hp
def eSset (f : Ms → Rz PyData) : Ms → Rz W := fun m => (f m).bind fun x => ofO (ssetD x)
theorem de_sset {f : Ms → Rz PyData} (hu : X.A.units + 64 < cLine) (ha : DR X ct Wx e f) (hms : X.mg "sorted" = none) (hmt : X.mg "set" = none) (hc : X.calm = true := by rfl) (hgs : Gl X "sorted" := by rfl) (hgt : Gl X "set" := by rfl)
    (h1 : starEach [e] X.env = (false, eval e X.env) :: starEach [] X.env := by rfl)
    (h2 : starEach [.Call (.Name "set" p2) [e] [] pos2] X.env = (false, eval (.Call (.Name "set" p2) [e] [] pos2) X.env) :: starEach [] X.env := by rfl) :
    DE X ct Wx (.Call (.Name "sorted" p) [.Call (.Name "set" p2) [e] [] pos2] [] pos) (eSset f) :=
  ⟨PE_imp (pe_callB (cr_sortedT hc) hgs hms (by decide +kernel) (pa_cons (pe_callTy (cr_setA hc hu) hgt hmt (by decide +kernel) (pa_cons ha.pe pa_nil h1) (by decide) (by decide) h1 (by rfl)) pa_nil h2) (by decide) (by decide) h2 (by rfl)) fun σ H Q ⟨B, Fz, m, h, q⟩ => by
    unfold eSset at q
    refine tR_then h ?_
    cases hf : f m with
    | st => rw [hf] at q; exact q
    | ex c => rw [hf] at q; exact q
    | ok x =>
      intro v H1 F1 x1 r1 l1 s1
      rw [hf, Rz.bind_ok] at q
      have vw := s1.vw r1
      cases hw : ssetD x with
      | none => rw [hw] at q; exact q.elim
      | some wv =>
        rw [hw] at q
        have q : ∀ v H' Fz', Ext B Fz Fz' → rE X.K B Fz' H' σ m v wv → Q v H' := q
        unfold ssetD at hw
        cases hi : itemsD x with
        | none => rw [hi] at hw; cases hw
        | some xs =>
          rw [hi, Option.bind_some] at hw
          cases hr : rowsD xs with
          | none => rw [hr] at hw; cases hw
          | some R =>
            rw [hr, Option.bind_some] at hw
            split at hw
            · rename_i ok
              cases hw
              have ex := rowsD_eq hr
              subst ex
              -- the rows' addresses
              have src : ∃ (l : Addr) (ks : List (Addr × List Int)), v = .ref l ∧ (SqL X.K H1 l (ks.map fun p => V.ref p.1) ∨ SqT X.K H1 l (ks.map fun p => V.ref p.1)) ∧ ks.map (·.2) = R ∧ ∀ p ∈ ks, SqT X.K H1 p.1 (p.2.map V.int) := by
                cases x with
                | list ys =>
                  cases hi
                  obtain ⟨a, vs, rfl, h1, h2⟩ := vw.list
                  obtain ⟨ks, e1, e2, e3⟩ := rows_split h2
                  subst e1
                  exact ⟨a, ks, rfl, .inl (.inl (.inl h1)), e2, e3⟩
                | tuple ys =>
                  cases hi
                  obtain ⟨a, vs, rfl, h1, h2⟩ := vw.tup
                  obtain ⟨ks, e1, e2, e3⟩ := rows_split h2
                  subst e1
                  exact ⟨a, ks, rfl, .inr h1, e2, e3⟩
                | _ => cases hi
              obtain ⟨l, ks, rfl, hl, hR, hk⟩ := src
              unfold rowsOk at ok
              rw [Bool.and_eq_true, decide_eq_true_eq] at ok
              obtain ⟨hn, hall⟩ := ok
              have each : ∀ r ∈ R, r.length = (R.headD [0]).length ∧ 1 ≤ r.length ∧ TS.Bd ssetB r := fun r hr => by
                have z := List.all_eq_true.mp hall r hr
                simp only [Bool.and_eq_true, decide_eq_true_eq, List.all_eq_true] at z
                exact ⟨z.1.1, z.1.2, fun m hm => z.2 m hm⟩
              have hB : (0 : Int) < ssetB := by decide
              have inj : ∀ x ∈ R, ∀ y ∈ R, TS.code ssetB x = TS.code ssetB y → x = y := fun x hx y hy e => code_inj hB (each x hx).2.2 (each y hy).2.2 ((each x hx).1.trans (each y hy).1.symm) e
              have kR : ∀ p ∈ ks, p.2 ∈ R := fun p hp => by rw [← hR]; exact List.mem_map.mpr ⟨p, hp, rfl⟩
              refine ⟨l, ks, rfl, hl, hk, by rw [← hR, List.length_map] at hn; exact hn, fun a L ha hs hall => ?_⟩
              have sm : Same H1 (upd H1 a (SetTO X.prog X.w a L)) := same_new ha
              have d1 : 1 ≤ (R.headD [0]).length := by
                cases R with
                | nil => simp
                | cons y r => exact (each y (by simp)).2.1
              have sq : ∀ p ∈ L, SqT X.K (upd H1 a (SetTO X.prog X.w a L)) p.1 (p.2.map V.int) := fun p hp => sqT_le (Fz := fun _ => False) (Fz' := fun _ => False) ⟨fun _ z => z, fun b o e _ => sm b o e⟩ (hk p (hs p hp))
              refine ⟨a, L, (R.headD [0]).length, ssetB, rfl, upd_same, sq, d1, fun p hp => ⟨(each _ (kR p (hs p hp))).1, (each _ (kR p (hs p hp))).2.2⟩, fun L' b pm nd few pw hb => ?_⟩
              have r2 := (r1.new (o := SetTO X.prog X.w a L) ha)
              have sub : ∀ q ∈ L', q.2 ∈ R := fun q hq => kR q (hs q (pm.mem_iff.mp hq))
              have pw' : (L'.map (·.2)).Pairwise (fun q r => TS.code ssetB q < TS.code ssetB r) := by
                rw [List.pairwise_map]
                have nd' := List.pairwise_map.mp nd
                refine (List.Pairwise.and pw nd').imp_of_mem fun {q r} hq hr hh => ?_
                have : TS.code ssetB q.2 ≠ TS.code ssetB r.2 := fun e => hh.2 (inj _ (sub q hq) _ (sub r hr) e)
                have := hh.1
                omega
              have eq : L'.map (·.2) = ssort ssetB R := strict_uniq pw' (ssort_pw inj) fun z => by
                rw [ssort_mem]
                constructor
                · intro hz
                  obtain ⟨q, hq, e⟩ := List.mem_map.mp hz
                  rw [← e]; exact sub q hq
                · intro hz
                  rw [← hR] at hz
                  obtain ⟨p, hp, e⟩ := List.mem_map.mp hz
                  have := hall p hp
                  rw [e] at this
                  obtain ⟨q, hq, e2⟩ := List.mem_map.mp this
                  exact List.mem_map.mpr ⟨q, pm.mem_iff.mpr hq, e2⟩
              refine q _ _ F1 x1 (r2.newLst hb ?_)
              rw [← eq]
              have all : ∀ L2 : List (Addr × List Int), (∀ q ∈ L2, q ∈ L) → RpAll X.K F1 (upd H1 a (SetTO X.prog X.w a L)) (L2.map fun q => V.ref q.1) ((L2.map (·.2)).map rowT) := fun L2 => by
                induction L2 with
                | nil => intro _; exact .nil
                | cons q L2 ih => exact fun h => .cons (.tup (sq q (h q (by simp))) (RpAll.of_ints _)) (ih fun z hz => h z (List.mem_cons_of_mem _ hz))
              exact all L' fun q hq => pm.mem_iff.mp hq
            · cases hw⟩
/-- is None -/
def isN (x y : PyData) : Option Bool := match y with
  | .none => some (isNoneD x)
  | _ => none
def notN (x y : PyData) : Option Bool := (isN x y).map not
theorem non_iff {K : PySem.W.Frag} {Fz : Addr → Prop} {H : Hp} {v : V} {x : PyData} (h : Vw K Fz H v x) : decide (v = .non) = isNoneD x := by
  cases x with
  | none => rw [h.non]; rfl
  | bool b => rw [h.bool]; rfl
  | int i => rw [h.int]; rfl
  | str s => rw [h.str]; rfl
  | list xs => obtain ⟨a, vs, rfl, _⟩ := h.list; rfl
  | tuple xs => obtain ⟨a, vs, rfl, _⟩ := h.tup; rfl
  | dict xs => cases h.plain
theorem cmpOk_isN {K : PySem.W.Frag} : CmpOk K (fun x y H Q => y = .non ∧ Q (.bl (decide (x = .non))) H) isN := fun {Fz H v u x y b Q} h1 h2 e q => by
  cases y with
  | none =>
    cases e
    refine ⟨h2.non, ?_⟩
    rw [non_iff h1]; exact q
  | _ => cases e
theorem cmpOk_notN {K : PySem.W.Frag} : CmpOk K (fun x y H Q => y = .non ∧ Q (.bl (!decide (x = .non))) H) notN := fun {Fz H v u x y b Q} h1 h2 e q => by
  cases y with
  | none =>
    cases e
    refine ⟨h2.non, ?_⟩
    rw [non_iff h1]; exact q
  | _ => cases e
end
end Dl
set_option Elab.async false
set_option linter.all false
set_option maxRecDepth 100000
/-! D14: xs[::-1]. -/
namespace Dl
open PySem PySem.Spec PyProof.Rows L2
section
variable {prog : Program} {w : World} {A : Around} {E : Value → Shared → Prop} {s : Shared}
theorem adjust_rev (n : Nat) : Builtin.Slice.sliceAdjust none none (-1) (n : Int) = ((n : Int) - 1, -1) := by
  unfold Builtin.Slice.sliceAdjust
  have h1 : ((-1 : Int) < 0) := by omega
  simp only [h1, if_true]
  try rfl
theorem places_rev (n : Nat) : Builtin.Slice.slicePlaces ((n : Int) - 1) (-1) (-1) = n := by
  unfold Builtin.Slice.slicePlaces
  have h1 : ¬ ((-1 : Int) > 0) := by omega
  simp only [h1, if_false]
  split <;> simp <;> omega
theorem sliceApplied_rev {sl : Addr} {vl vu vs : Value} {n : Nat} {Q : Int × Int × Nat → Shared → Prop} (hs : s.heap.IsSliceOf sl vl vu vs) (pl : IsPart vl none) (pu : IsPart vu none) (ps : IsPart vs (some (-1)))
    (h : Q ((n : Int) - 1, -1, n) s) : wpAny (model prog w) A (Builtin.Slice.sliceApplied (.ref sl) (pure (n : Int))) Q E s := by
  obtain ⟨os, hos, hcs, hds⟩ := id hs
  unfold Builtin.Slice.sliceApplied Builtin.Slice.sliceFields
  refine wpAny_bind (wpAny_bind (wpAny_field hos hds (x := vl) rfl (wpAny_bind (wpAny_field hos hds (x := vu) rfl (wpAny_bind (wpAny_field hos hds (x := vs) rfl (wpAny_pure ?_)))))))
  refine wpAny_bind (HT.slicePart_ ps ?_)
  show wpAny _ _ (if ((-1 : Int) == 0) = true then _ else _) _ _ s
  rw [if_neg (by decide)]
  refine wpAny_bind (HT.slicePart_ pl (wpAny_bind (HT.slicePart_ pu (wpAny_bind (wpAny_pure ?_)))))
  show wpAny _ _ (match Builtin.Slice.sliceAdjust none none (-1) (n : Int) with | (lo, hi) => pure (lo, (-1 : Int), Builtin.Slice.slicePlaces lo hi (-1))) _ _ s
  rw [adjust_rev n]
  show wpAny _ _ (pure ((n : Int) - 1, (-1 : Int), Builtin.Slice.slicePlaces ((n : Int) - 1) (-1) (-1))) _ _ s
  rw [places_rev]
  exact wpAny_pure h
theorem filterMap_eq {α β : Type} {f g : α → Option β} : ∀ {l : List α}, (∀ x ∈ l, f x = g x) → l.filterMap f = l.filterMap g
  | [], _ => rfl
  | a :: l, h => by
    rw [List.filterMap_cons, List.filterMap_cons, h a (by simp), filterMap_eq fun x hx => h x (List.mem_cons_of_mem _ hx)]
theorem range_all {α : Type} : ∀ (l : List α), (List.range l.length).filterMap (fun m => l[m]?) = l
  | [] => rfl
  | a :: l => by
    rw [List.length_cons, List.range_succ_eq_map, List.filterMap_cons, List.filterMap_map]
    show a :: (List.range l.length).filterMap ((fun m => (a :: l)[m]?) ∘ Nat.succ) = a :: l
    rw [filterMap_eq (g := fun m => l[m]?) fun x _ => by simp, range_all l]
theorem pick_rev (xs : Array Value) : ((List.range xs.size).filterMap fun (m : Nat) => xs[((xs.size : Int) - 1 + (m : Int) * -1).toNat]?).toArray = xs.toList.reverse.toArray := by
  have h1 : ((List.range xs.size).filterMap fun (m : Nat) => xs[((xs.size : Int) - 1 + (m : Int) * -1).toNat]?) = (List.range xs.size).filterMap fun m => xs.toList.reverse[m]? := by
    apply filterMap_eq
    intro m hm
    have hlt := List.mem_range.mp hm
    rw [List.getElem?_reverse (by simpa using hlt), Array.length_toList, Array.getElem?_toList]
    congr 1
    omega
  have := range_all xs.toList.reverse
  rw [List.length_reverse, Array.length_toList] at this
  rw [h1, this]
theorem getItem_tuple_rev {t sl : Addr} {items : Array Value} {vl vu vs : Value} {Q : Value → Shared → Prop} (ht : IsTup s.heap t items) (hs : s.heap.IsSliceOf sl vl vu vs) (pl : IsPart vl none) (pu : IsPart vu none) (ps : IsPart vs (some (-1)))
    (h : Q (.ref s.heap.objs.size) { s with heap := s.heap.push { cls := .type "tuple", data := .seq items.toList.reverse.toArray } }) (hsz : items.size ≤ sizeLine) : wpAny (model prog w) A (getItem (.ref t) (.ref sl)) Q E s := by
  have ok : sizeOk (.seq items.toList.reverse.toArray) := by
    show items.toList.reverse.toArray.size ≤ sizeLine
    rw [List.size_toArray, List.length_reverse, Array.length_toList]
    exact hsz
  obtain ⟨os, hos, hcs, hds⟩ := id hs
  have ty : s.TypeIs (.ref sl) "slice" := ⟨os, hos, hcs⟩
  unfold getItem
  try with_reducible refine wpAny_holding ?_
  first | refine wpAny_bind (wpAny_pure ?_) | skip
  refine wpAny_bind (wpAny_sequenceKey ht.typeIs (by decide) (wpAny_bind (wpAny_callSpecial?_slot (name := Str.ofString "__getitem__") ht.typeIs PyProof.Rows.slot_tuple_getitem (wpAny_call_entry PyProof.Rows.slot_tuple_getitem ht.typeIs entry_tuple_getitem ?_ (args_tuple_getitem _ _)))))
  show wpAny _ _ (Builtin.Tuple.tupleItemsOf (.ref t) >>= _) _ _ s
  refine wpAny_bind (tupleItemsOf_ ht (wpAny_bind (wpAny_typeOf ty ?_)))
  rw [if_pos (by decide)]
  refine wpAny_bind (sliceApplied_rev hs pl pu ps ?_)
  show wpAny _ _ (if (((items.size : Int) - 1) == 0 && (-1 : Int) == 1 && items.size == items.size) = true then _ else _) _ _ s
  rw [if_neg (by simp), pick_rev]
  first
    | exact wpAny_bind (m := Builtin.Tuple.tupleExact _) (wpAny_newObj_type (wpAny_pure ⟨_, rfl, wpAny_pure h⟩) ok)
    | exact wpAny_bind (m := Builtin.Tuple.tupleExact _) (wpAny_newObj_type (wpAny_bind (wpAny_pure (wpAny_pure ⟨_, rfl, wpAny_pure h⟩))) ok)
    | exact wpAny_bind (wpAny_bind (m := Builtin.Tuple.tupleExact _) (wpAny_newObj_type (wpAny_pure (wpAny_pure ⟨_, rfl, wpAny_pure h⟩)) ok))
    | exact wpAny_bind (wpAny_bind (m := Builtin.Tuple.tupleExact _) (wpAny_newObj_type (wpAny_pure ⟨_, rfl, wpAny_pure h⟩) ok))
end
section
variable {X : Cx} {ct : CT} {Wx : WX} {e a b : Expr} {p p2 pos pos2 : Pos}
/-- e[::-1] -/
def tRevA (K : PySem.W.Frag) (te : TE) : TE := fun σ H Q => te σ H fun x H1 => ∃ a xs, x = .ref a ∧ ((SqL K H1 a xs ∧ ∀ p, H1 p = none → Q (.ref p) (upd H1 p (.lst xs.reverse))) ∨ (SqT K H1 a xs ∧ ∀ p, H1 p = none → Q (.ref p) (upd H1 p (.tup xs.reverse))))
theorem pe_revA {te : TE} {k : Nat} {p1 p2 p3 : Pos} (he : PE X e te) : PE X (.Subscript e (.Slice none none (some (.UnaryOp .USub (.Constant (.int 1) k p1) p2)) p3) pos) (tRevA X.K te) := by
  refine ⟨fun pins s σ H Q I h => ?_⟩
  refine Subscript_ (thn (he.run pins s σ H _ I h) fun v s1 ⟨x, H1, I1, r1, a, xs, ex, q⟩ => ?_)
  subst ex
  cases r1
  refine wpAny_Slice (thn (po_none.run pins s1 σ H1 (fun o H2 => o = none ∧ H2 = H1) I1 ⟨rfl, rfl⟩) fun vl s2 ⟨l, H2, I2, pl, el, e2⟩ => ?_)
  subst el e2
  refine thn (po_none.run pins s2 σ H2 (fun o H3 => o = none ∧ H3 = H2) I2 ⟨rfl, rfl⟩) fun vu s3 ⟨u, H3, I3, pu, eu, e3⟩ => ?_
  subst eu e3
  refine thn ((po_some (pe_un un_neg pe_int)).run pins s3 σ H3 (fun o H4 => o = some (-1) ∧ H4 = H3) I3 ⟨1, rfl, -1, rfl, rfl, rfl⟩) fun vs s4 ⟨o, H4, I4, ps, eo, e4⟩ => ?_
  subst eo e4
  have I5 : Inv X pins σ H4 { s4 with heap := s4.heap.push { cls := .type "slice", data := .fields #[vl, vu, vs] } } := I4.kept (t' := s4.toks) fun b ob q => Heap.get?_push_of_some _ q
  show wpAny (model X.prog X.w) X.A (subscriptTail e (.Slice none none (some (.UnaryOp .USub (.Constant (.int 1) k p1) p2)) p3) (.ref a) (.ref s4.heap.objs.size)) (EP X pins σ Q) X.xe { s4 with heap := s4.heap.push { cls := .type "slice", data := .fields #[vl, vu, vs] } }
  rcases q with ⟨hx, q⟩ | ⟨hx, q⟩
  · obtain ⟨its, r, ht, hz⟩ := I5.list hx
    have hlen := r.length
    refine tail_any (ops := [.ref a, .ref s4.heap.objs.size]) ht.isList.typeIs (PySem.slot_list_getitem.lookup) ?_ (by with_unfolding_all rfl)
    refine wpAny_getItem_list_slice ht.isList (Heap.IsSliceOf.new _ vl vu vs) pl pu ps (by decide) ?_ (by rw [List.size_toArray]; omega)
    rw [PySem.W.krv_pick]
    exact ⟨.ref _, _, I5.laid (t' := s4.toks) (o := .lst xs.reverse) (fun b ob q => Heap.get?_push_of_some _ q) (Nat.le_refl _) ⟨by rw [List.length_reverse]; exact hz, _, 0, r.reverse, Heap.get?_push_size _ rfl⟩, rfl, q _ (I5.hok.fresh (Nat.le_refl _))⟩
  · obtain ⟨its, r, ht, hz⟩ := I5.tuple hx
    have hlen := r.length
    refine tail_any (ops := [.ref a, .ref s4.heap.objs.size]) ht.typeIs (PyProof.Rows.slot_tuple_getitem.lookup) ?_ (by with_unfolding_all rfl)
    refine getItem_tuple_rev ht (Heap.IsSliceOf.new _ vl vu vs) pl pu ps ?_ (by rw [List.size_toArray]; omega)
    exact ⟨.ref _, _, I5.laid (t' := s4.toks) (o := .tup xs.reverse) (fun b ob q => Heap.get?_push_of_some _ q) (Nat.le_refl _) ⟨by rw [List.length_reverse]; exact hz, _, r.reverse, ⟨_, Heap.get?_push_size _ rfl, rfl, _, rfl⟩⟩, rfl, q _ (I5.hok.fresh (Nat.le_refl _))⟩
def revD (x : PyData) : Option W := match x with
  | .list xs => some (.l xs.reverse)
  | .tuple xs => some (.d (.tuple xs.reverse))
  | _ => none
def eRev (f : Ms → Rz PyData) : Ms → Rz W := fun m => (f m).bind fun x => ofO (revD x)
theorem de_rev {f : Ms → Rz PyData} {k : Nat} {p1 p2 p3 : Pos} (he : DR X ct Wx e f) : DE X ct Wx (.Subscript e (.Slice none none (some (.UnaryOp .USub (.Constant (.int 1) k p1) p2)) p3) pos) (eRev f) := ⟨PE_imp (pe_revA he.pe) fun σ H Q ⟨B, Fz, m, h, q⟩ => by
  unfold eRev at q
  refine tR_then h ?_
  cases hf : f m with
  | st => rw [hf] at q; exact q
  | ex c => rw [hf] at q; exact q
  | ok x =>
    intro v H1 F1 x1 r1 l1 s1
    rw [hf, Rz.bind_ok] at q
    have vw := s1.vw r1
    cases x with
    | list xs =>
      obtain ⟨a, vs, rfl, h1, h2⟩ := vw.list
      exact ⟨a, vs, rfl, .inl ⟨.inl (.inl h1), fun p hp => q _ _ F1 x1 (r1.newLst hp h2.reverse)⟩⟩
    | tuple xs =>
      obtain ⟨a, vs, rfl, h1, h2⟩ := vw.tup
      exact ⟨a, vs, rfl, .inr ⟨h1, fun p hp => q _ _ F1 x1 (r1.newTup hp h2.reverse)⟩⟩
    | _ => exact q.elim⟩
end
end Dl
set_option Elab.async false
set_option linter.all false
set_option maxRecDepth 100000
/-! D15: odds and ends for the printed text. -/
namespace Dl
open PySem PySem.Spec PyProof.Rows L2
/-- a slot's own list is given up behind a statement -/
def sPost (i : Nat) (g : Ms → Fl) : Ms → Fl := fun m => match g m with
  | .nx m' => .nx (frzAt i m')
  | o => o
theorem ds_post {X : Cx} {ct : CT} {Wx : WX} {st : Stmt} {g : Ms → Fl} (i : Nat) (h : DS X ct Wx st g) : DS X ct Wx st (sPost i g) := ds_of h.ps fun D σ H B Fz m r q => by
  refine tS_iff.mpr ⟨B, Fz, m, r, ?_⟩
  unfold sPost at q
  cases hg : g m with
  | nx m' =>
    rw [hg] at q
    have q : ∀ σ' H' Fz', Ext B Fz Fz' → Rs X.K B Fz' H' σ' (frzAt i m') → D.nx σ' H' := q
    intro σ' H' F' x r'
    have e0 : EndS X.K ct Wx B F' { nx := fun _ _ => True, rt := fun _ _ => True } (.nx m') := fun _ _ _ _ _ => trivial
    obtain ⟨F2, r2, _⟩ := frz_end (X := X) (ct := ct) (Wx := Wx) (i := i) r' e0
    unfold frzAt at r2 q
    split at r2
    · rename_i xs e
      obtain ⟨F3, x3, r3⟩ := r'.frzAt i e
      exact q σ' H' F3 (x.trans x3) (by rw [e]; exact r3)
    · rename_i e
      refine q σ' H' F' x ?_
      split
      · rename_i xs e2; exact absurd e2 (e xs)
      · exact r'
  | _ => rw [hg] at q; exact q
/-- the address of an own class -/
def ctA (ct : CT) (c : Nat) : Addr := match ct c with
  | .ref a => a
  | _ => 0
/-- classes by their addresses -/
def ctL (l : List Addr) : CT := fun n => match l[n]? with
  | some a => .ref a
  | none => .none
theorem room_u {k : Nat} {A : Around} (r : Room k A) (n : Nat) (h : n ≤ 199) : A.units + n < cLine := by
  have := r.un
  omega
end Dl
set_option Elab.async false
set_option linter.all false
set_option maxRecDepth 100000
/-! D16: reckoning with the mirror. -/
namespace Dl
open PySem PySem.Spec PyProof.Rows L2
section
variable {m : Ms} {f g h : Ms → Rz PyData} {i j : Int} {x y z : PyData} {xs ys : List PyData} {fw : Ms → Rz W} {b c : Bool}
@[simp] theorem toV_s : toV fw m = (fw m).bind fun w => match w with | .d x => .ok x | .l xs => .ok (.list xs) | .r _ => .st := rfl
@[simp] theorem ofV_s : ofV f m = (f m).map W.d := rfl
@[simp] theorem vVar_s {i : Nat} : vVar i m = match m[i]? with | some (some (.d x)) => .ok x | _ => .st := rfl
@[simp] theorem rVar_s {i : Nat} : rVar i m = match m[i]? with | some (some (.d x)) => .ok x | some (some (.l xs)) => .ok (.list xs) | _ => .st := rfl
@[simp] theorem vC_s : vC x m = .ok x := rfl
@[simp] theorem e2_s {k : PyData → PyData → Option W} : e2 k f g m = (f m).bind fun x => (g m).bind fun y => ofO (k x y) := rfl
@[simp] theorem e1_s {k : PyData → Option W} : e1 k f m = (f m).bind fun x => ofO (k x) := rfl
@[simp] theorem ofO_some' {α : Type} {a : α} : ofO (some a) = .ok a := rfl
@[simp] theorem eCall_s {k : List PyData → Option W} {fs : List (Ms → Rz PyData)} : eCall k fs m = (evalAllD fs m).bind fun xs => ofO (k xs) := rfl
@[simp] theorem evalAll_nil : evalAllD [] m = .ok [] := rfl
@[simp] theorem evalAll_cons {fs : List (Ms → Rz PyData)} : evalAllD (f :: fs) m = (f m).bind fun x => (evalAllD fs m).bind fun xs => .ok (x :: xs) := rfl
@[simp] theorem g1_s {k : PyData → Option W} : g1 k [x] = k x := rfl
@[simp] theorem g12_1 {k : PyData → Option W} {k2 : PyData → PyData → Option W} : g12 k k2 [x] = k x := rfl
@[simp] theorem g12_2 {k : PyData → Option W} {k2 : PyData → PyData → Option W} : g12 k k2 [x, y] = k2 x y := rfl
@[simp] theorem boolD_s : boolD (.bool b) = .ok b := rfl
@[simp] theorem vNot_s : vNot f m = (f m).bind fun x => (boolD x).map fun b => .bool (!b) := rfl
@[simp] theorem vAnd_s : vAnd f g m = (f m).bind fun x => (boolD x).bind fun b => if b = true then g m else .ok (.bool false) := rfl
@[simp] theorem vOr_s : vOr f g m = (f m).bind fun x => (boolD x).bind fun b => if b = true then .ok (.bool true) else g m := rfl
@[simp] theorem vIf_s {t : Ms → Rz Bool} : vIf t f g m = (t m).bind fun b => if b = true then f m else g m := rfl
@[simp] theorem v2_s {k : PyData → PyData → Option Bool} : v2 k f g m = (t2 k f g m).map .bool := rfl
@[simp] theorem t2_s {k : PyData → PyData → Option Bool} : t2 k f g m = (f m).bind fun x => (g m).bind fun y => ofO (k x y) := rfl
@[simp] theorem v3_s {k k2 : PyData → PyData → Option Bool} : v3 k k2 f g h m = (t3 k k2 f g h m).map .bool := rfl
@[simp] theorem t3_s {k k2 : PyData → PyData → Option Bool} : t3 k k2 f g h m = (f m).bind fun x => (g m).bind fun y => (ofO (k x y)).bind fun b => if b = true then (h m).bind fun z => ofO (k2 y z) else .ok false := rfl
@[simp] theorem tNot_s {t : Ms → Rz Bool} : tNot' t m = (t m).map not := rfl
@[simp] theorem tAnd_s {t u : Ms → Rz Bool} : tAnd' t u m = (t m).bind fun b => if b = true then u m else .ok false := rfl
@[simp] theorem tOr_s {t u : Ms → Rz Bool} : tOr' t u m = (t m).bind fun b => if b = true then .ok true else u m := rfl
@[simp] theorem tV_s : tV' f m = (f m).bind boolD := rfl
@[simp] theorem vIsi_s {k : PyData → Bool} : vIsi k f m = (f m).map fun x => .bool (k x) := rfl
@[simp] theorem eTup_s {fs : List (Ms → Rz PyData)} : eTup fs m = (evalAllD fs m).map .tuple := rfl
@[simp] theorem eLst_s {fs : List (Ms → Rz PyData)} : eLst fs m = (evalAllD fs m).map .l := rfl
@[simp] theorem eSl_s {l u : Ms → Rz (Option Int)} : eSl f l u m = (f m).bind fun x => (l m).bind fun lo => (u m).bind fun hi => ofO (slD x lo hi) := rfl
@[simp] theorem oNone_s : oNone m = .ok none := rfl
@[simp] theorem oSome_s : oSome f m = (f m).bind fun x => (intD x).map some := rfl
@[simp] theorem intD_s : intD (.int i) = .ok i := rfl
@[simp] theorem slD_l {lo hi : Option Int} : slD (.list xs) lo hi = some (.l (cutL xs lo hi)) := rfl
@[simp] theorem slD_t {lo hi : Option Int} : slD (.tuple xs) lo hi = some (.d (.tuple (cutL xs lo hi))) := rfl
@[simp] theorem eRev_s : eRev f m = (f m).bind fun x => ofO (revD x) := rfl
@[simp] theorem revD_l : revD (.list xs) = some (.l xs.reverse) := rfl
@[simp] theorem revD_t : revD (.tuple xs) = some (.d (.tuple xs.reverse)) := rfl
@[simp] theorem iSeq_s : iSeq f m = (f m).bind itemsOf := rfl
@[simp] theorem itemsOf_l : itemsOf (.list xs) = .ok xs := rfl
@[simp] theorem itemsOf_t : itemsOf (.tuple xs) = .ok xs := rfl
@[simp] theorem iArg_s {k : List PyData → Rz (List PyData)} {fs : List (Ms → Rz PyData)} : iArg k fs m = (evalAllD fs m).bind k := rfl
@[simp] theorem enumD_l : enumD [.list xs] = .ok (enumFrom 0 xs) := rfl
@[simp] theorem enumD_t : enumD [.tuple xs] = .ok (enumFrom 0 xs) := rfl
@[simp] theorem zipD_l : zipD [.list xs, .list ys] = .ok (zipL xs ys) := rfl
@[simp] theorem zipD_t : zipD [.tuple xs, .tuple ys] = .ok (zipL xs ys) := rfl
@[simp] theorem lenD_l : lenD (.list xs) = some (.d (.int xs.length)) := rfl
@[simp] theorem lenD_t : lenD (.tuple xs) = some (.d (.int xs.length)) := rfl
@[simp] theorem isInt_i : isInt (.int i) = true := rfl
@[simp] theorem isInt_b : isInt (.bool b) = true := rfl
@[simp] theorem isInt_n : isInt .none = false := rfl
@[simp] theorem isInt_s {s : Str} : isInt (.str s) = false := rfl
@[simp] theorem isInt_l : isInt (.list xs) = false := rfl
@[simp] theorem isInt_t : isInt (.tuple xs) = false := rfl
@[simp] theorem isInt_d {ds : List (PyData × PyData)} : isInt (.dict ds) = false := rfl
@[simp] theorem isBool_i : isBool (.int i) = false := rfl
@[simp] theorem isBool_b : isBool (.bool b) = true := rfl
@[simp] theorem isTup_i : isTup (.int i) = false := rfl
@[simp] theorem isTup_b : isTup (.bool b) = false := rfl
@[simp] theorem isTup_n : isTup .none = false := rfl
@[simp] theorem isTup_s {s : Str} : isTup (.str s) = false := rfl
@[simp] theorem isTup_l : isTup (.list xs) = false := rfl
@[simp] theorem isTup_t : isTup (.tuple xs) = true := rfl
@[simp] theorem isTup_d {ds : List (PyData × PyData)} : isTup (.dict ds) = false := rfl
@[simp] theorem tupleD_l : tupleD (.list xs) = some (.d (.tuple xs)) := rfl
@[simp] theorem tupleD_t : tupleD (.tuple xs) = some (.d (.tuple xs)) := rfl
@[simp] theorem listD_l : listD (.list xs) = some (.l xs) := rfl
@[simp] theorem listD_t : listD (.tuple xs) = some (.l xs) := rfl
@[simp] theorem absD_i : absD (.int i) = some (.d (.int (if i < 0 then -i else i))) := rfl
@[simp] theorem toIntD_i : toIntD (.int i) = some (.d (.int i)) := rfl
@[simp] theorem min2_i : min2D (.int i) (.int j) = some (.d (.int (min i j))) := rfl
@[simp] theorem neg_i : negD (.int i) = some (.d (.int (-i))) := rfl
@[simp] theorem add_i : addD (.int i) (.int j) = some (.d (.int (i + j))) := rfl
@[simp] theorem add_t : addD (.tuple xs) (.tuple ys) = if xs.length + ys.length ≤ 16000000 then some (.d (.tuple (xs ++ ys))) else none := rfl
@[simp] theorem add_l : addD (.list xs) (.list ys) = if xs.length + ys.length ≤ 16000000 then some (.l (xs ++ ys)) else none := rfl
@[simp] theorem sub_i : subD (.int i) (.int j) = some (.d (.int (i - j))) := rfl
@[simp] theorem mul_i : mulD (.int i) (.int j) = if smallI i ∨ smallI j then some (.d (.int (i * j))) else none := rfl
@[simp] theorem div_i : divD (.int i) (.int j) = if 0 < j ∧ j < 1073741824 then some (.d (.int (i / j))) else none := rfl
@[simp] theorem mod_i : modD (.int i) (.int j) = if 0 < j then some (.d (.int (i % j))) else none := rfl
@[simp] theorem lt_i : ltD (.int i) (.int j) = some (decide (i < j)) := rfl
@[simp] theorem gt_i : gtD (.int i) (.int j) = some (decide (j < i)) := rfl
@[simp] theorem le_i : leD (.int i) (.int j) = some (!decide (j < i)) := rfl
@[simp] theorem ge_i : geD (.int i) (.int j) = some (!decide (i < j)) := rfl
@[simp] theorem eq_i : eqD (.int i) (.int j) = some (i == j) := by simp [eqD, PyData.depth, PyData.eqv]
@[simp] theorem ne_i : neD (.int i) (.int j) = some (!(i == j)) := by simp [neD, PyData.depth, PyData.eqv]
@[simp] theorem eq_b : eqD (.bool b) (.bool c) = some (b == c) := by simp [eqD, PyData.depth, PyData.eqv]
@[simp] theorem ne_b : neD (.bool b) (.bool c) = some (!(b == c)) := by simp [neD, PyData.depth, PyData.eqv]
@[simp] theorem ix_t : ixD (.tuple xs) (.int i) = (atI xs i).map .d := rfl
@[simp] theorem ix_l : ixD (.list xs) (.int i) = (atI xs i).map .d := rfl
theorem atI_nat {α : Type} {l : List α} {n : Nat} : atI l (n : Int) = l[n]? := by
  unfold atI ixN
  rw [if_pos (by omega)]
  by_cases h : n < l.length
  · rw [if_pos (by omega)]; simp
  · rw [if_neg (by omega)]; simp [List.getElem?_eq_none (Nat.le_of_not_lt h)]
theorem atI_int {α : Type} {l : List α} {i : Int} (h : 0 ≤ i) : atI l i = l[i.toNat]? := by
  obtain ⟨n, rfl⟩ := Int.eq_ofNat_of_zero_le h
  simpa using atI_nat
@[simp] theorem atI_0 {α : Type} {l : List α} : atI l 0 = l[0]? := atI_nat (n := 0)
@[simp] theorem atI_1 {α : Type} {l : List α} : atI l 1 = l[1]? := atI_nat (n := 1)
@[simp] theorem atI_2 {α : Type} {l : List α} : atI l 2 = l[2]? := atI_nat (n := 2)
@[simp] theorem isN_n : isN x .none = some (isNoneD x) := rfl
@[simp] theorem vFn_s {F : Ms → Rz PyData} {fs : List (Ms → Rz PyData)} : vFn F fs m = (evalAllD fs m).bind fun xs => F (xs.map fun x => some (.d x)) := rfl
@[simp] theorem rz_map_ok {α β : Type} {k : α → β} {a : α} : Rz.map k (.ok a) = .ok (k a) := rfl
/-! statements -/
variable {s t : Ms → Fl} {u : Ms → Rz Bool}
@[simp] theorem sNil_s : sNil m = .nx m := rfl
@[simp] theorem sSeq_s : sSeq s t m = match s m with | .nx m' => t m' | r => r := by simp only [sSeq] <;> cases s m <;> rfl
@[simp] theorem sSet_s {i : Nat} : sSet i fw m = match fw m with | .st => .st | .ok w => (if i < m.length then .nx (m.set i (some w)) else .st) | .ex c => .ex c m := by simp only [sSet, flE] <;> cases fw m <;> rfl
@[simp] theorem sIf_s : sIf u s t m = match u m with | .st => .st | .ok b => (if b = true then s m else t m) | .ex c => .ex c m := by simp only [sIf, flE] <;> cases u m <;> rfl
@[simp] theorem sRet_s : sRet f m = match f m with | .st => .st | .ok x => .rt x | .ex c => .ex c m := by simp only [sRet, flE] <;> cases f m <;> rfl
@[simp] theorem sExpr_s : sExpr f m = match f m with | .st => .st | .ok _ => .nx m | .ex c => .ex c m := by simp only [sExpr, flE] <;> cases f m <;> rfl
@[simp] theorem sRaise_s {c : Nat} : sRaise c m = .ex c m := rfl
@[simp] theorem sAsg_s {k : PyData → Ms → Option Ms} : sAsg f k m = match f m with | .st => .st | .ok x => (match k x m with | some m' => .nx m' | none => .st) | .ex c => .ex c m := by simp only [sAsg, flE] <;> cases f m <;> rfl
@[simp] theorem gSet_s {i : Nat} : gSet i x m = if i < m.length then some (m.set i (some (.d x))) else none := rfl
@[simp] theorem gCons_s {k : PyData → Ms → Option Ms} {l : List PyData → Ms → Option Ms} : gCons k l (x :: xs) m = (k x m).bind fun m' => l xs m' := rfl
@[simp] theorem gNil_s : gNil [] m = some m := rfl
@[simp] theorem gTup_s {n : Nat} {l : List PyData → Ms → Option Ms} : gTup' n l (.tuple xs) m = if xs.length = n then l xs m else none := rfl
@[simp] theorem sFor_s {k : Ms → Rz (List PyData)} {l : PyData → Ms → Option Ms} : sFor k l s m = match k m with | .st => .st | .ok xs => goFor l s xs m | .ex c => .ex c m := by simp only [sFor, flE] <;> cases k m <;> rfl
@[simp] theorem sApp_s {i : Nat} : sApp i f m = match lAt i m with | some xs => (match f m with | .st => .st | .ok x => (if xs.length < 16777216 then .nx (m.set i (some (.l (xs ++ [x])))) else .st) | .ex c => .ex c m) | none => .st := by simp only [sApp, flE] <;> cases lAt i m <;> cases f m <;> rfl
@[simp] theorem sPost_s {i : Nat} : sPost i s m = match s m with | .nx m' => .nx (frzAt i m') | o => o := by simp only [sPost] <;> cases s m <;> rfl
@[simp] theorem fnW_s {N : Nat} : fnW N s m = match s (m ++ List.replicate (N - m.length) none) with | .nx _ => .ok .none | .rt x => .ok x | .ex c _ => .ex c | _ => .st := by simp only [fnW] <;> cases s (m ++ List.replicate (N - m.length) none) <;> rfl
end
/-! comprehensions -/
theorem goLc_eq {s : PyData → Ms → Option Ms} {t : Ms → Rz Bool} {e : Ms → Rz PyData} {m : Ms} (M : PyData → Ms) (p : PyData → Bool) (g : PyData → PyData) : ∀ xs : List PyData, (∀ x ∈ xs, s x m = some (M x) ∧ t (M x) = .ok (p x) ∧ (p x = true → e (M x) = .ok (g x))) →
    goLc s t e m xs = .ok ((xs.filter p).map g)
  | [], _ => rfl
  | x :: r, h => by
    obtain ⟨h1, h2, h3⟩ := h x (by simp)
    have ih := goLc_eq M p g r fun y hy => h y (List.mem_cons_of_mem _ hy)
    unfold goLc
    rw [h1]
    dsimp only
    rw [h2]
    cases hp : p x with
    | false => dsimp only; rw [ih, List.filter_cons_of_neg (by simp [hp])]
    | true => dsimp only; rw [h3 hp, ih, List.filter_cons_of_pos hp]; rfl
theorem goLc_map {s : PyData → Ms → Option Ms} {e : Ms → Rz PyData} {m : Ms} (M : PyData → Ms) (g : PyData → PyData) (xs : List PyData) (h : ∀ x ∈ xs, s x m = some (M x) ∧ e (M x) = .ok (g x)) : goLc s (fun _ => .ok true) e m xs = .ok (xs.map g) := by
  rw [goLc_eq M (fun _ => true) g xs fun x hx => ⟨(h x hx).1, rfl, fun _ => (h x hx).2⟩]
  rw [List.filter_eq_self.mpr fun _ _ => rfl]
theorem eLc_ok {vs : List Nat} {f : Ms → Rz (List PyData)} {s : PyData → Ms → Option Ms} {t : Ms → Rz Bool} {e : Ms → Rz PyData} {m : Ms} {xs ys : List PyData} (hw : wipeOk vs m = true) (hf : f m = .ok xs) (hg : goLc s t e (wipeM m vs) xs = .ok ys) :
    eLc vs f s t e m = .ok (.l ys) := by
  unfold eLc
  rw [if_pos hw, hf, Rz.bind_ok, hg]
  rfl
@[simp] theorem boolsOf_map' {α : Type} (g : α → Bool) : ∀ xs : List α, boolsOf (xs.map fun x => .bool (g x)) = some (xs.map g)
  | [] => rfl
  | x :: r => by rw [List.map_cons, boolsOf, boolsOf_map' g r]; rfl
@[simp] theorem allD_map {α : Type} (g : α → Bool) (xs : List α) : allD (.list (xs.map fun x => .bool (g x))) = some (.d (.bool (xs.all g))) := by
  show (boolsOf _).map _ = _
  rw [boolsOf_map', Option.map_some, List.all_map]
  rfl
@[simp] theorem anyD_map {α : Type} (g : α → Bool) (xs : List α) : anyD (.list (xs.map fun x => .bool (g x))) = some (.d (.bool (xs.any g))) := by
  show (boolsOf _).map _ = _
  rw [boolsOf_map', Option.map_some, List.any_map]
  rfl
@[simp] theorem boolsOf_nil : boolsOf [] = some [] := rfl
@[simp] theorem boolsOf_cons {b : Bool} {r : List PyData} : boolsOf (.bool b :: r) = (boolsOf r).map (b :: ·) := rfl
@[simp] theorem allD_c {b : Bool} {r : List PyData} : allD (.list (.bool b :: r)) = (boolsOf (.bool b :: r)).map fun bs => .d (.bool (bs.all id)) := rfl
@[simp] theorem allD_n : allD (.list []) = some (.d (.bool true)) := rfl
@[simp] theorem anyD_c {b : Bool} {r : List PyData} : anyD (.list (.bool b :: r)) = (boolsOf (.bool b :: r)).map fun bs => .d (.bool (bs.any id)) := rfl
@[simp] theorem anyD_n : anyD (.list []) = some (.d (.bool false)) := rfl
/-! loops -/
theorem goFor_inv {s : PyData → Ms → Option Ms} {b : Ms → Fl} (P : Nat → Ms → Prop) : ∀ (xs : List PyData) (k : Nat) (m : Ms), P k m → (∀ i x m, xs[i]? = some x → P (k + i) m → ∃ m1, s x m = some m1 ∧ ∃ m2, b m1 = .nx m2 ∧ P (k + i + 1) m2) → ∃ m', goFor s b xs m = .nx m' ∧ P (k + xs.length) m'
  | [], k, m, h, _ => ⟨m, rfl, h⟩
  | x :: r, k, m, h, st => by
    obtain ⟨m1, h1, m2, h2, h3⟩ := st 0 x m rfl h
    obtain ⟨m', h4, h5⟩ := goFor_inv P r (k + 1) m2 h3 fun i y m hy hp => by
      have e : k + 1 + i = k + (i + 1) := by omega
      rw [e] at hp ⊢
      exact st (i + 1) y m (by simpa using hy) hp
    refine ⟨m', ?_, ?_⟩
    · unfold goFor
      rw [h1]
      dsimp only
      rw [h2]
      exact h4
    · have e : k + (x :: r).length = k + 1 + r.length := by rw [List.length_cons]; omega
      rw [e]; exact h5
end Dl
set_option Elab.async false
set_option linter.all false
set_option maxRecDepth 100000
namespace Dl
open PySem PySem.Spec PyProof.Rows L2
/-! printed by gen.py -/
noncomputable section
def topS (i : Nat) : Stmt := PySem.Challenge.pw_bakewright_k49_rules_of_boxes.main.body.getD i (.Pass ⟨0, 0, 0, 0⟩)
abbrev s__law_draws : Stmt := topS 29
abbrev N__law_draws : List Str := ["script", "many", "draws", "seed", "cell", "k", "number"]
theorem sc__law_draws : FnScope N__law_draws ["script", "many"] (defScope s__law_draws) := ⟨rfl, rfl, rfl, by decide +kernel, rfl, by decide +kernel, by decide +kernel⟩
abbrev s__law_rules : Stmt := topS 30
abbrev N__law_rules : List Str := ["draws", "kinds", "bounds", "k", "pairs", "one", "least", "two"]
theorem sc__law_rules : FnScope N__law_rules ["draws"] (defScope s__law_rules) := ⟨rfl, rfl, rfl, by decide +kernel, rfl, by decide +kernel, by decide +kernel⟩
abbrev s__law_is_number : Stmt := topS 32
abbrev N__law_is_number : List Str := ["value", "least", "most"]
theorem sc__law_is_number : FnScope N__law_is_number ["value", "least", "most"] (defScope s__law_is_number) := ⟨rfl, rfl, rfl, by decide +kernel, rfl, by decide +kernel, by decide +kernel⟩
abbrev s__law_are_rules : Stmt := topS 33
abbrev N__law_are_rules : List Str := ["value", "one", "kind"]
theorem sc__law_are_rules : FnScope N__law_are_rules ["value"] (defScope s__law_are_rules) := ⟨rfl, rfl, rfl, by decide +kernel, rfl, by decide +kernel, by decide +kernel⟩
abbrev s_is_whole : Stmt := topS 6
abbrev N_is_whole : List Str := ["value", "least", "most"]
theorem sc_is_whole : FnScope N_is_whole ["value", "least", "most"] (defScope s_is_whole) := ⟨rfl, rfl, rfl, by decide +kernel, rfl, by decide +kernel, by decide +kernel⟩
abbrev s__are_bounds : Stmt := topS 13
abbrev N__are_bounds : List Str := ["value", "one"]
theorem sc__are_bounds : FnScope N__are_bounds ["value"] (defScope s__are_bounds) := ⟨rfl, rfl, rfl, by decide +kernel, rfl, by decide +kernel, by decide +kernel⟩
abbrev s__is_pair : Stmt := topS 14
abbrev N__is_pair : List Str := ["kinds", "value", "one"]
theorem sc__is_pair : FnScope N__is_pair ["kinds", "value"] (defScope s__is_pair) := ⟨rfl, rfl, rfl, by decide +kernel, rfl, by decide +kernel, by decide +kernel⟩
abbrev s_ascends : Stmt := topS 7
abbrev N_ascends : List Str := ["values", "one", "later"]
theorem sc_ascends : FnScope N_ascends ["values"] (defScope s_ascends) := ⟨rfl, rfl, rfl, by decide +kernel, rfl, by decide +kernel, by decide +kernel⟩
abbrev s_are_box_rules : Stmt := topS 15
abbrev N_are_box_rules : List Str := ["value", "one"]
theorem sc_are_box_rules : FnScope N_are_box_rules ["value"] (defScope s_are_box_rules) := ⟨rfl, rfl, rfl, by decide +kernel, rfl, by decide +kernel, by decide +kernel⟩
abbrev s_check_box_rules : Stmt := topS 16
abbrev N_check_box_rules : List Str := ["rules"]
theorem sc_check_box_rules : FnScope N_check_box_rules ["rules"] (defScope s_check_box_rules) := ⟨rfl, rfl, rfl, by decide +kernel, rfl, by decide +kernel, by decide +kernel⟩
abbrev s_fault_in : Stmt := topS 17
abbrev N_fault_in : List Str := ["rules", "box", "size", "bounds", "never", "kind", "one", "other", "least", "most"]
theorem sc_fault_in : FnScope N_fault_in ["rules", "box"] (defScope s_fault_in) := ⟨rfl, rfl, rfl, by decide +kernel, rfl, by decide +kernel, by decide +kernel⟩
abbrev s_box_fault : Stmt := topS 18
abbrev N_box_fault : List Str := ["rules", "box"]
theorem sc_box_fault : FnScope N_box_fault ["rules", "box"] (defScope s_box_fault) := ⟨rfl, rfl, rfl, by decide +kernel, rfl, by decide +kernel, by decide +kernel⟩
abbrev s_count_boxes : Stmt := topS 20
abbrev N_count_boxes : List Str := ["rules"]
theorem sc_count_boxes : FnScope N_count_boxes ["rules"] (defScope s_count_boxes) := ⟨rfl, rfl, rfl, by decide +kernel, rfl, by decide +kernel, by decide +kernel⟩
abbrev s_box_at : Stmt := topS 22
abbrev N_box_at : List Str := ["rules", "number", "counts"]
theorem sc_box_at : FnScope N_box_at ["rules", "number"] (defScope s_box_at) := ⟨rfl, rfl, rfl, by decide +kernel, rfl, by decide +kernel, by decide +kernel⟩
abbrev s__check_box : Stmt := topS 23
abbrev N__check_box : List Str := ["rules", "box"]
theorem sc__check_box : FnScope N__check_box ["rules", "box"] (defScope s__check_box) := ⟨rfl, rfl, rfl, by decide +kernel, rfl, by decide +kernel, by decide +kernel⟩
abbrev s_number_of_box : Stmt := topS 24
abbrev N_number_of_box : List Str := ["rules", "box"]
theorem sc_number_of_box : FnScope N_number_of_box ["rules", "box"] (defScope s_number_of_box) := ⟨rfl, rfl, rfl, by decide +kernel, rfl, by decide +kernel, by decide +kernel⟩
abbrev s_next_box : Stmt := topS 25
abbrev N_next_box : List Str := ["rules", "box", "counts", "number"]
theorem sc_next_box : FnScope N_next_box ["rules", "box"] (defScope s_next_box) := ⟨rfl, rfl, rfl, by decide +kernel, rfl, by decide +kernel, by decide +kernel⟩
abbrev s_boxes_from : Stmt := topS 26
abbrev N_boxes_from : List Str := ["rules", "number", "many", "counts", "whole", "one"]
theorem sc_boxes_from : FnScope N_boxes_from ["rules", "number", "many"] (defScope s_boxes_from) := ⟨rfl, rfl, rfl, by decide +kernel, rfl, by decide +kernel, by decide +kernel⟩
abbrev s_never_needed : Stmt := topS 27
abbrev N_never_needed : List Str := ["rules", "whole", "found", "pair", "size", "bounds", "never", "rest", "one"]
theorem sc_never_needed : FnScope N_never_needed ["rules"] (defScope s_never_needed) := ⟨rfl, rfl, rfl, by decide +kernel, rfl, by decide +kernel, by decide +kernel⟩
abbrev s__law_refused : Stmt := topS 35
abbrev N__law_refused : List Str := ["way", "rules", "e"]
theorem sc__law_refused : FnScope N__law_refused ["way", "rules"] (defScope s__law_refused) := ⟨rfl, rfl, rfl, by decide +kernel, rfl, by decide +kernel, by decide +kernel⟩
abbrev s__law_boxes : Stmt := topS 31
abbrev N__law_boxes : List Str := ["rules", "rows", "size", "bounds", "never", "least", "most", "longer", "row", "count", "one", "two"]
theorem sc__law_boxes : FnScope N__law_boxes ["rules"] (defScope s__law_boxes) := ⟨rfl, rfl, rfl, by decide +kernel, rfl, by decide +kernel, by decide +kernel⟩
abbrev s__law_due : Stmt := topS 34
abbrev N__law_due : List Str := ["rules", "value", "out", "both", "size", "bounds", "never", "kind", "pair", "one"]
theorem sc__law_due : FnScope N__law_due ["rules", "value"] (defScope s__law_due) := ⟨rfl, rfl, rfl, by decide +kernel, rfl, by decide +kernel, by decide +kernel⟩
abbrev s_law : Stmt := topS 36
abbrev N_law : List Str := ["script", "draws", "turn", "two", "rules", "at", "values", "one", "value", "drawn", "base", "size", "bounds", "never", "good", "n", "k", "way"]
theorem sc_law : FnScope N_law ["script"] (defScope s_law) := ⟨rfl, rfl, rfl, by decide +kernel, rfl, by decide +kernel, by decide +kernel⟩
/-- except BakeError -/
def p_BakeError : Nat → Option Bool
  | 1 => some true
  | _ => none
def i_BadBoxRules : Nat → Option Bool
  | 1 => some true
  | _ => none
/-- what the text gives -/
structure Fx (K : PySem.W.Frag) (mg : Str → Option Value) (ct : CT) : Prop where
  b_abs : mg "abs" = none
  b_all : mg "all" = none
  b_any : mg "any" = none
  b_bool : mg "bool" = none
  b_enumerate : mg "enumerate" = none
  b_int : mg "int" = none
  b_isinstance : mg "isinstance" = none
  b_len : mg "len" = none
  b_list : mg "list" = none
  b_min : mg "min" = none
  b_range : mg "range" = none
  b_set : mg "set" = none
  b_sorted : mg "sorted" = none
  b_sum : mg "sum" = none
  b_tuple : mg "tuple" = none
  b_zip : mg "zip" = none
  g_FORM : GlC K mg "FORM" (.tuple [(.str "form")])
  g_MOST_KINDS : GlC K mg "MOST_KINDS" (.int 6)
  g_MOST_SIZE : GlC K mg "MOST_SIZE" (.int 12)
  d__law_draws : DefD K mg "_law_draws" s__law_draws ["script", "many"]
  d__law_rules : DefD K mg "_law_rules" s__law_rules ["draws"]
  d__law_is_number : DefD K mg "_law_is_number" s__law_is_number ["value", "least", "most"]
  d__law_are_rules : DefD K mg "_law_are_rules" s__law_are_rules ["value"]
  d_is_whole : DefD K mg "is_whole" s_is_whole ["value", "least", "most"]
  d__are_bounds : DefD K mg "_are_bounds" s__are_bounds ["value"]
  d__is_pair : DefD K mg "_is_pair" s__is_pair ["kinds", "value"]
  d_ascends : DefD K mg "ascends" s_ascends ["values"]
  d_are_box_rules : DefD K mg "are_box_rules" s_are_box_rules ["value"]
  d_check_box_rules : DefD K mg "check_box_rules" s_check_box_rules ["rules"]
  d_fault_in : DefD K mg "fault_in" s_fault_in ["rules", "box"]
  d_box_fault : DefD K mg "box_fault" s_box_fault ["rules", "box"]
  d_count_boxes : DefD K mg "count_boxes" s_count_boxes ["rules"]
  d_box_at : DefD K mg "box_at" s_box_at ["rules", "number"]
  d__check_box : DefD K mg "_check_box" s__check_box ["rules", "box"]
  d_number_of_box : DefD K mg "number_of_box" s_number_of_box ["rules", "box"]
  d_next_box : DefD K mg "next_box" s_next_box ["rules", "box"]
  d_boxes_from : DefD K mg "boxes_from" s_boxes_from ["rules", "number", "many"]
  d_never_needed : DefD K mg "never_needed" s_never_needed ["rules"]
  d__law_refused : DefD K mg "_law_refused" s__law_refused ["way", "rules"]
  d__law_boxes : DefD K mg "_law_boxes" s__law_boxes ["rules"]
  d__law_due : DefD K mg "_law_due" s__law_due ["rules", "value"]
  d_law : DefD K mg "law" s_law ["script"]
  x_BadBoxRules : ExcD K mg ct 1 "BadBoxRules"
  n_BadBoxRules : mg "BadBoxRules" = some (.ref (ctA ct 1))
  n_BakeError : mg "BakeError" = some (.ref (ctA ct 0))
  p_BakeError : ∀ n b, p_BakeError n = some b → PySem.W.exmOne K (ct n) (.ref (ctA ct 0)) = some b
  i_BadBoxRules : ∀ n b, i_BadBoxRules n = some b → ∃ D, ct n = .ref D ∧ ExcC K D ∧ PySem.W.kitOne K (.ref D) (.ref (ctA ct 1)) = some b
section
variable {P : Program} {w : World} {K : PySem.W.Frag} {mg : Str → Option Value} {base : Heap} {ct : CT}
def fb__law_draws_0 : Ms → Fl := (sIf (t2 gtD (rVar 6) (vC (.int 0)))
  (sSeq
  (sApp 2 (toV (e2 modD (toV (eCall (g1 toIntD) [(rVar 6)])) (vC (.int 1009)))))
  (sSet 6 (ofV (toV (e2 divD (rVar 6) (vC (.int 1009)))))))
  sNil)
def fb__law_draws_1 : Ms → Fl := (sSeq
  (sSet 6 (ofV (toV (eCall (g1 absD) [(rVar 4)]))))
  (sSeq
  (sSet 3 (ofV (toV (e2 modD (toV (eCall (g1 toIntD) [(toV (e2 addD (toV (e2 addD (toV (e2 mulD (rVar 3) (vC (.int 48271)))) (rVar 6))) (vC (.int 11))))])) (vC (.int 2147483647))))))
  (sIf (t2 geD (rVar 6) (toV (e2 powD (vC (.int 10)) (vC (.int 18)))))
  (sFor (iArg rng1 [(vC (.int 60))]) (gSet 5)
  fb__law_draws_0)
  (sApp 2 (toV (e2 modD (toV (e2 divD (toV (eCall (g1 toIntD) [(toV (e2 addD (toV (e2 mulD (rVar 3) (vC (.int 16807)))) (vC (.int 5))))])) (vC (.int 3)))) (vC (.int 65521))))))))
def fb__law_draws_2 : Ms → Fl := (sIf (t2 ltD (toV (eCall (g1 lenD) [(rVar 2)])) (rVar 1))
  (sSeq
  (sSet 3 (ofV (toV (e2 modD (toV (eCall (g1 toIntD) [(toV (e2 addD (toV (e2 addD (toV (e2 mulD (rVar 3) (vC (.int 69621)))) (rVar 5))) (vC (.int 1))))])) (vC (.int 2147483647))))))
  (sApp 2 (toV (e2 modD (toV (e2 divD (toV (eCall (g1 toIntD) [(rVar 3)])) (vC (.int 7)))) (vC (.int 65521))))))
  sNil)
def b__law_draws : Ms → Fl := (sSeq
  (sSet 2 (eLst []))
  (sSeq
  (sSet 3 (ofV (vC (.int 7))))
  (sSeq
  (sFor (iSeq (toV (eScr 0 63))) (gSet 4)
  fb__law_draws_1)
  (sSeq
  (sFor (iArg rng1 [(vVar 1)]) (gSet 5)
  fb__law_draws_2)
  (sRet (toV (eSl (rVar 2) oNone (oSome (rVar 1)))))))))
def m__law_draws : Ms → Rz PyData := fnW 7 b__law_draws
set_option maxHeartbeats 8000000 in
theorem ok__law_draws (G : Fx K mg ct) : CallW P w K mg base ct 1 "_law_draws" 2 m__law_draws := callW_of (N := N__law_draws) (n := 7) (g := b__law_draws) G.d__law_draws sc__law_draws rfl rfl fun f cdv A outer s H E hr => by
  have S := sc__law_draws
  have tk : Takes (cxOf (L2.CX P w) P w K mg base N__law_draws "_law_draws" (defScope s__law_draws) f cdv A outer s H E) (fun cls d _ H => E cls d H) := takes_of rfl rfl rfl rfl
  have hp := passes_of (X := cxOf (L2.CX P w) P w K mg base N__law_draws "_law_draws" (defScope s__law_draws) f cdv A outer s H E) rfl
  have hu := room_u hr 101 (by decide)
  have hu64 := room_u hr 64 (by decide)
  have hu105 := room_u hr 105 (by decide)
  exact (ds_cons (ds_set 2 (de_lst da_nil) S.nd)
  (ds_cons (ds_set 3 (DV.toE dv_int) S.nd)
  (ds_cons (ds_for hp (di_seq (DE.v (de_scr 0))) (dg_name 4 S.nd)
  (ds_cons (ds_set 6 (DV.toE (DE.v (de_callB call_abs ok_absD (by decide +kernel) G.b_abs (db_cons (dr_var 4) db_nil)))) S.nd)
  (ds_cons (ds_set 3 (DV.toE (DE.v (de_op op_mod ok_modD (DV.rd (DE.v (de_callTy call_int1 ok_toIntD (by decide +kernel) G.b_int (db_cons (DV.rd (DE.v (de_op op_addD ok_addD (DV.rd (DE.v (de_op op_addD ok_addD (DV.rd (DE.v (de_op op_mulD ok_mulD (dr_var 3) (DV.rd dv_int)))) (dr_var 6)))) (DV.rd dv_int)))) db_nil)))) (DV.rd dv_int)))) S.nd)
  (ds_one (ds_if (dt_cmp (op_geG hu) cmpOk_of (dr_var 6) (DV.rd (DE.v (de_op op_pow ok_powD (DV.rd dv_int) (DV.rd dv_int)))) (by rfl))
  (ds_one (ds_for hp (di_range1 (da_cons dv_int da_nil) G.b_range) (dg_name 5 S.nd)
  (ds_one (ds_if (dt_cmp (op_gtG hu) cmpOk_of (dr_var 6) (DV.rd dv_int) (by rfl))
  (ds_cons (ds_app 2 (da_cons (DE.v (de_op op_mod ok_modD (DV.rd (DE.v (de_callTy call_int1 ok_toIntD (by decide +kernel) G.b_int (db_cons (dr_var 6) db_nil)))) (DV.rd dv_int))) da_nil))
  (ds_one (ds_set 6 (DV.toE (DE.v (de_op op_fdiv ok_divD (dr_var 6) (DV.rd dv_int)))) S.nd)))
  ds_nil))))
  (ds_one (ds_app 2 (da_cons (DE.v (de_op op_mod ok_modD (DV.rd (DE.v (de_op op_fdiv ok_divD (DV.rd (DE.v (de_callTy call_int1 ok_toIntD (by decide +kernel) G.b_int (db_cons (DV.rd (DE.v (de_op op_addD ok_addD (DV.rd (DE.v (de_op op_mulD ok_mulD (dr_var 3) (DV.rd dv_int)))) (DV.rd dv_int)))) db_nil)))) (DV.rd dv_int)))) (DV.rd dv_int))) da_nil))))))))
  (ds_cons (ds_for hp (di_range1 (da_cons (dv_var 1) da_nil) G.b_range) (dg_name 5 S.nd)
  (ds_one (ds_if (dt_cmp (op_ltG hu) cmpOk_of (DV.rd (DE.v (de_callB call_len ok_lenD (by decide +kernel) G.b_len (db_cons (dr_var 2) db_nil)))) (dr_var 1) (by rfl))
  (ds_cons (ds_set 3 (DV.toE (DE.v (de_op op_mod ok_modD (DV.rd (DE.v (de_callTy call_int1 ok_toIntD (by decide +kernel) G.b_int (db_cons (DV.rd (DE.v (de_op op_addD ok_addD (DV.rd (DE.v (de_op op_addD ok_addD (DV.rd (DE.v (de_op op_mulD ok_mulD (dr_var 3) (DV.rd dv_int)))) (dr_var 5)))) (DV.rd dv_int)))) db_nil)))) (DV.rd dv_int)))) S.nd)
  (ds_one (ds_app 2 (da_cons (DE.v (de_op op_mod ok_modD (DV.rd (DE.v (de_op op_fdiv ok_divD (DV.rd (DE.v (de_callTy call_int1 ok_toIntD (by decide +kernel) G.b_int (db_cons (dr_var 3) db_nil)))) (DV.rd dv_int)))) (DV.rd dv_int))) da_nil))))
  ds_nil)))
  (ds_one (ds_ret (DE.v (de_sl (dr_var 2) do_none (do_some (dr_var 1))))))))))
def fb__law_rules_0 : Ms → Fl := (sSeq
  (sSet 6 (ofV (toV (e2 modD (toV (eCall (g1 toIntD) [(toV (e2 ixD (rVar 0) (toV (e2 addD (vC (.int 1)) (rVar 3)))))])) (vC (.int 3))))))
  (sApp 2 (eTup [(vVar 6), (toV (e2 addD (rVar 6) (toV (e2 modD (toV (e2 divD (toV (eCall (g1 toIntD) [(toV (e2 ixD (rVar 0) (toV (e2 addD (vC (.int 1)) (rVar 3)))))])) (vC (.int 4)))) (vC (.int 5))))))])))
def lc__law_rules_1 : Ms → Rz W := (eLc [7] (iArg rng2 [(toV (e2 addD (rVar 5) (vC (.int 1)))), (vVar 1)]) (gSet 7) (t2 eqD (toV (e2 modD (toV (eCall (g1 toIntD) [(toV (e2 ixD (rVar 0) (toV (e2 addD (toV (e2 addD (vC (.int 7)) (rVar 5))) (toV (e2 mulD (vC (.int 2)) (rVar 7)))))))])) (vC (.int 4)))) (vC (.int 0))) (eTup [(vVar 5), (vVar 7)]))
def fb__law_rules_2 : Ms → Fl := (sSet 4 (ofV (toV (e2 addD (rVar 4) (toV lc__law_rules_1)))))
def b__law_rules : Ms → Fl := (sSeq
  (sSet 1 (ofV (toV (e2 addD (vC (.int 1)) (toV (e2 modD (toV (eCall (g1 toIntD) [(toV (e2 ixD (rVar 0) (vC (.int 0))))])) (vC (.int 5))))))))
  (sSeq
  (sSet 2 (eLst []))
  (sSeq
  (sFor (iArg rng1 [(vVar 1)]) (gSet 3)
  fb__law_rules_0)
  (sSeq
  (sSet 4 (ofV (toV (eLst []))))
  (sSeq
  (sFor (iArg rng1 [(vVar 1)]) (gSet 5)
  fb__law_rules_2)
  (sRet (eTup [(toV (e2 addD (vC (.int 1)) (toV (e2 modD (toV (eCall (g1 toIntD) [(toV (e2 ixD (rVar 0) (vC (.int 6))))])) (vC (.int 8)))))), (toV (eCall (g1 tupleD) [(rVar 2)])), (toV (eCall (g1 tupleD) [(rVar 4)]))])))))))
def m__law_rules : Ms → Rz PyData := fnW 8 b__law_rules
set_option maxHeartbeats 8000000 in
theorem ok__law_rules (G : Fx K mg ct) : CallW P w K mg base ct 1 "_law_rules" 1 m__law_rules := callW_of (N := N__law_rules) (n := 8) (g := b__law_rules) G.d__law_rules sc__law_rules rfl rfl fun f cdv A outer s H E hr => by
  have S := sc__law_rules
  have tk : Takes (cxOf (L2.CX P w) P w K mg base N__law_rules "_law_rules" (defScope s__law_rules) f cdv A outer s H E) (fun cls d _ H => E cls d H) := takes_of rfl rfl rfl rfl
  have hp := passes_of (X := cxOf (L2.CX P w) P w K mg base N__law_rules "_law_rules" (defScope s__law_rules) f cdv A outer s H E) rfl
  have hu := room_u hr 101 (by decide)
  have hu64 := room_u hr 64 (by decide)
  have hu105 := room_u hr 105 (by decide)
  exact (ds_cons (ds_set 1 (DV.toE (DE.v (de_op op_addD ok_addD (DV.rd dv_int) (DV.rd (DE.v (de_op op_mod ok_modD (DV.rd (DE.v (de_callTy call_int1 ok_toIntD (by decide +kernel) G.b_int (db_cons (DV.rd (DE.v (de_ix (dr_var 0) (DV.rd dv_int)))) db_nil)))) (DV.rd dv_int))))))) S.nd)
  (ds_cons (ds_set 2 (de_lst da_nil) S.nd)
  (ds_cons (ds_for hp (di_range1 (da_cons (dv_var 1) da_nil) G.b_range) (dg_name 3 S.nd)
  (ds_cons (ds_set 6 (DV.toE (DE.v (de_op op_mod ok_modD (DV.rd (DE.v (de_callTy call_int1 ok_toIntD (by decide +kernel) G.b_int (db_cons (DV.rd (DE.v (de_ix (dr_var 0) (DV.rd (DE.v (de_op op_addD ok_addD (DV.rd dv_int) (dr_var 3))))))) db_nil)))) (DV.rd dv_int)))) S.nd)
  (ds_one (ds_app 2 (da_cons (dv_tup (da_cons (dv_var 6) (da_cons (DE.v (de_op op_addD ok_addD (dr_var 6) (DV.rd (DE.v (de_op op_mod ok_modD (DV.rd (DE.v (de_op op_fdiv ok_divD (DV.rd (DE.v (de_callTy call_int1 ok_toIntD (by decide +kernel) G.b_int (db_cons (DV.rd (DE.v (de_ix (dr_var 0) (DV.rd (DE.v (de_op op_addD ok_addD (DV.rd dv_int) (dr_var 3))))))) db_nil)))) (DV.rd dv_int)))) (DV.rd dv_int)))))) da_nil))) da_nil)))))
  (ds_cons (ds_set 4 (DV.toE (DE.v (de_lst da_nil))) S.nd)
  (ds_cons (ds_for hp (di_range1 (da_cons (dv_var 1) da_nil) G.b_range) (dg_name 5 S.nd)
  (ds_one (ds_set 4 (DV.toE (DE.v (de_op op_addD ok_addD (dr_var 4) (DV.rd (DE.v (de_lc S.nd (di_range2 (da_cons (DE.v (de_op op_addD ok_addD (dr_var 5) (DV.rd dv_int))) (da_cons (dv_var 1) da_nil)) G.b_range) (blkOk_by (own := [("two", 7)]) (by rfl)) (fun _ _ _ _ _ => (dg_name 7 S.nd)) (fun _ _ _ _ _ => (dts_one (dt_cmp (op_eqG hu) cmpOk_of (DV.rd (DE.v (de_op op_mod ok_modD (DV.rd (DE.v (de_callTy call_int1 ok_toIntD (by decide +kernel) G.b_int (db_cons (DV.rd (DE.v (de_ix (dr_var 0) (DV.rd (DE.v (de_op op_addD ok_addD (DV.rd (DE.v (de_op op_addD ok_addD (DV.rd dv_int) (dr_var 5)))) (DV.rd (DE.v (de_op op_mulD ok_mulD (DV.rd dv_int) (dr_var 7)))))))))) db_nil)))) (DV.rd dv_int)))) (DV.rd dv_int) (by rfl)))) (fun _ _ _ _ _ => (dv_tup (da_cons (dv_var 5) (da_cons (dv_var 7) da_nil)))))))))) S.nd)))
  (ds_one (ds_ret (dv_tup (da_cons (DE.v (de_op op_addD ok_addD (DV.rd dv_int) (DV.rd (DE.v (de_op op_mod ok_modD (DV.rd (DE.v (de_callTy call_int1 ok_toIntD (by decide +kernel) G.b_int (db_cons (DV.rd (DE.v (de_ix (dr_var 0) (DV.rd dv_int)))) db_nil)))) (DV.rd dv_int)))))) (da_cons (DE.v (de_callTy call_tuple_of ok_tupleD (by decide +kernel) G.b_tuple (db_cons (dr_var 2) db_nil))) (da_cons (DE.v (de_callTy call_tuple_of ok_tupleD (by decide +kernel) G.b_tuple (db_cons (dr_var 4) db_nil))) da_nil)))))))))))
def b__law_is_number : Ms → Fl := (sRet (vAnd (vIsi isInt (rVar 0)) (vAnd (vNot (vIsi isBool (rVar 0))) (v3 leD leD (rVar 1) (rVar 0) (rVar 2)))))
def m__law_is_number : Ms → Rz PyData := fnW 3 b__law_is_number
set_option maxHeartbeats 8000000 in
theorem ok__law_is_number (G : Fx K mg ct) : CallW P w K mg base ct 1 "_law_is_number" 3 m__law_is_number := callW_of (N := N__law_is_number) (n := 3) (g := b__law_is_number) G.d__law_is_number sc__law_is_number rfl rfl fun f cdv A outer s H E hr => by
  have S := sc__law_is_number
  have tk : Takes (cxOf (L2.CX P w) P w K mg base N__law_is_number "_law_is_number" (defScope s__law_is_number) f cdv A outer s H E) (fun cls d _ H => E cls d H) := takes_of rfl rfl rfl rfl
  have hp := passes_of (X := cxOf (L2.CX P w) P w K mg base N__law_is_number "_law_is_number" (defScope s__law_is_number) f cdv A outer s H E) rfl
  have hu := room_u hr 101 (by decide)
  have hu64 := room_u hr 64 (by decide)
  have hu105 := room_u hr 105 (by decide)
  exact (ds_one (ds_ret (dv_and (dv_isi isi_int (by decide +kernel) G.b_int G.b_isinstance (dr_var 0)) (dv_and (dv_not (dv_isi isi_bool (by decide +kernel) G.b_bool G.b_isinstance (dr_var 0))) (dv_one (dv_chain (op_leG hu) (op_leG hu) cmpOk_of cmpOk_of (dr_var 1) (dr_var 0) (dr_var 2)))))))
def fb__law_are_rules_0 : Ms → Fl := (sIf (tOr' (tNot' (tV' (vIsi isTup (rVar 1)))) (tOr' (t2 neD (toV (eCall (g1 lenD) [(rVar 1)])) (vC (.int 2))) (tOr' (tNot' (tV' (vFn m__law_is_number [(toV (e2 ixD (rVar 1) (vC (.int 0)))), (vC (.int 0)), (vC (.int 12))]))) (tOr' (tNot' (tV' (vFn m__law_is_number [(toV (e2 ixD (rVar 1) (vC (.int 1)))), (vC (.int 0)), (vC (.int 12))]))) (t2 gtD (toV (e2 ixD (rVar 1) (vC (.int 0)))) (toV (e2 ixD (rVar 1) (vC (.int 1)))))))))
  (sRet (vC (.bool false)))
  sNil)
def lc__law_are_rules_1 : Ms → Rz W := (eLc [2] (iSeq (vVar 1)) (gSet 2) (fun _ => .ok true) (vFn m__law_is_number [(vVar 2), (vC (.int 0)), (toV (e2 subD (toV (eCall (g1 lenD) [(toV (e2 ixD (rVar 0) (vC (.int 1))))])) (vC (.int 1))))]))
def fb__law_are_rules_2 : Ms → Fl := (sIf (tOr' (tNot' (tV' (vIsi isTup (rVar 1)))) (tOr' (t2 neD (toV (eCall (g1 lenD) [(rVar 1)])) (vC (.int 2))) (tOr' (tNot' (tV' (toV (eCall (g1 allD) [(toV lc__law_are_rules_1)])))) (t2 geD (toV (e2 ixD (rVar 1) (vC (.int 0)))) (toV (e2 ixD (rVar 1) (vC (.int 1))))))))
  (sRet (vC (.bool false)))
  sNil)
def b__law_are_rules : Ms → Fl := (sSeq
  (sIf (tOr' (tNot' (tV' (vIsi isTup (rVar 0)))) (tOr' (t2 neD (toV (eCall (g1 lenD) [(rVar 0)])) (vC (.int 3))) (tOr' (tNot' (tV' (vFn m__law_is_number [(toV (e2 ixD (rVar 0) (vC (.int 0)))), (vC (.int 1)), (vC (.int 12))]))) (tOr' (tNot' (tV' (vIsi isTup (toV (e2 ixD (rVar 0) (vC (.int 1))))))) (tNot' (tV' (vIsi isTup (toV (e2 ixD (rVar 0) (vC (.int 2)))))))))))
  (sRet (vC (.bool false)))
  sNil)
  (sSeq
  (sIf (tNot' (t3 leD leD (vC (.int 1)) (toV (eCall (g1 lenD) [(toV (e2 ixD (rVar 0) (vC (.int 1))))])) (vC (.int 6))))
  (sRet (vC (.bool false)))
  sNil)
  (sSeq
  (sFor (iSeq (toV (e2 ixD (rVar 0) (vC (.int 1))))) (gSet 1)
  fb__law_are_rules_0)
  (sSeq
  (sFor (iSeq (toV (e2 ixD (rVar 0) (vC (.int 2))))) (gSet 1)
  fb__law_are_rules_2)
  (sRet (v2 eqD (toV (eCall (g1 listD) [(toV (e2 ixD (rVar 0) (vC (.int 2))))])) (toV (eSset (toV (e2 ixD (rVar 0) (vC (.int 2))))))))))))
def m__law_are_rules : Ms → Rz PyData := fnW 3 b__law_are_rules
set_option maxHeartbeats 8000000 in
theorem ok__law_are_rules (G : Fx K mg ct) : CallW P w K mg base ct 2 "_law_are_rules" 1 m__law_are_rules := callW_of (N := N__law_are_rules) (n := 3) (g := b__law_are_rules) G.d__law_are_rules sc__law_are_rules rfl rfl fun f cdv A outer s H E hr => by
  have S := sc__law_are_rules
  have tk : Takes (cxOf (L2.CX P w) P w K mg base N__law_are_rules "_law_are_rules" (defScope s__law_are_rules) f cdv A outer s H E) (fun cls d _ H => E cls d H) := takes_of rfl rfl rfl rfl
  have hp := passes_of (X := cxOf (L2.CX P w) P w K mg base N__law_are_rules "_law_are_rules" (defScope s__law_are_rules) f cdv A outer s H E) rfl
  have hu := room_u hr 101 (by decide)
  have hu64 := room_u hr 64 (by decide)
  have hu105 := room_u hr 105 (by decide)
  exact (ds_cons (ds_if (DW.t (dw_or (dt_not (dt_val (DV.rd (dv_isi isi_tup (by decide +kernel) G.b_tuple G.b_isinstance (dr_var 0))))) (dw_or (dt_cmp (op_neG hu) cmpOk_of (DV.rd (DE.v (de_callB call_len ok_lenD (by decide +kernel) G.b_len (db_cons (dr_var 0) db_nil)))) (DV.rd dv_int) (by rfl)) (dw_or (dt_not (dt_val (DV.rd (dv_call (ok__law_is_number G) hr (by decide) tk (da_cons (DE.v (de_ix (dr_var 0) (DV.rd dv_int))) (da_cons dv_int (da_cons dv_int da_nil))))))) (dw_or (dt_not (dt_val (DV.rd (dv_isi isi_tup (by decide +kernel) G.b_tuple G.b_isinstance (DV.rd (DE.v (de_ix (dr_var 0) (DV.rd dv_int)))))))) (dw_or1 (dt_not (dt_val (DV.rd (dv_isi isi_tup (by decide +kernel) G.b_tuple G.b_isinstance (DV.rd (DE.v (de_ix (dr_var 0) (DV.rd dv_int))))))))))))))
  (ds_one (ds_ret dv_bl))
  ds_nil)
  (ds_cons (ds_if (dt_not (dt_chain (op_leG hu) (op_leG hu) cmpOk_of cmpOk_of (DV.rd dv_int) (DV.rd (DE.v (de_callB call_len ok_lenD (by decide +kernel) G.b_len (db_cons (DV.rd (DE.v (de_ix (dr_var 0) (DV.rd dv_int)))) db_nil)))) (DV.rd dv_int)))
  (ds_one (ds_ret dv_bl))
  ds_nil)
  (ds_cons (ds_for hp (di_seq (DE.v (de_ix (dr_var 0) (DV.rd dv_int)))) (dg_name 1 S.nd)
  (ds_one (ds_if (DW.t (dw_or (dt_not (dt_val (DV.rd (dv_isi isi_tup (by decide +kernel) G.b_tuple G.b_isinstance (dr_var 1))))) (dw_or (dt_cmp (op_neG hu) cmpOk_of (DV.rd (DE.v (de_callB call_len ok_lenD (by decide +kernel) G.b_len (db_cons (dr_var 1) db_nil)))) (DV.rd dv_int) (by rfl)) (dw_or (dt_not (dt_val (DV.rd (dv_call (ok__law_is_number G) hr (by decide) tk (da_cons (DE.v (de_ix (dr_var 1) (DV.rd dv_int))) (da_cons dv_int (da_cons dv_int da_nil))))))) (dw_or (dt_not (dt_val (DV.rd (dv_call (ok__law_is_number G) hr (by decide) tk (da_cons (DE.v (de_ix (dr_var 1) (DV.rd dv_int))) (da_cons dv_int (da_cons dv_int da_nil))))))) (dw_or1 (dt_cmp (op_gtG hu) cmpOk_of (DV.rd (DE.v (de_ix (dr_var 1) (DV.rd dv_int)))) (DV.rd (DE.v (de_ix (dr_var 1) (DV.rd dv_int)))) (by rfl))))))))
  (ds_one (ds_ret dv_bl))
  ds_nil)))
  (ds_cons (ds_for hp (di_seq (DE.v (de_ix (dr_var 0) (DV.rd dv_int)))) (dg_name 1 S.nd)
  (ds_one (ds_if (DW.t (dw_or (dt_not (dt_val (DV.rd (dv_isi isi_tup (by decide +kernel) G.b_tuple G.b_isinstance (dr_var 1))))) (dw_or (dt_cmp (op_neG hu) cmpOk_of (DV.rd (DE.v (de_callB call_len ok_lenD (by decide +kernel) G.b_len (db_cons (dr_var 1) db_nil)))) (DV.rd dv_int) (by rfl)) (dw_or (dt_not (dt_val (DV.rd (DE.v (de_callB (cr_all rfl) ok_allD (by decide +kernel) G.b_all (db_cons (DV.rd (DE.v (de_lc S.nd (di_seq (dv_var 1)) (blkOk_by (own := [("kind", 2)]) (by rfl)) (fun _ _ _ _ _ => (dg_name 2 S.nd)) (fun _ _ _ _ _ => dts_nil) (fun _ _ _ _ _ => (dv_call (ok__law_is_number G) hr (by decide) takes0 (da_cons (dv_var 2) (da_cons dv_int (da_cons (DE.v (de_op op_sub ok_subD (DV.rd (DE.v (de_callB call_len ok_lenD (by decide +kernel) G.b_len (db_cons (DV.rd (DE.v (de_ix (dr_var 0) (DV.rd dv_int)))) db_nil)))) (DV.rd dv_int))) da_nil)))))))) db_nil)))))) (dw_or1 (dt_cmp (op_geG hu) cmpOk_of (DV.rd (DE.v (de_ix (dr_var 1) (DV.rd dv_int)))) (DV.rd (DE.v (de_ix (dr_var 1) (DV.rd dv_int)))) (by rfl)))))))
  (ds_one (ds_ret dv_bl))
  ds_nil)))
  (ds_one (ds_ret (dv_cmp (op_eqG hu) cmpOk_of (DV.rd (DE.v (de_callTy call_list_of ok_listD (by decide +kernel) G.b_list (db_cons (DV.rd (DE.v (de_ix (dr_var 0) (DV.rd dv_int)))) db_nil)))) (DV.rd (DE.v (de_sset hu64 (DV.rd (DE.v (de_ix (dr_var 0) (DV.rd dv_int)))) G.b_sorted G.b_set))) (by rfl))))))))
def b_is_whole : Ms → Fl := (sRet (vAnd (vIsi isInt (rVar 0)) (vAnd (vNot (vIsi isBool (rVar 0))) (v3 leD leD (rVar 1) (rVar 0) (rVar 2)))))
def m_is_whole : Ms → Rz PyData := fnW 3 b_is_whole
set_option maxHeartbeats 8000000 in
theorem ok_is_whole (G : Fx K mg ct) : CallW P w K mg base ct 1 "is_whole" 3 m_is_whole := callW_of (N := N_is_whole) (n := 3) (g := b_is_whole) G.d_is_whole sc_is_whole rfl rfl fun f cdv A outer s H E hr => by
  have S := sc_is_whole
  have tk : Takes (cxOf (L2.CX P w) P w K mg base N_is_whole "is_whole" (defScope s_is_whole) f cdv A outer s H E) (fun cls d _ H => E cls d H) := takes_of rfl rfl rfl rfl
  have hp := passes_of (X := cxOf (L2.CX P w) P w K mg base N_is_whole "is_whole" (defScope s_is_whole) f cdv A outer s H E) rfl
  have hu := room_u hr 101 (by decide)
  have hu64 := room_u hr 64 (by decide)
  have hu105 := room_u hr 105 (by decide)
  exact (ds_one (ds_ret (dv_and (dv_isi isi_int (by decide +kernel) G.b_int G.b_isinstance (dr_var 0)) (dv_and (dv_not (dv_isi isi_bool (by decide +kernel) G.b_bool G.b_isinstance (dr_var 0))) (dv_one (dv_chain (op_leG hu) (op_leG hu) cmpOk_of cmpOk_of (dr_var 1) (dr_var 0) (dr_var 2)))))))
def lc__are_bounds_0 : Ms → Rz W := (eLc [1] (iSeq (vVar 0)) (gSet 1) (fun _ => .ok true) (vAnd (vIsi isTup (rVar 1)) (v2 eqD (toV (eCall (g1 lenD) [(rVar 1)])) (vC (.int 2)))))
def lc__are_bounds_1 : Ms → Rz W := (eLc [1] (iSeq (vVar 0)) (gSet 1) (fun _ => .ok true) (vAnd (vFn m_is_whole [(toV (e2 ixD (rVar 1) (vC (.int 0)))), (vC (.int 0)), (vC (.int 12))]) (vFn m_is_whole [(toV (e2 ixD (rVar 1) (vC (.int 1)))), (toV (e2 ixD (rVar 1) (vC (.int 0)))), (vC (.int 12))])))
def b__are_bounds : Ms → Fl := (sSeq
  (sIf (tOr' (tNot' (tV' (vIsi isTup (rVar 0)))) (tNot' (t3 leD leD (vC (.int 1)) (toV (eCall (g1 lenD) [(rVar 0)])) (vC (.int 6)))))
  (sRet (vC (.bool false)))
  sNil)
  (sSeq
  (sIf (tNot' (tV' (toV (eCall (g1 allD) [(toV lc__are_bounds_0)]))))
  (sRet (vC (.bool false)))
  sNil)
  (sRet (toV (eCall (g1 allD) [(toV lc__are_bounds_1)])))))
def m__are_bounds : Ms → Rz PyData := fnW 2 b__are_bounds
set_option maxHeartbeats 8000000 in
theorem ok__are_bounds (G : Fx K mg ct) : CallW P w K mg base ct 2 "_are_bounds" 1 m__are_bounds := callW_of (N := N__are_bounds) (n := 2) (g := b__are_bounds) G.d__are_bounds sc__are_bounds rfl rfl fun f cdv A outer s H E hr => by
  have S := sc__are_bounds
  have tk : Takes (cxOf (L2.CX P w) P w K mg base N__are_bounds "_are_bounds" (defScope s__are_bounds) f cdv A outer s H E) (fun cls d _ H => E cls d H) := takes_of rfl rfl rfl rfl
  have hp := passes_of (X := cxOf (L2.CX P w) P w K mg base N__are_bounds "_are_bounds" (defScope s__are_bounds) f cdv A outer s H E) rfl
  have hu := room_u hr 101 (by decide)
  have hu64 := room_u hr 64 (by decide)
  have hu105 := room_u hr 105 (by decide)
  exact (ds_cons (ds_if (DW.t (dw_or (dt_not (dt_val (DV.rd (dv_isi isi_tup (by decide +kernel) G.b_tuple G.b_isinstance (dr_var 0))))) (dw_or1 (dt_not (dt_chain (op_leG hu) (op_leG hu) cmpOk_of cmpOk_of (DV.rd dv_int) (DV.rd (DE.v (de_callB call_len ok_lenD (by decide +kernel) G.b_len (db_cons (dr_var 0) db_nil)))) (DV.rd (dv_glob G.g_MOST_KINDS)))))))
  (ds_one (ds_ret dv_bl))
  ds_nil)
  (ds_cons (ds_if (dt_not (dt_val (DV.rd (DE.v (de_callB (cr_all rfl) ok_allD (by decide +kernel) G.b_all (db_cons (DV.rd (DE.v (de_lc S.nd (di_seq (dv_var 0)) (blkOk_by (own := [("one", 1)]) (by rfl)) (fun _ _ _ _ _ => (dg_name 1 S.nd)) (fun _ _ _ _ _ => dts_nil) (fun _ _ _ _ _ => (dv_and (dv_isi isi_tup (by decide +kernel) G.b_tuple G.b_isinstance (dr_var 1)) (dv_one (dv_cmp (op_eqG hu) cmpOk_of (DV.rd (DE.v (de_callB call_len ok_lenD (by decide +kernel) G.b_len (db_cons (dr_var 1) db_nil)))) (DV.rd dv_int) (by rfl)))))))) db_nil))))))
  (ds_one (ds_ret dv_bl))
  ds_nil)
  (ds_one (ds_ret (DE.v (de_callB (cr_all rfl) ok_allD (by decide +kernel) G.b_all (db_cons (DV.rd (DE.v (de_lc S.nd (di_seq (dv_var 0)) (blkOk_by (own := [("one", 1)]) (by rfl)) (fun _ _ _ _ _ => (dg_name 1 S.nd)) (fun _ _ _ _ _ => dts_nil) (fun _ _ _ _ _ => (dv_and (dv_call (ok_is_whole G) hr (by decide) takes0 (da_cons (DE.v (de_ix (dr_var 1) (DV.rd dv_int))) (da_cons dv_int (da_cons (dv_glob G.g_MOST_SIZE) da_nil)))) (dv_one (dv_call (ok_is_whole G) hr (by decide) takes0 (da_cons (DE.v (de_ix (dr_var 1) (DV.rd dv_int))) (da_cons (DE.v (de_ix (dr_var 1) (DV.rd dv_int))) (da_cons (dv_glob G.g_MOST_SIZE) da_nil)))))))))) db_nil)))))))
def lc__is_pair_0 : Ms → Rz W := (eLc [2] (iSeq (vVar 1)) (gSet 2) (fun _ => .ok true) (vFn m_is_whole [(vVar 2), (vC (.int 0)), (toV (e2 subD (rVar 0) (vC (.int 1))))]))
def b__is_pair : Ms → Fl := (sSeq
  (sIf (tOr' (tNot' (tV' (vIsi isTup (rVar 1)))) (tOr' (t2 neD (toV (eCall (g1 lenD) [(rVar 1)])) (vC (.int 2))) (tNot' (tV' (toV (eCall (g1 allD) [(toV lc__is_pair_0)]))))))
  (sRet (vC (.bool false)))
  sNil)
  (sRet (v2 ltD (toV (e2 ixD (rVar 1) (vC (.int 0)))) (toV (e2 ixD (rVar 1) (vC (.int 1)))))))
def m__is_pair : Ms → Rz PyData := fnW 3 b__is_pair
set_option maxHeartbeats 8000000 in
theorem ok__is_pair (G : Fx K mg ct) : CallW P w K mg base ct 2 "_is_pair" 2 m__is_pair := callW_of (N := N__is_pair) (n := 3) (g := b__is_pair) G.d__is_pair sc__is_pair rfl rfl fun f cdv A outer s H E hr => by
  have S := sc__is_pair
  have tk : Takes (cxOf (L2.CX P w) P w K mg base N__is_pair "_is_pair" (defScope s__is_pair) f cdv A outer s H E) (fun cls d _ H => E cls d H) := takes_of rfl rfl rfl rfl
  have hp := passes_of (X := cxOf (L2.CX P w) P w K mg base N__is_pair "_is_pair" (defScope s__is_pair) f cdv A outer s H E) rfl
  have hu := room_u hr 101 (by decide)
  have hu64 := room_u hr 64 (by decide)
  have hu105 := room_u hr 105 (by decide)
  exact (ds_cons (ds_if (DW.t (dw_or (dt_not (dt_val (DV.rd (dv_isi isi_tup (by decide +kernel) G.b_tuple G.b_isinstance (dr_var 1))))) (dw_or (dt_cmp (op_neG hu) cmpOk_of (DV.rd (DE.v (de_callB call_len ok_lenD (by decide +kernel) G.b_len (db_cons (dr_var 1) db_nil)))) (DV.rd dv_int) (by rfl)) (dw_or1 (dt_not (dt_val (DV.rd (DE.v (de_callB (cr_all rfl) ok_allD (by decide +kernel) G.b_all (db_cons (DV.rd (DE.v (de_lc S.nd (di_seq (dv_var 1)) (blkOk_by (own := [("one", 2)]) (by rfl)) (fun _ _ _ _ _ => (dg_name 2 S.nd)) (fun _ _ _ _ _ => dts_nil) (fun _ _ _ _ _ => (dv_call (ok_is_whole G) hr (by decide) takes0 (da_cons (dv_var 2) (da_cons dv_int (da_cons (DE.v (de_op op_sub ok_subD (dr_var 0) (DV.rd dv_int))) da_nil)))))))) db_nil))))))))))
  (ds_one (ds_ret dv_bl))
  ds_nil)
  (ds_one (ds_ret (dv_cmp (op_ltG hu) cmpOk_of (DV.rd (DE.v (de_ix (dr_var 1) (DV.rd dv_int)))) (DV.rd (DE.v (de_ix (dr_var 1) (DV.rd dv_int)))) (by rfl)))))
def lc_ascends_0 : Ms → Rz W := (eLc [1, 2] (iArg zipD [(vVar 0), (toV (eSl (rVar 0) (oSome (vC (.int 1))) oNone))]) (gTup' 2 (gCons (gSet 1) (gCons (gSet 2) gNil))) (fun _ => .ok true) (v2 ltD (rVar 1) (rVar 2)))
def b_ascends : Ms → Fl := (sRet (toV (eCall (g1 allD) [(toV lc_ascends_0)])))
def m_ascends : Ms → Rz PyData := fnW 3 b_ascends
set_option maxHeartbeats 8000000 in
theorem ok_ascends (G : Fx K mg ct) : CallW P w K mg base ct 1 "ascends" 1 m_ascends := callW_of (N := N_ascends) (n := 3) (g := b_ascends) G.d_ascends sc_ascends rfl rfl fun f cdv A outer s H E hr => by
  have S := sc_ascends
  have tk : Takes (cxOf (L2.CX P w) P w K mg base N_ascends "ascends" (defScope s_ascends) f cdv A outer s H E) (fun cls d _ H => E cls d H) := takes_of rfl rfl rfl rfl
  have hp := passes_of (X := cxOf (L2.CX P w) P w K mg base N_ascends "ascends" (defScope s_ascends) f cdv A outer s H E) rfl
  have hu := room_u hr 101 (by decide)
  have hu64 := room_u hr 64 (by decide)
  have hu105 := room_u hr 105 (by decide)
  exact (ds_one (ds_ret (DE.v (de_callB (cr_all rfl) ok_allD (by decide +kernel) G.b_all (db_cons (DV.rd (DE.v (de_lc S.nd (di_zip (da_cons (dv_var 0) (da_cons (DE.v (de_sl (dr_var 0) (do_some (DV.rd dv_int)) do_none)) da_nil)) G.b_zip) (blkOk_by (own := [("one", 1), ("later", 2)]) (by rfl)) (fun _ _ _ _ _ => (dg_tup (dgs_cons (dg_name 1 S.nd) (dgs_cons (dg_name 2 S.nd) dgs_nil)))) (fun _ _ _ _ _ => dts_nil) (fun _ _ _ _ _ => (dv_cmp (op_ltG hu) cmpOk_of (dr_var 1) (dr_var 2) (by rfl)))))) db_nil)))))
def lc_are_box_rules_0 : Ms → Rz W := (eLc [1] (iSeq (toV (e2 ixD (rVar 0) (vC (.int 2))))) (gSet 1) (fun _ => .ok true) (vFn m__is_pair [(toV (eCall (g1 lenD) [(toV (e2 ixD (rVar 0) (vC (.int 1))))])), (vVar 1)]))
def b_are_box_rules : Ms → Fl := (sSeq
  (sIf (tOr' (tNot' (tV' (vIsi isTup (rVar 0)))) (tOr' (t2 neD (toV (eCall (g1 lenD) [(rVar 0)])) (vC (.int 3))) (tNot' (tV' (vFn m_is_whole [(toV (e2 ixD (rVar 0) (vC (.int 0)))), (vC (.int 1)), (vC (.int 12))])))))
  (sRet (vC (.bool false)))
  sNil)
  (sSeq
  (sIf (tOr' (tNot' (tV' (vFn m__are_bounds [(toV (e2 ixD (rVar 0) (vC (.int 1))))]))) (tNot' (tV' (vIsi isTup (toV (e2 ixD (rVar 0) (vC (.int 2))))))))
  (sRet (vC (.bool false)))
  sNil)
  (sRet (vAnd (toV (eCall (g1 allD) [(toV lc_are_box_rules_0)])) (vFn m_ascends [(toV (e2 ixD (rVar 0) (vC (.int 2))))])))))
def m_are_box_rules : Ms → Rz PyData := fnW 2 b_are_box_rules
set_option maxHeartbeats 8000000 in
theorem ok_are_box_rules (G : Fx K mg ct) : CallW P w K mg base ct 3 "are_box_rules" 1 m_are_box_rules := callW_of (N := N_are_box_rules) (n := 2) (g := b_are_box_rules) G.d_are_box_rules sc_are_box_rules rfl rfl fun f cdv A outer s H E hr => by
  have S := sc_are_box_rules
  have tk : Takes (cxOf (L2.CX P w) P w K mg base N_are_box_rules "are_box_rules" (defScope s_are_box_rules) f cdv A outer s H E) (fun cls d _ H => E cls d H) := takes_of rfl rfl rfl rfl
  have hp := passes_of (X := cxOf (L2.CX P w) P w K mg base N_are_box_rules "are_box_rules" (defScope s_are_box_rules) f cdv A outer s H E) rfl
  have hu := room_u hr 101 (by decide)
  have hu64 := room_u hr 64 (by decide)
  have hu105 := room_u hr 105 (by decide)
  exact (ds_cons (ds_if (DW.t (dw_or (dt_not (dt_val (DV.rd (dv_isi isi_tup (by decide +kernel) G.b_tuple G.b_isinstance (dr_var 0))))) (dw_or (dt_cmp (op_neG hu) cmpOk_of (DV.rd (DE.v (de_callB call_len ok_lenD (by decide +kernel) G.b_len (db_cons (dr_var 0) db_nil)))) (DV.rd dv_int) (by rfl)) (dw_or1 (dt_not (dt_val (DV.rd (dv_call (ok_is_whole G) hr (by decide) tk (da_cons (DE.v (de_ix (dr_var 0) (DV.rd dv_int))) (da_cons dv_int (da_cons (dv_glob G.g_MOST_SIZE) da_nil)))))))))))
  (ds_one (ds_ret dv_bl))
  ds_nil)
  (ds_cons (ds_if (DW.t (dw_or (dt_not (dt_val (DV.rd (dv_call (ok__are_bounds G) hr (by decide) tk (da_cons (DE.v (de_ix (dr_var 0) (DV.rd dv_int))) da_nil))))) (dw_or1 (dt_not (dt_val (DV.rd (dv_isi isi_tup (by decide +kernel) G.b_tuple G.b_isinstance (DV.rd (DE.v (de_ix (dr_var 0) (DV.rd dv_int)))))))))))
  (ds_one (ds_ret dv_bl))
  ds_nil)
  (ds_one (ds_ret (dv_and (DE.v (de_callB (cr_all rfl) ok_allD (by decide +kernel) G.b_all (db_cons (DV.rd (DE.v (de_lc S.nd (di_seq (DE.v (de_ix (dr_var 0) (DV.rd dv_int)))) (blkOk_by (own := [("one", 1)]) (by rfl)) (fun _ _ _ _ _ => (dg_name 1 S.nd)) (fun _ _ _ _ _ => dts_nil) (fun _ _ _ _ _ => (dv_call (ok__is_pair G) hr (by decide) takes0 (da_cons (DE.v (de_callB call_len ok_lenD (by decide +kernel) G.b_len (db_cons (DV.rd (DE.v (de_ix (dr_var 0) (DV.rd dv_int)))) db_nil))) (da_cons (dv_var 1) da_nil))))))) db_nil))) (dv_one (dv_call (ok_ascends G) hr (by decide) tk (da_cons (DE.v (de_ix (dr_var 0) (DV.rd dv_int))) da_nil))))))))
def b_check_box_rules : Ms → Fl := (sIf (tNot' (tV' (vFn m_are_box_rules [(vVar 0)])))
  (sRaise 1)
  sNil)
def m_check_box_rules : Ms → Rz PyData := fnW 1 b_check_box_rules
set_option maxHeartbeats 8000000 in
theorem ok_check_box_rules (G : Fx K mg ct) : CallW P w K mg base ct 4 "check_box_rules" 1 m_check_box_rules := callW_of (N := N_check_box_rules) (n := 1) (g := b_check_box_rules) G.d_check_box_rules sc_check_box_rules rfl rfl fun f cdv A outer s H E hr => by
  have S := sc_check_box_rules
  have tk : Takes (cxOf (L2.CX P w) P w K mg base N_check_box_rules "check_box_rules" (defScope s_check_box_rules) f cdv A outer s H E) (fun cls d _ H => E cls d H) := takes_of rfl rfl rfl rfl
  have hp := passes_of (X := cxOf (L2.CX P w) P w K mg base N_check_box_rules "check_box_rules" (defScope s_check_box_rules) f cdv A outer s H E) rfl
  have hu := room_u hr 101 (by decide)
  have hu64 := room_u hr 64 (by decide)
  have hu105 := room_u hr 105 (by decide)
  exact (ds_one (ds_if (dt_not (dt_val (DV.rd (dv_call (ok_are_box_rules G) hr (by decide) tk (da_cons (dv_var 0) da_nil)))))
  (ds_one (ds_raise G.x_BadBoxRules tk))
  ds_nil))
def lc_fault_in_0 : Ms → Rz W := (eLc [6] (iSeq (vVar 1)) (gSet 6) (fun _ => .ok true) (vFn m_is_whole [(vVar 6), (vC (.int 0)), (vC (.int 12))]))
def fb_fault_in_1 : Ms → Fl := (sIf (tNot' (t3 leD leD (rVar 8) (toV (e2 ixD (rVar 1) (rVar 5))) (rVar 9)))
  (sRet (eTup [(vC (.str "bounds")), (vVar 5)]))
  sNil)
def fb_fault_in_2 : Ms → Fl := (sIf (tAnd' (t2 gtD (toV (e2 ixD (rVar 1) (rVar 6))) (vC (.int 0))) (t2 gtD (toV (e2 ixD (rVar 1) (rVar 7))) (vC (.int 0))))
  (sRet (eTup [(vC (.str "never")), (vVar 6), (vVar 7)]))
  sNil)
def b_fault_in : Ms → Fl := (sSeq
  (sAsg (vVar 0) (gTup' 3 (gCons (gSet 2) (gCons (gSet 3) (gCons (gSet 4) gNil)))))
  (sSeq
  (sIf (tOr' (tNot' (tV' (vIsi isTup (rVar 1)))) (tOr' (t2 neD (toV (eCall (g1 lenD) [(rVar 1)])) (toV (eCall (g1 lenD) [(rVar 3)]))) (tNot' (tV' (toV (eCall (g1 allD) [(toV lc_fault_in_0)]))))))
  (sRet (vC (.tuple [(.str "form")])))
  sNil)
  (sSeq
  (sIf (t2 neD (toV (eCall (g1 sumD) [(rVar 1)])) (rVar 2))
  (sRet (eTup [(vC (.str "size")), (toV (eCall (g1 sumD) [(rVar 1)]))]))
  sNil)
  (sSeq
  (sFor (iArg enumD [(vVar 3)]) (gTup' 2 (gCons (gSet 5) (gCons (gTup' 2 (gCons (gSet 8) (gCons (gSet 9) gNil))) gNil)))
  fb_fault_in_1)
  (sSeq
  (sFor (iSeq (vVar 4)) (gTup' 2 (gCons (gSet 6) (gCons (gSet 7) gNil)))
  fb_fault_in_2)
  (sRet (vC .none)))))))
def m_fault_in : Ms → Rz PyData := fnW 10 b_fault_in
set_option maxHeartbeats 8000000 in
theorem ok_fault_in (G : Fx K mg ct) : CallW P w K mg base ct 2 "fault_in" 2 m_fault_in := callW_of (N := N_fault_in) (n := 10) (g := b_fault_in) G.d_fault_in sc_fault_in rfl rfl fun f cdv A outer s H E hr => by
  have S := sc_fault_in
  have tk : Takes (cxOf (L2.CX P w) P w K mg base N_fault_in "fault_in" (defScope s_fault_in) f cdv A outer s H E) (fun cls d _ H => E cls d H) := takes_of rfl rfl rfl rfl
  have hp := passes_of (X := cxOf (L2.CX P w) P w K mg base N_fault_in "fault_in" (defScope s_fault_in) f cdv A outer s H E) rfl
  have hu := room_u hr 101 (by decide)
  have hu64 := room_u hr 64 (by decide)
  have hu105 := room_u hr 105 (by decide)
  exact (ds_cons (ds_asg (dv_var 0) (dg_tup (dgs_cons (dg_name 2 S.nd) (dgs_cons (dg_name 3 S.nd) (dgs_cons (dg_name 4 S.nd) dgs_nil)))))
  (ds_cons (ds_if (DW.t (dw_or (dt_not (dt_val (DV.rd (dv_isi isi_tup (by decide +kernel) G.b_tuple G.b_isinstance (dr_var 1))))) (dw_or (dt_cmp (op_neG hu) cmpOk_of (DV.rd (DE.v (de_callB call_len ok_lenD (by decide +kernel) G.b_len (db_cons (dr_var 1) db_nil)))) (DV.rd (DE.v (de_callB call_len ok_lenD (by decide +kernel) G.b_len (db_cons (dr_var 3) db_nil)))) (by rfl)) (dw_or1 (dt_not (dt_val (DV.rd (DE.v (de_callB (cr_all rfl) ok_allD (by decide +kernel) G.b_all (db_cons (DV.rd (DE.v (de_lc S.nd (di_seq (dv_var 1)) (blkOk_by (own := [("one", 6)]) (by rfl)) (fun _ _ _ _ _ => (dg_name 6 S.nd)) (fun _ _ _ _ _ => dts_nil) (fun _ _ _ _ _ => (dv_call (ok_is_whole G) hr (by decide) takes0 (da_cons (dv_var 6) (da_cons dv_int (da_cons (dv_glob G.g_MOST_SIZE) da_nil)))))))) db_nil))))))))))
  (ds_one (ds_ret (dv_glob G.g_FORM)))
  ds_nil)
  (ds_cons (ds_if (dt_cmp (op_neG hu) cmpOk_of (DV.rd (DE.v (de_callB (cr_sumD rfl) ok_sumD (by decide +kernel) G.b_sum (db_cons (dr_var 1) db_nil)))) (dr_var 2) (by rfl))
  (ds_one (ds_ret (dv_tup (da_cons dv_str (da_cons (DE.v (de_callB (cr_sumD rfl) ok_sumD (by decide +kernel) G.b_sum (db_cons (dr_var 1) db_nil))) da_nil)))))
  ds_nil)
  (ds_cons (ds_for hp (di_enum (da_cons (dv_var 3) da_nil) G.b_enumerate) (dg_tup (dgs_cons (dg_name 5 S.nd) (dgs_cons (dg_tup (dgs_cons (dg_name 8 S.nd) (dgs_cons (dg_name 9 S.nd) dgs_nil))) dgs_nil)))
  (ds_one (ds_if (dt_not (dt_chain (op_leG hu) (op_leG hu) cmpOk_of cmpOk_of (dr_var 8) (DV.rd (DE.v (de_ix (dr_var 1) (dr_var 5)))) (dr_var 9)))
  (ds_one (ds_ret (dv_tup (da_cons dv_str (da_cons (dv_var 5) da_nil)))))
  ds_nil)))
  (ds_cons (ds_for hp (di_seq (dv_var 4)) (dg_tup (dgs_cons (dg_name 6 S.nd) (dgs_cons (dg_name 7 S.nd) dgs_nil)))
  (ds_one (ds_if (DW.t (dw_and (dt_cmp (op_gtG hu) cmpOk_of (DV.rd (DE.v (de_ix (dr_var 1) (dr_var 6)))) (DV.rd dv_int) (by rfl)) (dw_and1 (dt_cmp (op_gtG hu) cmpOk_of (DV.rd (DE.v (de_ix (dr_var 1) (dr_var 7)))) (DV.rd dv_int) (by rfl)))))
  (ds_one (ds_ret (dv_tup (da_cons dv_str (da_cons (dv_var 6) (da_cons (dv_var 7) da_nil))))))
  ds_nil)))
  (ds_one (ds_ret dv_non)))))))
def b_box_fault : Ms → Fl := (sSeq
  (sExpr (vFn m_check_box_rules [(vVar 0)]))
  (sRet (vFn m_fault_in [(vVar 0), (vVar 1)])))
def m_box_fault : Ms → Rz PyData := fnW 2 b_box_fault
set_option maxHeartbeats 8000000 in
theorem ok_box_fault (G : Fx K mg ct) : CallW P w K mg base ct 5 "box_fault" 2 m_box_fault := callW_of (N := N_box_fault) (n := 2) (g := b_box_fault) G.d_box_fault sc_box_fault rfl rfl fun f cdv A outer s H E hr => by
  have S := sc_box_fault
  have tk : Takes (cxOf (L2.CX P w) P w K mg base N_box_fault "box_fault" (defScope s_box_fault) f cdv A outer s H E) (fun cls d _ H => E cls d H) := takes_of rfl rfl rfl rfl
  have hp := passes_of (X := cxOf (L2.CX P w) P w K mg base N_box_fault "box_fault" (defScope s_box_fault) f cdv A outer s H E) rfl
  have hu := room_u hr 101 (by decide)
  have hu64 := room_u hr 64 (by decide)
  have hu105 := room_u hr 105 (by decide)
  exact (ds_cons (ds_expr (dv_call (ok_check_box_rules G) hr (by decide) tk (da_cons (dv_var 0) da_nil)))
  (ds_one (ds_ret (dv_call (ok_fault_in G) hr (by decide) tk (da_cons (dv_var 0) (da_cons (dv_var 1) da_nil))))))
def b_count_boxes : Ms → Fl := (sSeq
  (sExpr (vFn m_check_box_rules [(vVar 0)]))
  sStuck)
def m_count_boxes : Ms → Rz PyData := fnW 1 b_count_boxes
set_option maxHeartbeats 8000000 in
theorem ok_count_boxes (G : Fx K mg ct) : CallW P w K mg base ct 5 "count_boxes" 1 m_count_boxes := callW_of (N := N_count_boxes) (n := 1) (g := b_count_boxes) G.d_count_boxes sc_count_boxes rfl rfl fun f cdv A outer s H E hr => by
  have S := sc_count_boxes
  have tk : Takes (cxOf (L2.CX P w) P w K mg base N_count_boxes "count_boxes" (defScope s_count_boxes) f cdv A outer s H E) (fun cls d _ H => E cls d H) := takes_of rfl rfl rfl rfl
  have hp := passes_of (X := cxOf (L2.CX P w) P w K mg base N_count_boxes "count_boxes" (defScope s_count_boxes) f cdv A outer s H E) rfl
  have hu := room_u hr 101 (by decide)
  have hu64 := room_u hr 64 (by decide)
  have hu105 := room_u hr 105 (by decide)
  exact (ds_cons (ds_expr (dv_call (ok_check_box_rules G) hr (by decide) tk (da_cons (dv_var 0) da_nil)))
  dss_never)
def b_box_at : Ms → Fl := (sSeq
  (sExpr (vFn m_check_box_rules [(vVar 0)]))
  sStuck)
def m_box_at : Ms → Rz PyData := fnW 3 b_box_at
set_option maxHeartbeats 8000000 in
theorem ok_box_at (G : Fx K mg ct) : CallW P w K mg base ct 5 "box_at" 2 m_box_at := callW_of (N := N_box_at) (n := 3) (g := b_box_at) G.d_box_at sc_box_at rfl rfl fun f cdv A outer s H E hr => by
  have S := sc_box_at
  have tk : Takes (cxOf (L2.CX P w) P w K mg base N_box_at "box_at" (defScope s_box_at) f cdv A outer s H E) (fun cls d _ H => E cls d H) := takes_of rfl rfl rfl rfl
  have hp := passes_of (X := cxOf (L2.CX P w) P w K mg base N_box_at "box_at" (defScope s_box_at) f cdv A outer s H E) rfl
  have hu := room_u hr 101 (by decide)
  have hu64 := room_u hr 64 (by decide)
  have hu105 := room_u hr 105 (by decide)
  exact (ds_cons (ds_expr (dv_call (ok_check_box_rules G) hr (by decide) tk (da_cons (dv_var 0) da_nil)))
  dss_never)
def b__check_box : Ms → Fl := (sSeq
  (sExpr (vFn m_check_box_rules [(vVar 0)]))
  (sIf (t2 notN (vFn m_fault_in [(vVar 0), (vVar 1)]) (vC .none))
  sStuck
  sNil))
def m__check_box : Ms → Rz PyData := fnW 2 b__check_box
set_option maxHeartbeats 8000000 in
theorem ok__check_box (G : Fx K mg ct) : CallW P w K mg base ct 5 "_check_box" 2 m__check_box := callW_of (N := N__check_box) (n := 2) (g := b__check_box) G.d__check_box sc__check_box rfl rfl fun f cdv A outer s H E hr => by
  have S := sc__check_box
  have tk : Takes (cxOf (L2.CX P w) P w K mg base N__check_box "_check_box" (defScope s__check_box) f cdv A outer s H E) (fun cls d _ H => E cls d H) := takes_of rfl rfl rfl rfl
  have hp := passes_of (X := cxOf (L2.CX P w) P w K mg base N__check_box "_check_box" (defScope s__check_box) f cdv A outer s H E) rfl
  have hu := room_u hr 101 (by decide)
  have hu64 := room_u hr 64 (by decide)
  have hu105 := room_u hr 105 (by decide)
  exact (ds_cons (ds_expr (dv_call (ok_check_box_rules G) hr (by decide) tk (da_cons (dv_var 0) da_nil)))
  (ds_one (ds_if (dt_cmp op_notN cmpOk_notN (DV.rd (dv_call (ok_fault_in G) hr (by decide) tk (da_cons (dv_var 0) (da_cons (dv_var 1) da_nil)))) (DV.rd dv_non) (by rfl))
  dss_never
  ds_nil)))
def b_number_of_box : Ms → Fl := (sSeq
  (sExpr (vFn m__check_box [(vVar 0), (vVar 1)]))
  sStuck)
def m_number_of_box : Ms → Rz PyData := fnW 2 b_number_of_box
set_option maxHeartbeats 8000000 in
theorem ok_number_of_box (G : Fx K mg ct) : CallW P w K mg base ct 6 "number_of_box" 2 m_number_of_box := callW_of (N := N_number_of_box) (n := 2) (g := b_number_of_box) G.d_number_of_box sc_number_of_box rfl rfl fun f cdv A outer s H E hr => by
  have S := sc_number_of_box
  have tk : Takes (cxOf (L2.CX P w) P w K mg base N_number_of_box "number_of_box" (defScope s_number_of_box) f cdv A outer s H E) (fun cls d _ H => E cls d H) := takes_of rfl rfl rfl rfl
  have hp := passes_of (X := cxOf (L2.CX P w) P w K mg base N_number_of_box "number_of_box" (defScope s_number_of_box) f cdv A outer s H E) rfl
  have hu := room_u hr 101 (by decide)
  have hu64 := room_u hr 64 (by decide)
  have hu105 := room_u hr 105 (by decide)
  exact (ds_cons (ds_expr (dv_call (ok__check_box G) hr (by decide) tk (da_cons (dv_var 0) (da_cons (dv_var 1) da_nil))))
  dss_never)
def b_next_box : Ms → Fl := (sSeq
  (sExpr (vFn m__check_box [(vVar 0), (vVar 1)]))
  sStuck)
def m_next_box : Ms → Rz PyData := fnW 4 b_next_box
set_option maxHeartbeats 8000000 in
theorem ok_next_box (G : Fx K mg ct) : CallW P w K mg base ct 6 "next_box" 2 m_next_box := callW_of (N := N_next_box) (n := 4) (g := b_next_box) G.d_next_box sc_next_box rfl rfl fun f cdv A outer s H E hr => by
  have S := sc_next_box
  have tk : Takes (cxOf (L2.CX P w) P w K mg base N_next_box "next_box" (defScope s_next_box) f cdv A outer s H E) (fun cls d _ H => E cls d H) := takes_of rfl rfl rfl rfl
  have hp := passes_of (X := cxOf (L2.CX P w) P w K mg base N_next_box "next_box" (defScope s_next_box) f cdv A outer s H E) rfl
  have hu := room_u hr 101 (by decide)
  have hu64 := room_u hr 64 (by decide)
  have hu105 := room_u hr 105 (by decide)
  exact (ds_cons (ds_expr (dv_call (ok__check_box G) hr (by decide) tk (da_cons (dv_var 0) (da_cons (dv_var 1) da_nil))))
  dss_never)
def b_boxes_from : Ms → Fl := (sSeq
  (sExpr (vFn m_check_box_rules [(vVar 0)]))
  sStuck)
def m_boxes_from : Ms → Rz PyData := fnW 6 b_boxes_from
set_option maxHeartbeats 8000000 in
theorem ok_boxes_from (G : Fx K mg ct) : CallW P w K mg base ct 5 "boxes_from" 3 m_boxes_from := callW_of (N := N_boxes_from) (n := 6) (g := b_boxes_from) G.d_boxes_from sc_boxes_from rfl rfl fun f cdv A outer s H E hr => by
  have S := sc_boxes_from
  have tk : Takes (cxOf (L2.CX P w) P w K mg base N_boxes_from "boxes_from" (defScope s_boxes_from) f cdv A outer s H E) (fun cls d _ H => E cls d H) := takes_of rfl rfl rfl rfl
  have hp := passes_of (X := cxOf (L2.CX P w) P w K mg base N_boxes_from "boxes_from" (defScope s_boxes_from) f cdv A outer s H E) rfl
  have hu := room_u hr 101 (by decide)
  have hu64 := room_u hr 64 (by decide)
  have hu105 := room_u hr 105 (by decide)
  exact (ds_cons (ds_expr (dv_call (ok_check_box_rules G) hr (by decide) tk (da_cons (dv_var 0) da_nil)))
  dss_never)
def b_never_needed : Ms → Fl := (sSeq
  (sExpr (vFn m_check_box_rules [(vVar 0)]))
  (sSeq
  (sAsg (vVar 0) (gTup' 3 (gCons (gSet 4) (gCons (gSet 5) (gCons (gSet 6) gNil)))))
  sStuck))
def m_never_needed : Ms → Rz PyData := fnW 9 b_never_needed
set_option maxHeartbeats 8000000 in
theorem ok_never_needed (G : Fx K mg ct) : CallW P w K mg base ct 5 "never_needed" 1 m_never_needed := callW_of (N := N_never_needed) (n := 9) (g := b_never_needed) G.d_never_needed sc_never_needed rfl rfl fun f cdv A outer s H E hr => by
  have S := sc_never_needed
  have tk : Takes (cxOf (L2.CX P w) P w K mg base N_never_needed "never_needed" (defScope s_never_needed) f cdv A outer s H E) (fun cls d _ H => E cls d H) := takes_of rfl rfl rfl rfl
  have hp := passes_of (X := cxOf (L2.CX P w) P w K mg base N_never_needed "never_needed" (defScope s_never_needed) f cdv A outer s H E) rfl
  have hu := room_u hr 101 (by decide)
  have hu64 := room_u hr 64 (by decide)
  have hu105 := room_u hr 105 (by decide)
  exact (ds_cons (ds_expr (dv_call (ok_check_box_rules G) hr (by decide) tk (da_cons (dv_var 0) da_nil)))
  (ds_cons (ds_asg (dv_var 0) (dg_tup (dgs_cons (dg_name 4 S.nd) (dgs_cons (dg_name 5 S.nd) (dgs_cons (dg_name 6 S.nd) dgs_nil)))))
  dss_never))
def b__law_refused : Ms → Fl := (sSeq
  (sTryIs
  (sIf (t2 eqD (rVar 0) (vC (.int 0)))
  (sExpr (vFn m_box_fault [(vVar 1), (vC .none)]))
  (sIf (t2 eqD (rVar 0) (vC (.int 1)))
  (sExpr (vFn m_count_boxes [(vVar 1)]))
  (sIf (t2 eqD (rVar 0) (vC (.int 2)))
  (sExpr (vFn m_box_at [(vVar 1), (vC .none)]))
  (sIf (t2 eqD (rVar 0) (vC (.int 3)))
  (sExpr (vFn m_number_of_box [(vVar 1), (vC .none)]))
  (sIf (t2 eqD (rVar 0) (vC (.int 4)))
  (sExpr (vFn m_next_box [(vVar 1), (vC .none)]))
  (sIf (t2 eqD (rVar 0) (vC (.int 5)))
  (sExpr (vFn m_boxes_from [(vVar 1), (vC .none), (vC .none)]))
  (sExpr (vFn m_never_needed [(vVar 1)])))))))) 2 p_BakeError (fun c => (i_BadBoxRules c).map .bool))
  (sRet (vC (.bool false))))
def m__law_refused : Ms → Rz PyData := fnW 3 b__law_refused
set_option maxHeartbeats 8000000 in
theorem ok__law_refused (G : Fx K mg ct) : CallW P w K mg base ct 7 "_law_refused" 2 m__law_refused := callW_of (N := N__law_refused) (n := 3) (g := b__law_refused) G.d__law_refused sc__law_refused rfl rfl fun f cdv A outer s H E hr => by
  have S := sc__law_refused
  have tk : Takes (cxOf (L2.CX P w) P w K mg base N__law_refused "_law_refused" (defScope s__law_refused) f cdv A outer s H E) (fun cls d _ H => E cls d H) := takes_of rfl rfl rfl rfl
  have hp := passes_of (X := cxOf (L2.CX P w) P w K mg base N__law_refused "_law_refused" (defScope s__law_refused) f cdv A outer s H E) rfl
  have hu := room_u hr 101 (by decide)
  have hu64 := room_u hr 64 (by decide)
  have hu105 := room_u hr 105 (by decide)
  exact (ds_cons (ds_tryIs 2 tk S.nd ⟨rfl, by decide, .inl G.n_BakeError⟩ G.p_BakeError (fun W pn xe tk' hp' => (ds_one (ds_if (dt_cmp (op_eqG hu) cmpOk_of (dr_var 0) (DV.rd dv_int) (by rfl))
  (ds_one (ds_expr (dv_call (ok_box_fault G) hr (by decide) tk' (da_cons (dv_var 1) (da_cons dv_non da_nil)))))
  (ds_one (ds_if (dt_cmp (op_eqG hu) cmpOk_of (dr_var 0) (DV.rd dv_int) (by rfl))
  (ds_one (ds_expr (dv_call (ok_count_boxes G) hr (by decide) tk' (da_cons (dv_var 1) da_nil))))
  (ds_one (ds_if (dt_cmp (op_eqG hu) cmpOk_of (dr_var 0) (DV.rd dv_int) (by rfl))
  (ds_one (ds_expr (dv_call (ok_box_at G) hr (by decide) tk' (da_cons (dv_var 1) (da_cons dv_non da_nil)))))
  (ds_one (ds_if (dt_cmp (op_eqG hu) cmpOk_of (dr_var 0) (DV.rd dv_int) (by rfl))
  (ds_one (ds_expr (dv_call (ok_number_of_box G) hr (by decide) tk' (da_cons (dv_var 1) (da_cons dv_non da_nil)))))
  (ds_one (ds_if (dt_cmp (op_eqG hu) cmpOk_of (dr_var 0) (DV.rd dv_int) (by rfl))
  (ds_one (ds_expr (dv_call (ok_next_box G) hr (by decide) tk' (da_cons (dv_var 1) (da_cons dv_non da_nil)))))
  (ds_one (ds_if (dt_cmp (op_eqG hu) cmpOk_of (dr_var 0) (DV.rd dv_int) (by rfl))
  (ds_one (ds_expr (dv_call (ok_boxes_from G) hr (by decide) tk' (da_cons (dv_var 1) (da_cons dv_non (da_cons dv_non da_nil))))))
  (ds_one (ds_expr (dv_call (ok_never_needed G) hr (by decide) tk' (da_cons (dv_var 1) da_nil))))))))))))))))) (dis_is (cv := ctA ct 1) (hc := G.i_BadBoxRules) (hy := G.n_BadBoxRules) (hmi := G.b_isinstance)))
  (ds_one (ds_ret dv_bl)))
def lc__law_boxes_0 : Ms → Rz W := (eLc [9] (iArg rng2 [(vVar 5), (toV (e2 addD (rVar 6) (vC (.int 1))))]) (gSet 9) (t2 leD (toV (e2 addD (toV (eCall (g1 sumD) [(rVar 8)])) (rVar 9))) (rVar 2)) (toV (e2 addD (rVar 8) (eTup [(vVar 9)]))))
def fb__law_boxes_1 : Ms → Fl := (sSet 7 (ofV (toV (e2 addD (rVar 7) (toV lc__law_boxes_0)))))
def fb__law_boxes_2 : Ms → Fl := (sSeq
  (sSet 7 (ofV (toV (eLst []))))
  (sSeq
  (sFor (iSeq (vVar 1)) (gSet 8)
  fb__law_boxes_1)
  (sSet 1 (ofV (vVar 7)))))
def lc__law_boxes_3 : Ms → Rz W := (eLc [10, 11] (iSeq (vVar 4)) (gTup' 2 (gCons (gSet 10) (gCons (gSet 11) gNil))) (fun _ => .ok true) (vAnd (v2 gtD (toV (e2 ixD (rVar 8) (rVar 10))) (vC (.int 0))) (v2 gtD (toV (e2 ixD (rVar 8) (rVar 11))) (vC (.int 0)))))
def lc__law_boxes_4 : Ms → Rz W := (eLc [8] (iSeq (vVar 1)) (gSet 8) (tAnd' (t2 eqD (toV (eCall (g1 sumD) [(rVar 8)])) (rVar 2)) (tNot' (tV' (toV (eCall (g1 anyD) [(toV lc__law_boxes_3)]))))) (vVar 8))
def b__law_boxes : Ms → Fl := (sSeq
  (sAsg (vVar 0) (gTup' 3 (gCons (gSet 2) (gCons (gSet 3) (gCons (gSet 4) gNil)))))
  (sSeq
  (sSet 1 (ofV (toV (eLst [(eTup [])]))))
  (sSeq
  (sFor (iSeq (vVar 3)) (gTup' 2 (gCons (gSet 5) (gCons (gSet 6) gNil)))
  fb__law_boxes_2)
  (sRet (toV lc__law_boxes_4)))))
def m__law_boxes : Ms → Rz PyData := fnW 12 b__law_boxes
set_option maxHeartbeats 8000000 in
theorem ok__law_boxes (G : Fx K mg ct) : CallW P w K mg base ct 1 "_law_boxes" 1 m__law_boxes := callW_of (N := N__law_boxes) (n := 12) (g := b__law_boxes) G.d__law_boxes sc__law_boxes rfl rfl fun f cdv A outer s H E hr => by
  have S := sc__law_boxes
  have tk : Takes (cxOf (L2.CX P w) P w K mg base N__law_boxes "_law_boxes" (defScope s__law_boxes) f cdv A outer s H E) (fun cls d _ H => E cls d H) := takes_of rfl rfl rfl rfl
  have hp := passes_of (X := cxOf (L2.CX P w) P w K mg base N__law_boxes "_law_boxes" (defScope s__law_boxes) f cdv A outer s H E) rfl
  have hu := room_u hr 101 (by decide)
  have hu64 := room_u hr 64 (by decide)
  have hu105 := room_u hr 105 (by decide)
  exact (ds_cons (ds_asg (dv_var 0) (dg_tup (dgs_cons (dg_name 2 S.nd) (dgs_cons (dg_name 3 S.nd) (dgs_cons (dg_name 4 S.nd) dgs_nil)))))
  (ds_cons (ds_set 1 (DV.toE (DE.v (de_lst (da_cons (dv_tup da_nil) da_nil)))) S.nd)
  (ds_cons (ds_for hp (di_seq (dv_var 3)) (dg_tup (dgs_cons (dg_name 5 S.nd) (dgs_cons (dg_name 6 S.nd) dgs_nil)))
  (ds_cons (ds_set 7 (DV.toE (DE.v (de_lst da_nil))) S.nd)
  (ds_cons (ds_for hp (di_seq (dv_var 1)) (dg_name 8 S.nd)
  (ds_one (ds_set 7 (DV.toE (DE.v (de_op op_addD ok_addD (dr_var 7) (DV.rd (DE.v (de_lc S.nd (di_range2 (da_cons (dv_var 5) (da_cons (DE.v (de_op op_addD ok_addD (dr_var 6) (DV.rd dv_int))) da_nil)) G.b_range) (blkOk_by (own := [("count", 9)]) (by rfl)) (fun _ _ _ _ _ => (dg_name 9 S.nd)) (fun _ _ _ _ _ => (dts_one (dt_cmp (op_leG hu) cmpOk_of (DV.rd (DE.v (de_op op_addD ok_addD (DV.rd (DE.v (de_callB (cr_sumD rfl) ok_sumD (by decide +kernel) G.b_sum (db_cons (dr_var 8) db_nil)))) (dr_var 9)))) (dr_var 2) (by rfl)))) (fun _ _ _ _ _ => (DE.v (de_op op_addD ok_addD (dr_var 8) (DV.rd (dv_tup (da_cons (dv_var 9) da_nil)))))))))))) S.nd)))
  (ds_one (ds_set 1 (DV.toE (dv_var 7)) S.nd)))))
  (ds_one (ds_ret (DE.v (de_lc S.nd (di_seq (dv_var 1)) (blkOk_by (own := [("row", 8)]) (by rfl)) (fun _ _ _ _ _ => (dg_name 8 S.nd)) (fun _ _ _ _ _ => (dts_one (DW.t (dw_and (dt_cmp (op_eqG hu) cmpOk_of (DV.rd (DE.v (de_callB (cr_sumD rfl) ok_sumD (by decide +kernel) G.b_sum (db_cons (dr_var 8) db_nil)))) (dr_var 2) (by rfl)) (dw_and1 (dt_not (dt_val (DV.rd (DE.v (de_callB (cr_any rfl) ok_anyD (by decide +kernel) G.b_any (db_cons (DV.rd (DE.v (de_lc S.nd (di_seq (dv_var 4)) (blkOk_by (own := [("one", 10), ("two", 11)]) (by rfl)) (fun _ _ _ _ _ => (dg_tup (dgs_cons (dg_name 10 S.nd) (dgs_cons (dg_name 11 S.nd) dgs_nil)))) (fun _ _ _ _ _ => dts_nil) (fun _ _ _ _ _ => (dv_and (dv_cmp (op_gtG hu) cmpOk_of (DV.rd (DE.v (de_ix (dr_var 8) (dr_var 10)))) (DV.rd dv_int) (by rfl)) (dv_one (dv_cmp (op_gtG hu) cmpOk_of (DV.rd (DE.v (de_ix (dr_var 8) (dr_var 11)))) (DV.rd dv_int) (by rfl)))))))) db_nil))))))))))) (fun _ _ _ _ _ => (dv_var 8)))))))))
def lc__law_due_0 : Ms → Rz W := (eLc [9] (iSeq (vVar 1)) (gSet 9) (fun _ => .ok true) (vFn m__law_is_number [(vVar 9), (vC (.int 0)), (vC (.int 12))]))
def lc__law_due_1 : Ms → Rz W := (eLc [7] (iArg rng1 [(toV (eCall (g1 lenD) [(rVar 1)]))]) (gSet 7) (tOr' (t2 ltD (toV (e2 ixD (rVar 1) (rVar 7))) (toV (e2 ixD (toV (e2 ixD (rVar 5) (rVar 7))) (vC (.int 0))))) (t2 gtD (toV (e2 ixD (rVar 1) (rVar 7))) (toV (e2 ixD (toV (e2 ixD (rVar 5) (rVar 7))) (vC (.int 1)))))) (vVar 7))
def lc__law_due_2 : Ms → Rz W := (eLc [8] (iSeq (vVar 6)) (gSet 8) (t2 gtD (toV (eCall (g12 minD1 min2D) [(toV (e2 ixD (rVar 1) (toV (e2 ixD (rVar 8) (vC (.int 0)))))), (toV (e2 ixD (rVar 1) (toV (e2 ixD (rVar 8) (vC (.int 1))))))])) (vC (.int 0))) (vVar 8))
def b__law_due : Ms → Fl := (sSeq
  (sAsg (vVar 0) (gTup' 3 (gCons (gSet 4) (gCons (gSet 5) (gCons (gSet 6) gNil)))))
  (sSeq
  (sIf (tOr' (tNot' (tV' (vIsi isTup (rVar 1)))) (tOr' (t2 neD (toV (eCall (g1 lenD) [(rVar 1)])) (toV (eCall (g1 lenD) [(rVar 5)]))) (tNot' (tV' (toV (eCall (g1 allD) [(toV lc__law_due_0)]))))))
  (sRet (eTup [(vC (.str "form"))]))
  sNil)
  (sSeq
  (sIf (t2 neD (toV (eCall (g1 sumD) [(rVar 1)])) (rVar 4))
  (sRet (eTup [(vC (.str "size")), (toV (eCall (g1 sumD) [(rVar 1)]))]))
  sNil)
  (sSeq
  (sPost 2 (sSet 2 lc__law_due_1))
  (sSeq
  (sIf (t2 gtD (toV (eCall (g1 lenD) [(rVar 2)])) (vC (.int 0)))
  (sRet (eTup [(vC (.str "bounds")), (toV (e2 ixD (rVar 2) (vC (.int 0))))]))
  sNil)
  (sSeq
  (sPost 3 (sSet 3 lc__law_due_2))
  (sRet (vIf (t2 gtD (toV (eCall (g1 lenD) [(rVar 3)])) (vC (.int 0))) (toV (e2 addD (eTup [(vC (.str "never"))]) (toV (e2 ixD (rVar 3) (vC (.int 0)))))) (vC .none)))))))))
def m__law_due : Ms → Rz PyData := fnW 10 b__law_due
set_option maxHeartbeats 8000000 in
theorem ok__law_due (G : Fx K mg ct) : CallW P w K mg base ct 2 "_law_due" 2 m__law_due := callW_of (N := N__law_due) (n := 10) (g := b__law_due) G.d__law_due sc__law_due rfl rfl fun f cdv A outer s H E hr => by
  have S := sc__law_due
  have tk : Takes (cxOf (L2.CX P w) P w K mg base N__law_due "_law_due" (defScope s__law_due) f cdv A outer s H E) (fun cls d _ H => E cls d H) := takes_of rfl rfl rfl rfl
  have hp := passes_of (X := cxOf (L2.CX P w) P w K mg base N__law_due "_law_due" (defScope s__law_due) f cdv A outer s H E) rfl
  have hu := room_u hr 101 (by decide)
  have hu64 := room_u hr 64 (by decide)
  have hu105 := room_u hr 105 (by decide)
  exact (ds_cons (ds_asg (dv_var 0) (dg_tup (dgs_cons (dg_name 4 S.nd) (dgs_cons (dg_name 5 S.nd) (dgs_cons (dg_name 6 S.nd) dgs_nil)))))
  (ds_cons (ds_if (DW.t (dw_or (dt_not (dt_val (DV.rd (dv_isi isi_tup (by decide +kernel) G.b_tuple G.b_isinstance (dr_var 1))))) (dw_or (dt_cmp (op_neG hu) cmpOk_of (DV.rd (DE.v (de_callB call_len ok_lenD (by decide +kernel) G.b_len (db_cons (dr_var 1) db_nil)))) (DV.rd (DE.v (de_callB call_len ok_lenD (by decide +kernel) G.b_len (db_cons (dr_var 5) db_nil)))) (by rfl)) (dw_or1 (dt_not (dt_val (DV.rd (DE.v (de_callB (cr_all rfl) ok_allD (by decide +kernel) G.b_all (db_cons (DV.rd (DE.v (de_lc S.nd (di_seq (dv_var 1)) (blkOk_by (own := [("one", 9)]) (by rfl)) (fun _ _ _ _ _ => (dg_name 9 S.nd)) (fun _ _ _ _ _ => dts_nil) (fun _ _ _ _ _ => (dv_call (ok__law_is_number G) hr (by decide) takes0 (da_cons (dv_var 9) (da_cons dv_int (da_cons dv_int da_nil)))))))) db_nil))))))))))
  (ds_one (ds_ret (dv_tup (da_cons dv_str da_nil))))
  ds_nil)
  (ds_cons (ds_if (dt_cmp (op_neG hu) cmpOk_of (DV.rd (DE.v (de_callB (cr_sumD rfl) ok_sumD (by decide +kernel) G.b_sum (db_cons (dr_var 1) db_nil)))) (dr_var 4) (by rfl))
  (ds_one (ds_ret (dv_tup (da_cons dv_str (da_cons (DE.v (de_callB (cr_sumD rfl) ok_sumD (by decide +kernel) G.b_sum (db_cons (dr_var 1) db_nil))) da_nil)))))
  ds_nil)
  (ds_cons (ds_post 2 (ds_lc 2 S.nd (di_range1 (da_cons (DE.v (de_callB call_len ok_lenD (by decide +kernel) G.b_len (db_cons (dr_var 1) db_nil))) da_nil) G.b_range) (blkOk_by (own := [("kind", 7)]) (by rfl)) (fun _ _ _ _ _ => (dg_name 7 S.nd)) (fun _ _ _ _ _ => (dts_one (DW.t (dw_or (dt_cmp (op_ltG hu) cmpOk_of (DV.rd (DE.v (de_ix (dr_var 1) (dr_var 7)))) (DV.rd (DE.v (de_ix (DV.rd (DE.v (de_ix (dr_var 5) (dr_var 7)))) (DV.rd dv_int)))) (by rfl)) (dw_or1 (dt_cmp (op_gtG hu) cmpOk_of (DV.rd (DE.v (de_ix (dr_var 1) (dr_var 7)))) (DV.rd (DE.v (de_ix (DV.rd (DE.v (de_ix (dr_var 5) (dr_var 7)))) (DV.rd dv_int)))) (by rfl))))))) (fun _ _ _ _ _ => (dv_var 7))))
  (ds_cons (ds_if (dt_cmp (op_gtG hu) cmpOk_of (DV.rd (DE.v (de_callB call_len ok_lenD (by decide +kernel) G.b_len (db_cons (dr_var 2) db_nil)))) (DV.rd dv_int) (by rfl))
  (ds_one (ds_ret (dv_tup (da_cons dv_str (da_cons (DE.v (de_ix (dr_var 2) (DV.rd dv_int))) da_nil)))))
  ds_nil)
  (ds_cons (ds_post 3 (ds_lc 3 S.nd (di_seq (dv_var 6)) (blkOk_by (own := [("pair", 8)]) (by rfl)) (fun _ _ _ _ _ => (dg_name 8 S.nd)) (fun _ _ _ _ _ => (dts_one (dt_cmp (op_gtG hu) cmpOk_of (DV.rd (DE.v (de_callB (cr_minA rfl hu105) ok_minA (by decide +kernel) G.b_min (db_cons (DV.rd (DE.v (de_ix (dr_var 1) (DV.rd (DE.v (de_ix (dr_var 8) (DV.rd dv_int))))))) (db_cons (DV.rd (DE.v (de_ix (dr_var 1) (DV.rd (DE.v (de_ix (dr_var 8) (DV.rd dv_int))))))) db_nil))))) (DV.rd dv_int) (by rfl)))) (fun _ _ _ _ _ => (dv_var 8))))
  (ds_one (ds_ret (dv_if (dt_cmp (op_gtG hu) cmpOk_of (DV.rd (DE.v (de_callB call_len ok_lenD (by decide +kernel) G.b_len (db_cons (dr_var 3) db_nil)))) (DV.rd dv_int) (by rfl)) (DE.v (de_op op_addD ok_addD (DV.rd (dv_tup (da_cons dv_str da_nil))) (DV.rd (DE.v (de_ix (dr_var 3) (DV.rd dv_int)))))) dv_non)))))))))
def fb_law_0 : Ms → Fl := (sApp 6 (eTup [(vVar 11), (toV (e2 addD (toV (e2 addD (toV (eSl (rVar 12) oNone (oSome (rVar 5)))) (eTup [(vVar 7)]))) (toV (eSl (rVar 12) (oSome (toV (e2 addD (rVar 5) (vC (.int 1))))) oNone)))), (vVar 13)]))
def fb_law_1 : Ms → Fl := (sSet 6 (e2 addD (rVar 6) (toV (eLst [(eTup [(vVar 11), (vVar 12), (toV (e2 addD (rVar 13) (eTup [(vVar 7)])))]), (eTup [(vVar 11), (vVar 12), (eTup [(vVar 7)])]), (eTup [(vVar 11), (vVar 12), (toV (e2 addD (eTup [(vVar 7)]) (rVar 13)))])]))))
def lc_law_2 : Ms → Rz W := (eLc [17] (iArg rng1 [(vC (.int 7))]) (gSet 17) (fun _ => .ok true) (vFn m__law_refused [(vVar 17), (vVar 8)]))
def fb_law_3 : Ms → Fl := (sSeq
  (sSet 14 (ofV (vFn m__law_are_rules [(vVar 8)])))
  (sIf (tOr' (t2 neD (vFn m_are_box_rules [(vVar 8)]) (rVar 14)) (tOr' (tNot' (tV' (vIsi isBool (vFn m_are_box_rules [(vVar 8)])))) (tAnd' (tNot' (tV' (rVar 14))) (tNot' (tV' (toV (eCall (g1 allD) [(toV lc_law_2)])))))))
  (sRet (vC (.bool false)))
  sNil))
def lc_law_4 : Ms → Rz W := (eLc [16] (iArg rng1 [(toV (eCall (g1 lenD) [(rVar 12)]))]) (gSet 16) (fun _ => .ok true) (toV (e2 modD (toV (eCall (g1 toIntD) [(toV (e2 ixD (rVar 1) (toV (e2 modD (toV (e2 addD (toV (e2 addD (vC (.int 40)) (rVar 16))) (toV (e2 mulD (vC (.int 3)) (rVar 15))))) (vC (.int 60))))))])) (vC (.int 4)))))
def lc_law_5 : Ms → Rz W := (eLc [15] (iArg rng1 [(vC (.int 6))]) (gSet 15) (fun _ => .ok true) (toV (eCall (g1 tupleD) [(toV lc_law_4)])))
def fb_law_6 : Ms → Fl := (sIf (t2 neD (vFn m_box_fault [(vVar 4), (vVar 8)]) (vFn m__law_due [(vVar 4), (vVar 8)]))
  (sRet (vC (.bool false)))
  sNil)
def fb_law_7 : Ms → Fl := (sSeq
  (sSet 4 (ofV (vFn m__law_rules [(toV (e2 addD (toV (eSl (rVar 1) (oSome (toV (e2 mulD (vC (.int 11)) (rVar 2)))) oNone)) (rVar 1)))])))
  (sSeq
  (sAsg (vVar 4) (gTup' 3 (gCons (gSet 11) (gCons (gSet 12) (gCons (gSet 13) gNil)))))
  (sSeq
  (sSet 5 (ofV (toV (e2 modD (toV (eCall (g1 toIntD) [(toV (e2 ixD (rVar 1) (toV (e2 addD (vC (.int 50)) (rVar 2)))))])) (toV (eCall (g1 lenD) [(rVar 12)]))))))
  (sSeq
  (sSet 6 (eLst [(vVar 4), (toV (eCall (g1 listD) [(rVar 4)])), (toV (eSl (rVar 4) oNone (oSome (vC (.int 2))))), (toV (e2 addD (rVar 4) (eTup [(vC (.int 0))]))), (vC .none), (vC (.int 7)), (eTup [(vC (.int 0)), (vVar 12), (vVar 13)]), (eTup [(vC (.int 13)), (vVar 12), (vVar 13)]), (eTup [(vC (.bool true)), (vVar 12), (vVar 13)])]))
  (sSeq
  (sSet 6 (e2 addD (rVar 6) (toV (eLst [(eTup [(vVar 11), (toV (eCall (g1 listD) [(rVar 12)])), (vVar 13)]), (eTup [(vVar 11), (eTup []), (vVar 13)]), (eTup [(vVar 11), (toV (e2 mulD (rVar 12) (vC (.int 7)))), (vVar 13)]), (eTup [(vVar 11), (vVar 12), (toV (eCall (g1 listD) [(rVar 13)]))])]))))
  (sSeq
  (sFor (iSeq (toV (eLst [(eTup [(toV (e1 negD (vC (.int 1)))), (vC (.int 2))]), (eTup [(vC (.int 0)), (vC (.int 13))]), (eTup [(vC (.int 3)), (vC (.int 2))]), (eTup [(vC (.bool true)), (vC (.int 2))]), (eTup [(vC (.int 0)), (vC .none)]), (eTup [(vC (.int 0))]), (toV (eLst [(vC (.int 0)), (vC (.int 1))])), (vC .none), (eTup [(vC (.int 0)), (vC (.int 12))]), (eTup [(vC (.int 12)), (vC (.int 12))])]))) (gSet 7)
  fb_law_0)
  (sSeq
  (sFor (iSeq (toV (eLst [(eTup [(vC (.int 0)), (vC (.int 0))]), (eTup [(vC (.int 1)), (vC (.int 0))]), (eTup [(vC (.int 0)), (toV (eCall (g1 lenD) [(rVar 12)]))]), (eTup [(toV (e1 negD (vC (.int 1)))), (vC (.int 0))]), (eTup [(vC (.bool false)), (vC (.int 1))]), (eTup [(vC (.int 0))]), (vC .none), (toV (eLst [(vC (.int 0)), (vC (.int 1))])), (eTup [(vC (.int 0)), (vC (.int 1))])]))) (gSet 7)
  fb_law_1)
  (sSeq
  (sFor (iSeq (toV (e2 addD (rVar 6) (toV (eLst [(eTup [(vVar 11), (vVar 12), (toV (eRev (rVar 13)))]), (eTup [(vVar 11), (vVar 12), (toV (e2 addD (rVar 13) (toV (eSl (rVar 13) oNone (oSome (vC (.int 1)))))))])]))))) (gSet 8)
  fb_law_3)
  (sSeq
  (sPost 9 (sSet 9 lc_law_5))
  (sSeq
  (sSet 10 (ofV (toV (e2 ixD (toV (e2 addD (vFn m__law_boxes [(vVar 4)]) (rVar 9))) (vC (.int 0))))))
  (sFor (iSeq (toV (e2 addD (rVar 9) (toV (eLst [(vVar 10), (toV (eRev (rVar 10))), (toV (eSl (rVar 10) (oSome (vC (.int 1))) oNone)), (toV (e2 addD (rVar 10) (eTup [(vC (.int 0))]))), (toV (eCall (g1 listD) [(rVar 10)])), (vC .none), (vC (.int 7)), (toV (e2 addD (eTup [(toV (e1 negD (vC (.int 1))))]) (toV (eSl (rVar 10) (oSome (vC (.int 1))) oNone)))), (toV (e2 addD (eTup [(vC (.int 13))]) (toV (eSl (rVar 10) (oSome (vC (.int 1))) oNone)))), (toV (e2 addD (eTup [(vC (.bool true))]) (toV (eSl (rVar 10) (oSome (vC (.int 1))) oNone)))), (toV (e2 addD (eTup [(vVar 11)]) (toV (e2 mulD (eTup [(vC (.int 0))]) (toV (e2 subD (toV (eCall (g1 lenD) [(rVar 12)])) (vC (.int 1))))))))]))))) (gSet 8)
  fb_law_6)))))))))))
def b_law : Ms → Fl := (sSeq
  (sSet 1 (ofV (vFnR m__law_draws 0 (vC (.int 60)))))
  (sSeq
  (sFor (iArg rng1 [(vC (.int 4))]) (gSet 2)
  fb_law_7)
  (sSeq
  (sSet 3 (ofV (eTup [(vC (.int 3)), (eTup [(eTup [(vC (.int 1)), (vC (.int 3))]), (eTup [(vC (.int 1)), (vC (.int 3))])]), (eTup [(eTup [(vC (.int 0)), (vC (.int 1))])])])))
  (sRet (vAnd (v2 eqD (vFn m_box_fault [(vVar 3), (eTup [(vC (.int 1)), (vC (.int 2))])]) (eTup [(vC (.str "never")), (vC (.int 0)), (vC (.int 1))])) (vAnd (v2 eqD (vFn m_box_fault [(vVar 3), (eTup [(vC (.int 3)), (vC (.int 0))])]) (eTup [(vC (.str "bounds")), (vC (.int 1))])) (vAnd (v2 eqD (vFn m_box_fault [(vVar 3), (eTup [(vC (.int 1)), (vC (.int 1))])]) (eTup [(vC (.str "size")), (vC (.int 2))])) (v2 isN (vFn m_box_fault [(eTup [(vC (.int 3)), (eTup [(eTup [(vC (.int 1)), (vC (.int 3))]), (eTup [(vC (.int 1)), (vC (.int 3))])]), (eTup [])]), (eTup [(vC (.int 1)), (vC (.int 2))])]) (vC .none)))))))))
def m_law : Ms → Rz PyData := fnW 18 b_law
set_option maxHeartbeats 8000000 in
theorem ok_law (G : Fx K mg ct) : CallW P w K mg base ct 8 "law" 1 m_law := callW_of (N := N_law) (n := 18) (g := b_law) G.d_law sc_law rfl rfl fun f cdv A outer s H E hr => by
  have S := sc_law
  have tk : Takes (cxOf (L2.CX P w) P w K mg base N_law "law" (defScope s_law) f cdv A outer s H E) (fun cls d _ H => E cls d H) := takes_of rfl rfl rfl rfl
  have hp := passes_of (X := cxOf (L2.CX P w) P w K mg base N_law "law" (defScope s_law) f cdv A outer s H E) rfl
  have hu := room_u hr 101 (by decide)
  have hu64 := room_u hr 64 (by decide)
  have hu105 := room_u hr 105 (by decide)
  exact (ds_cons (ds_set 1 (DV.toE (dv_callR 0 (ok__law_draws G) hr (by decide) tk dv_int)) S.nd)
  (ds_cons (ds_for hp (di_range1 (da_cons dv_int da_nil) G.b_range) (dg_name 2 S.nd)
  (ds_cons (ds_set 4 (DV.toE (dv_call (ok__law_rules G) hr (by decide) tk (da_cons (DE.v (de_op op_addD ok_addD (DV.rd (DE.v (de_sl (dr_var 1) (do_some (DV.rd (DE.v (de_op op_mulD ok_mulD (DV.rd dv_int) (dr_var 2))))) do_none))) (dr_var 1))) da_nil))) S.nd)
  (ds_cons (ds_asg (dv_var 4) (dg_tup (dgs_cons (dg_name 11 S.nd) (dgs_cons (dg_name 12 S.nd) (dgs_cons (dg_name 13 S.nd) dgs_nil)))))
  (ds_cons (ds_set 5 (DV.toE (DE.v (de_op op_mod ok_modD (DV.rd (DE.v (de_callTy call_int1 ok_toIntD (by decide +kernel) G.b_int (db_cons (DV.rd (DE.v (de_ix (dr_var 1) (DV.rd (DE.v (de_op op_addD ok_addD (DV.rd dv_int) (dr_var 2))))))) db_nil)))) (DV.rd (DE.v (de_callB call_len ok_lenD (by decide +kernel) G.b_len (db_cons (dr_var 12) db_nil))))))) S.nd)
  (ds_cons (ds_set 6 (de_lst (da_cons (dv_var 4) (da_cons (DE.v (de_callTy call_list_of ok_listD (by decide +kernel) G.b_list (db_cons (dr_var 4) db_nil))) (da_cons (DE.v (de_sl (dr_var 4) do_none (do_some (DV.rd dv_int)))) (da_cons (DE.v (de_op op_addD ok_addD (dr_var 4) (DV.rd (dv_tup (da_cons dv_int da_nil))))) (da_cons dv_non (da_cons dv_int (da_cons (dv_tup (da_cons dv_int (da_cons (dv_var 12) (da_cons (dv_var 13) da_nil)))) (da_cons (dv_tup (da_cons dv_int (da_cons (dv_var 12) (da_cons (dv_var 13) da_nil)))) (da_cons (dv_tup (da_cons dv_bl (da_cons (dv_var 12) (da_cons (dv_var 13) da_nil)))) da_nil)))))))))) S.nd)
  (ds_cons (ds_set 6 (de_op op_addD ok_addD (dr_var 6) (DV.rd (DE.v (de_lst (da_cons (dv_tup (da_cons (dv_var 11) (da_cons (DE.v (de_callTy call_list_of ok_listD (by decide +kernel) G.b_list (db_cons (dr_var 12) db_nil))) (da_cons (dv_var 13) da_nil)))) (da_cons (dv_tup (da_cons (dv_var 11) (da_cons (dv_tup da_nil) (da_cons (dv_var 13) da_nil)))) (da_cons (dv_tup (da_cons (dv_var 11) (da_cons (DE.v (de_op op_mulD ok_mulD (dr_var 12) (DV.rd dv_int))) (da_cons (dv_var 13) da_nil)))) (da_cons (dv_tup (da_cons (dv_var 11) (da_cons (dv_var 12) (da_cons (DE.v (de_callTy call_list_of ok_listD (by decide +kernel) G.b_list (db_cons (dr_var 13) db_nil))) da_nil)))) da_nil)))))))) S.nd)
  (ds_cons (ds_for hp (di_seq (DE.v (de_lst (da_cons (dv_tup (da_cons (DE.v (de_neg (DV.rd dv_int))) (da_cons dv_int da_nil))) (da_cons (dv_tup (da_cons dv_int (da_cons dv_int da_nil))) (da_cons (dv_tup (da_cons dv_int (da_cons dv_int da_nil))) (da_cons (dv_tup (da_cons dv_bl (da_cons dv_int da_nil))) (da_cons (dv_tup (da_cons dv_int (da_cons dv_non da_nil))) (da_cons (dv_tup (da_cons dv_int da_nil)) (da_cons (DE.v (de_lst (da_cons dv_int (da_cons dv_int da_nil)))) (da_cons dv_non (da_cons (dv_tup (da_cons dv_int (da_cons dv_int da_nil))) (da_cons (dv_tup (da_cons dv_int (da_cons dv_int da_nil))) da_nil))))))))))))) (dg_name 7 S.nd)
  (ds_one (ds_app 6 (da_cons (dv_tup (da_cons (dv_var 11) (da_cons (DE.v (de_op op_addD ok_addD (DV.rd (DE.v (de_op op_addD ok_addD (DV.rd (DE.v (de_sl (dr_var 12) do_none (do_some (dr_var 5))))) (DV.rd (dv_tup (da_cons (dv_var 7) da_nil)))))) (DV.rd (DE.v (de_sl (dr_var 12) (do_some (DV.rd (DE.v (de_op op_addD ok_addD (dr_var 5) (DV.rd dv_int))))) do_none))))) (da_cons (dv_var 13) da_nil)))) da_nil))))
  (ds_cons (ds_for hp (di_seq (DE.v (de_lst (da_cons (dv_tup (da_cons dv_int (da_cons dv_int da_nil))) (da_cons (dv_tup (da_cons dv_int (da_cons dv_int da_nil))) (da_cons (dv_tup (da_cons dv_int (da_cons (DE.v (de_callB call_len ok_lenD (by decide +kernel) G.b_len (db_cons (dr_var 12) db_nil))) da_nil))) (da_cons (dv_tup (da_cons (DE.v (de_neg (DV.rd dv_int))) (da_cons dv_int da_nil))) (da_cons (dv_tup (da_cons dv_bl (da_cons dv_int da_nil))) (da_cons (dv_tup (da_cons dv_int da_nil)) (da_cons dv_non (da_cons (DE.v (de_lst (da_cons dv_int (da_cons dv_int da_nil)))) (da_cons (dv_tup (da_cons dv_int (da_cons dv_int da_nil))) da_nil)))))))))))) (dg_name 7 S.nd)
  (ds_one (ds_set 6 (de_op op_addD ok_addD (dr_var 6) (DV.rd (DE.v (de_lst (da_cons (dv_tup (da_cons (dv_var 11) (da_cons (dv_var 12) (da_cons (DE.v (de_op op_addD ok_addD (dr_var 13) (DV.rd (dv_tup (da_cons (dv_var 7) da_nil))))) da_nil)))) (da_cons (dv_tup (da_cons (dv_var 11) (da_cons (dv_var 12) (da_cons (dv_tup (da_cons (dv_var 7) da_nil)) da_nil)))) (da_cons (dv_tup (da_cons (dv_var 11) (da_cons (dv_var 12) (da_cons (DE.v (de_op op_addD ok_addD (DV.rd (dv_tup (da_cons (dv_var 7) da_nil))) (dr_var 13))) da_nil)))) da_nil))))))) S.nd)))
  (ds_cons (ds_for hp (di_seq (DE.v (de_op op_addD ok_addD (dr_var 6) (DV.rd (DE.v (de_lst (da_cons (dv_tup (da_cons (dv_var 11) (da_cons (dv_var 12) (da_cons (DE.v (de_rev (dr_var 13))) da_nil)))) (da_cons (dv_tup (da_cons (dv_var 11) (da_cons (dv_var 12) (da_cons (DE.v (de_op op_addD ok_addD (dr_var 13) (DV.rd (DE.v (de_sl (dr_var 13) do_none (do_some (DV.rd dv_int))))))) da_nil)))) da_nil)))))))) (dg_name 8 S.nd)
  (ds_cons (ds_set 14 (DV.toE (dv_call (ok__law_are_rules G) hr (by decide) tk (da_cons (dv_var 8) da_nil))) S.nd)
  (ds_one (ds_if (DW.t (dw_or (dt_cmp (op_neG hu) cmpOk_of (DV.rd (dv_call (ok_are_box_rules G) hr (by decide) tk (da_cons (dv_var 8) da_nil))) (dr_var 14) (by rfl)) (dw_or (dt_not (dt_val (DV.rd (dv_isi isi_bool (by decide +kernel) G.b_bool G.b_isinstance (DV.rd (dv_call (ok_are_box_rules G) hr (by decide) tk (da_cons (dv_var 8) da_nil))))))) (dw_or1 (DW.t (dw_and (dt_not (dt_val (dr_var 14))) (dw_and1 (dt_not (dt_val (DV.rd (DE.v (de_callB (cr_all rfl) ok_allD (by decide +kernel) G.b_all (db_cons (DV.rd (DE.v (de_lc S.nd (di_range1 (da_cons dv_int da_nil) G.b_range) (blkOk_by (own := [("way", 17)]) (by rfl)) (fun _ _ _ _ _ => (dg_name 17 S.nd)) (fun _ _ _ _ _ => dts_nil) (fun _ _ _ _ _ => (dv_call (ok__law_refused G) hr (by decide) takes0 (da_cons (dv_var 17) (da_cons (dv_var 8) da_nil))))))) db_nil)))))))))))))
  (ds_one (ds_ret dv_bl))
  ds_nil))))
  (ds_cons (ds_post 9 (ds_lc 9 S.nd (di_range1 (da_cons dv_int da_nil) G.b_range) (blkOk_by (own := [("n", 15)]) (by rfl)) (fun _ _ _ _ _ => (dg_name 15 S.nd)) (fun _ _ _ _ _ => dts_nil) (fun _ _ _ _ _ => (DE.v (de_callTy call_tuple_of ok_tupleD (by decide +kernel) G.b_tuple (db_cons (DV.rd (DE.v (de_lc S.nd (di_range1 (da_cons (DE.v (de_callB call_len ok_lenD (by decide +kernel) G.b_len (db_cons (dr_var 12) db_nil))) da_nil) G.b_range) (blkOk_by (own := [("k", 16)]) (by rfl)) (fun _ _ _ _ _ => (dg_name 16 S.nd)) (fun _ _ _ _ _ => dts_nil) (fun _ _ _ _ _ => (DE.v (de_op op_mod ok_modD (DV.rd (DE.v (de_callTy call_int1 ok_toIntD (by decide +kernel) G.b_int (db_cons (DV.rd (DE.v (de_ix (dr_var 1) (DV.rd (DE.v (de_op op_mod ok_modD (DV.rd (DE.v (de_op op_addD ok_addD (DV.rd (DE.v (de_op op_addD ok_addD (DV.rd dv_int) (dr_var 16)))) (DV.rd (DE.v (de_op op_mulD ok_mulD (DV.rd dv_int) (dr_var 15))))))) (DV.rd dv_int))))))) db_nil)))) (DV.rd dv_int))))))) db_nil))))))
  (ds_cons (ds_set 10 (DV.toE (DE.v (de_ix (DV.rd (DE.v (de_op op_addD ok_addD (DV.rd (dv_call (ok__law_boxes G) hr (by decide) tk (da_cons (dv_var 4) da_nil))) (dr_var 9)))) (DV.rd dv_int)))) S.nd)
  (ds_one (ds_for hp (di_seq (DE.v (de_op op_addD ok_addD (dr_var 9) (DV.rd (DE.v (de_lst (da_cons (dv_var 10) (da_cons (DE.v (de_rev (dr_var 10))) (da_cons (DE.v (de_sl (dr_var 10) (do_some (DV.rd dv_int)) do_none)) (da_cons (DE.v (de_op op_addD ok_addD (dr_var 10) (DV.rd (dv_tup (da_cons dv_int da_nil))))) (da_cons (DE.v (de_callTy call_list_of ok_listD (by decide +kernel) G.b_list (db_cons (dr_var 10) db_nil))) (da_cons dv_non (da_cons dv_int (da_cons (DE.v (de_op op_addD ok_addD (DV.rd (dv_tup (da_cons (DE.v (de_neg (DV.rd dv_int))) da_nil))) (DV.rd (DE.v (de_sl (dr_var 10) (do_some (DV.rd dv_int)) do_none))))) (da_cons (DE.v (de_op op_addD ok_addD (DV.rd (dv_tup (da_cons dv_int da_nil))) (DV.rd (DE.v (de_sl (dr_var 10) (do_some (DV.rd dv_int)) do_none))))) (da_cons (DE.v (de_op op_addD ok_addD (DV.rd (dv_tup (da_cons dv_bl da_nil))) (DV.rd (DE.v (de_sl (dr_var 10) (do_some (DV.rd dv_int)) do_none))))) (da_cons (DE.v (de_op op_addD ok_addD (DV.rd (dv_tup (da_cons (dv_var 11) da_nil))) (DV.rd (DE.v (de_op op_mulD ok_mulD (DV.rd (dv_tup (da_cons dv_int da_nil))) (DV.rd (DE.v (de_op op_sub ok_subD (DV.rd (DE.v (de_callB call_len ok_lenD (by decide +kernel) G.b_len (db_cons (dr_var 12) db_nil)))) (DV.rd dv_int))))))))) da_nil))))))))))))))))) (dg_name 8 S.nd)
  (ds_one (ds_if (dt_cmp (op_neG hu) cmpOk_of (DV.rd (dv_call (ok_box_fault G) hr (by decide) tk (da_cons (dv_var 4) (da_cons (dv_var 8) da_nil)))) (DV.rd (dv_call (ok__law_due G) hr (by decide) tk (da_cons (dv_var 4) (da_cons (dv_var 8) da_nil)))) (by rfl))
  (ds_one (ds_ret dv_bl))
  ds_nil)))))))))))))))
  (ds_cons (ds_set 3 (DV.toE (dv_tup (da_cons dv_int (da_cons (dv_tup (da_cons (dv_tup (da_cons dv_int (da_cons dv_int da_nil))) (da_cons (dv_tup (da_cons dv_int (da_cons dv_int da_nil))) da_nil))) (da_cons (dv_tup (da_cons (dv_tup (da_cons dv_int (da_cons dv_int da_nil))) da_nil)) da_nil))))) S.nd)
  (ds_one (ds_ret (dv_and (dv_cmp (op_eqG hu) cmpOk_of (DV.rd (dv_call (ok_box_fault G) hr (by decide) tk (da_cons (dv_var 3) (da_cons (dv_tup (da_cons dv_int (da_cons dv_int da_nil))) da_nil)))) (DV.rd (dv_tup (da_cons dv_str (da_cons dv_int (da_cons dv_int da_nil))))) (by rfl)) (dv_and (dv_cmp (op_eqG hu) cmpOk_of (DV.rd (dv_call (ok_box_fault G) hr (by decide) tk (da_cons (dv_var 3) (da_cons (dv_tup (da_cons dv_int (da_cons dv_int da_nil))) da_nil)))) (DV.rd (dv_tup (da_cons dv_str (da_cons dv_int da_nil)))) (by rfl)) (dv_and (dv_cmp (op_eqG hu) cmpOk_of (DV.rd (dv_call (ok_box_fault G) hr (by decide) tk (da_cons (dv_var 3) (da_cons (dv_tup (da_cons dv_int (da_cons dv_int da_nil))) da_nil)))) (DV.rd (dv_tup (da_cons dv_str (da_cons dv_int da_nil)))) (by rfl)) (dv_one (dv_cmp op_isN cmpOk_isN (DV.rd (dv_call (ok_box_fault G) hr (by decide) tk (da_cons (dv_tup (da_cons dv_int (da_cons (dv_tup (da_cons (dv_tup (da_cons dv_int (da_cons dv_int da_nil))) (da_cons (dv_tup (da_cons dv_int (da_cons dv_int da_nil))) da_nil))) (da_cons (dv_tup da_nil) da_nil)))) (da_cons (dv_tup (da_cons dv_int (da_cons dv_int da_nil))) da_nil)))) (DV.rd dv_non) (by rfl)))))))))))
set_option maxHeartbeats 8000000 in
theorem fn_law (G : Fx K mg ct) {f : Addr} {fd : FuncData} (F : Fun K "law" "law" s_law f fd) : FnOk P w K mg base (L2.CX P w) 8 f fd ["script"] (spW ct K ["script"].length (fnW N_law.length b_law)) := fn_body (N := N_law) (g := b_law) F sc_law fun cdv A outer s H E hr => by
  have S := sc_law
  have tk : Takes (cxOf (L2.CX P w) P w K mg base N_law "law" (defScope s_law) f cdv A outer s H E) (fun cls d _ H => E cls d H) := takes_of rfl rfl rfl rfl
  have hp := passes_of (X := cxOf (L2.CX P w) P w K mg base N_law "law" (defScope s_law) f cdv A outer s H E) rfl
  have hu := room_u hr 101 (by decide)
  have hu64 := room_u hr 64 (by decide)
  have hu105 := room_u hr 105 (by decide)
  exact (ds_cons (ds_set 1 (DV.toE (dv_callR 0 (ok__law_draws G) hr (by decide) tk dv_int)) S.nd)
  (ds_cons (ds_for hp (di_range1 (da_cons dv_int da_nil) G.b_range) (dg_name 2 S.nd)
  (ds_cons (ds_set 4 (DV.toE (dv_call (ok__law_rules G) hr (by decide) tk (da_cons (DE.v (de_op op_addD ok_addD (DV.rd (DE.v (de_sl (dr_var 1) (do_some (DV.rd (DE.v (de_op op_mulD ok_mulD (DV.rd dv_int) (dr_var 2))))) do_none))) (dr_var 1))) da_nil))) S.nd)
  (ds_cons (ds_asg (dv_var 4) (dg_tup (dgs_cons (dg_name 11 S.nd) (dgs_cons (dg_name 12 S.nd) (dgs_cons (dg_name 13 S.nd) dgs_nil)))))
  (ds_cons (ds_set 5 (DV.toE (DE.v (de_op op_mod ok_modD (DV.rd (DE.v (de_callTy call_int1 ok_toIntD (by decide +kernel) G.b_int (db_cons (DV.rd (DE.v (de_ix (dr_var 1) (DV.rd (DE.v (de_op op_addD ok_addD (DV.rd dv_int) (dr_var 2))))))) db_nil)))) (DV.rd (DE.v (de_callB call_len ok_lenD (by decide +kernel) G.b_len (db_cons (dr_var 12) db_nil))))))) S.nd)
  (ds_cons (ds_set 6 (de_lst (da_cons (dv_var 4) (da_cons (DE.v (de_callTy call_list_of ok_listD (by decide +kernel) G.b_list (db_cons (dr_var 4) db_nil))) (da_cons (DE.v (de_sl (dr_var 4) do_none (do_some (DV.rd dv_int)))) (da_cons (DE.v (de_op op_addD ok_addD (dr_var 4) (DV.rd (dv_tup (da_cons dv_int da_nil))))) (da_cons dv_non (da_cons dv_int (da_cons (dv_tup (da_cons dv_int (da_cons (dv_var 12) (da_cons (dv_var 13) da_nil)))) (da_cons (dv_tup (da_cons dv_int (da_cons (dv_var 12) (da_cons (dv_var 13) da_nil)))) (da_cons (dv_tup (da_cons dv_bl (da_cons (dv_var 12) (da_cons (dv_var 13) da_nil)))) da_nil)))))))))) S.nd)
  (ds_cons (ds_set 6 (de_op op_addD ok_addD (dr_var 6) (DV.rd (DE.v (de_lst (da_cons (dv_tup (da_cons (dv_var 11) (da_cons (DE.v (de_callTy call_list_of ok_listD (by decide +kernel) G.b_list (db_cons (dr_var 12) db_nil))) (da_cons (dv_var 13) da_nil)))) (da_cons (dv_tup (da_cons (dv_var 11) (da_cons (dv_tup da_nil) (da_cons (dv_var 13) da_nil)))) (da_cons (dv_tup (da_cons (dv_var 11) (da_cons (DE.v (de_op op_mulD ok_mulD (dr_var 12) (DV.rd dv_int))) (da_cons (dv_var 13) da_nil)))) (da_cons (dv_tup (da_cons (dv_var 11) (da_cons (dv_var 12) (da_cons (DE.v (de_callTy call_list_of ok_listD (by decide +kernel) G.b_list (db_cons (dr_var 13) db_nil))) da_nil)))) da_nil)))))))) S.nd)
  (ds_cons (ds_for hp (di_seq (DE.v (de_lst (da_cons (dv_tup (da_cons (DE.v (de_neg (DV.rd dv_int))) (da_cons dv_int da_nil))) (da_cons (dv_tup (da_cons dv_int (da_cons dv_int da_nil))) (da_cons (dv_tup (da_cons dv_int (da_cons dv_int da_nil))) (da_cons (dv_tup (da_cons dv_bl (da_cons dv_int da_nil))) (da_cons (dv_tup (da_cons dv_int (da_cons dv_non da_nil))) (da_cons (dv_tup (da_cons dv_int da_nil)) (da_cons (DE.v (de_lst (da_cons dv_int (da_cons dv_int da_nil)))) (da_cons dv_non (da_cons (dv_tup (da_cons dv_int (da_cons dv_int da_nil))) (da_cons (dv_tup (da_cons dv_int (da_cons dv_int da_nil))) da_nil))))))))))))) (dg_name 7 S.nd)
  (ds_one (ds_app 6 (da_cons (dv_tup (da_cons (dv_var 11) (da_cons (DE.v (de_op op_addD ok_addD (DV.rd (DE.v (de_op op_addD ok_addD (DV.rd (DE.v (de_sl (dr_var 12) do_none (do_some (dr_var 5))))) (DV.rd (dv_tup (da_cons (dv_var 7) da_nil)))))) (DV.rd (DE.v (de_sl (dr_var 12) (do_some (DV.rd (DE.v (de_op op_addD ok_addD (dr_var 5) (DV.rd dv_int))))) do_none))))) (da_cons (dv_var 13) da_nil)))) da_nil))))
  (ds_cons (ds_for hp (di_seq (DE.v (de_lst (da_cons (dv_tup (da_cons dv_int (da_cons dv_int da_nil))) (da_cons (dv_tup (da_cons dv_int (da_cons dv_int da_nil))) (da_cons (dv_tup (da_cons dv_int (da_cons (DE.v (de_callB call_len ok_lenD (by decide +kernel) G.b_len (db_cons (dr_var 12) db_nil))) da_nil))) (da_cons (dv_tup (da_cons (DE.v (de_neg (DV.rd dv_int))) (da_cons dv_int da_nil))) (da_cons (dv_tup (da_cons dv_bl (da_cons dv_int da_nil))) (da_cons (dv_tup (da_cons dv_int da_nil)) (da_cons dv_non (da_cons (DE.v (de_lst (da_cons dv_int (da_cons dv_int da_nil)))) (da_cons (dv_tup (da_cons dv_int (da_cons dv_int da_nil))) da_nil)))))))))))) (dg_name 7 S.nd)
  (ds_one (ds_set 6 (de_op op_addD ok_addD (dr_var 6) (DV.rd (DE.v (de_lst (da_cons (dv_tup (da_cons (dv_var 11) (da_cons (dv_var 12) (da_cons (DE.v (de_op op_addD ok_addD (dr_var 13) (DV.rd (dv_tup (da_cons (dv_var 7) da_nil))))) da_nil)))) (da_cons (dv_tup (da_cons (dv_var 11) (da_cons (dv_var 12) (da_cons (dv_tup (da_cons (dv_var 7) da_nil)) da_nil)))) (da_cons (dv_tup (da_cons (dv_var 11) (da_cons (dv_var 12) (da_cons (DE.v (de_op op_addD ok_addD (DV.rd (dv_tup (da_cons (dv_var 7) da_nil))) (dr_var 13))) da_nil)))) da_nil))))))) S.nd)))
  (ds_cons (ds_for hp (di_seq (DE.v (de_op op_addD ok_addD (dr_var 6) (DV.rd (DE.v (de_lst (da_cons (dv_tup (da_cons (dv_var 11) (da_cons (dv_var 12) (da_cons (DE.v (de_rev (dr_var 13))) da_nil)))) (da_cons (dv_tup (da_cons (dv_var 11) (da_cons (dv_var 12) (da_cons (DE.v (de_op op_addD ok_addD (dr_var 13) (DV.rd (DE.v (de_sl (dr_var 13) do_none (do_some (DV.rd dv_int))))))) da_nil)))) da_nil)))))))) (dg_name 8 S.nd)
  (ds_cons (ds_set 14 (DV.toE (dv_call (ok__law_are_rules G) hr (by decide) tk (da_cons (dv_var 8) da_nil))) S.nd)
  (ds_one (ds_if (DW.t (dw_or (dt_cmp (op_neG hu) cmpOk_of (DV.rd (dv_call (ok_are_box_rules G) hr (by decide) tk (da_cons (dv_var 8) da_nil))) (dr_var 14) (by rfl)) (dw_or (dt_not (dt_val (DV.rd (dv_isi isi_bool (by decide +kernel) G.b_bool G.b_isinstance (DV.rd (dv_call (ok_are_box_rules G) hr (by decide) tk (da_cons (dv_var 8) da_nil))))))) (dw_or1 (DW.t (dw_and (dt_not (dt_val (dr_var 14))) (dw_and1 (dt_not (dt_val (DV.rd (DE.v (de_callB (cr_all rfl) ok_allD (by decide +kernel) G.b_all (db_cons (DV.rd (DE.v (de_lc S.nd (di_range1 (da_cons dv_int da_nil) G.b_range) (blkOk_by (own := [("way", 17)]) (by rfl)) (fun _ _ _ _ _ => (dg_name 17 S.nd)) (fun _ _ _ _ _ => dts_nil) (fun _ _ _ _ _ => (dv_call (ok__law_refused G) hr (by decide) takes0 (da_cons (dv_var 17) (da_cons (dv_var 8) da_nil))))))) db_nil)))))))))))))
  (ds_one (ds_ret dv_bl))
  ds_nil))))
  (ds_cons (ds_post 9 (ds_lc 9 S.nd (di_range1 (da_cons dv_int da_nil) G.b_range) (blkOk_by (own := [("n", 15)]) (by rfl)) (fun _ _ _ _ _ => (dg_name 15 S.nd)) (fun _ _ _ _ _ => dts_nil) (fun _ _ _ _ _ => (DE.v (de_callTy call_tuple_of ok_tupleD (by decide +kernel) G.b_tuple (db_cons (DV.rd (DE.v (de_lc S.nd (di_range1 (da_cons (DE.v (de_callB call_len ok_lenD (by decide +kernel) G.b_len (db_cons (dr_var 12) db_nil))) da_nil) G.b_range) (blkOk_by (own := [("k", 16)]) (by rfl)) (fun _ _ _ _ _ => (dg_name 16 S.nd)) (fun _ _ _ _ _ => dts_nil) (fun _ _ _ _ _ => (DE.v (de_op op_mod ok_modD (DV.rd (DE.v (de_callTy call_int1 ok_toIntD (by decide +kernel) G.b_int (db_cons (DV.rd (DE.v (de_ix (dr_var 1) (DV.rd (DE.v (de_op op_mod ok_modD (DV.rd (DE.v (de_op op_addD ok_addD (DV.rd (DE.v (de_op op_addD ok_addD (DV.rd dv_int) (dr_var 16)))) (DV.rd (DE.v (de_op op_mulD ok_mulD (DV.rd dv_int) (dr_var 15))))))) (DV.rd dv_int))))))) db_nil)))) (DV.rd dv_int))))))) db_nil))))))
  (ds_cons (ds_set 10 (DV.toE (DE.v (de_ix (DV.rd (DE.v (de_op op_addD ok_addD (DV.rd (dv_call (ok__law_boxes G) hr (by decide) tk (da_cons (dv_var 4) da_nil))) (dr_var 9)))) (DV.rd dv_int)))) S.nd)
  (ds_one (ds_for hp (di_seq (DE.v (de_op op_addD ok_addD (dr_var 9) (DV.rd (DE.v (de_lst (da_cons (dv_var 10) (da_cons (DE.v (de_rev (dr_var 10))) (da_cons (DE.v (de_sl (dr_var 10) (do_some (DV.rd dv_int)) do_none)) (da_cons (DE.v (de_op op_addD ok_addD (dr_var 10) (DV.rd (dv_tup (da_cons dv_int da_nil))))) (da_cons (DE.v (de_callTy call_list_of ok_listD (by decide +kernel) G.b_list (db_cons (dr_var 10) db_nil))) (da_cons dv_non (da_cons dv_int (da_cons (DE.v (de_op op_addD ok_addD (DV.rd (dv_tup (da_cons (DE.v (de_neg (DV.rd dv_int))) da_nil))) (DV.rd (DE.v (de_sl (dr_var 10) (do_some (DV.rd dv_int)) do_none))))) (da_cons (DE.v (de_op op_addD ok_addD (DV.rd (dv_tup (da_cons dv_int da_nil))) (DV.rd (DE.v (de_sl (dr_var 10) (do_some (DV.rd dv_int)) do_none))))) (da_cons (DE.v (de_op op_addD ok_addD (DV.rd (dv_tup (da_cons dv_bl da_nil))) (DV.rd (DE.v (de_sl (dr_var 10) (do_some (DV.rd dv_int)) do_none))))) (da_cons (DE.v (de_op op_addD ok_addD (DV.rd (dv_tup (da_cons (dv_var 11) da_nil))) (DV.rd (DE.v (de_op op_mulD ok_mulD (DV.rd (dv_tup (da_cons dv_int da_nil))) (DV.rd (DE.v (de_op op_sub ok_subD (DV.rd (DE.v (de_callB call_len ok_lenD (by decide +kernel) G.b_len (db_cons (dr_var 12) db_nil)))) (DV.rd dv_int))))))))) da_nil))))))))))))))))) (dg_name 8 S.nd)
  (ds_one (ds_if (dt_cmp (op_neG hu) cmpOk_of (DV.rd (dv_call (ok_box_fault G) hr (by decide) tk (da_cons (dv_var 4) (da_cons (dv_var 8) da_nil)))) (DV.rd (dv_call (ok__law_due G) hr (by decide) tk (da_cons (dv_var 4) (da_cons (dv_var 8) da_nil)))) (by rfl))
  (ds_one (ds_ret dv_bl))
  ds_nil)))))))))))))))
  (ds_cons (ds_set 3 (DV.toE (dv_tup (da_cons dv_int (da_cons (dv_tup (da_cons (dv_tup (da_cons dv_int (da_cons dv_int da_nil))) (da_cons (dv_tup (da_cons dv_int (da_cons dv_int da_nil))) da_nil))) (da_cons (dv_tup (da_cons (dv_tup (da_cons dv_int (da_cons dv_int da_nil))) da_nil)) da_nil))))) S.nd)
  (ds_one (ds_ret (dv_and (dv_cmp (op_eqG hu) cmpOk_of (DV.rd (dv_call (ok_box_fault G) hr (by decide) tk (da_cons (dv_var 3) (da_cons (dv_tup (da_cons dv_int (da_cons dv_int da_nil))) da_nil)))) (DV.rd (dv_tup (da_cons dv_str (da_cons dv_int (da_cons dv_int da_nil))))) (by rfl)) (dv_and (dv_cmp (op_eqG hu) cmpOk_of (DV.rd (dv_call (ok_box_fault G) hr (by decide) tk (da_cons (dv_var 3) (da_cons (dv_tup (da_cons dv_int (da_cons dv_int da_nil))) da_nil)))) (DV.rd (dv_tup (da_cons dv_str (da_cons dv_int da_nil)))) (by rfl)) (dv_and (dv_cmp (op_eqG hu) cmpOk_of (DV.rd (dv_call (ok_box_fault G) hr (by decide) tk (da_cons (dv_var 3) (da_cons (dv_tup (da_cons dv_int (da_cons dv_int da_nil))) da_nil)))) (DV.rd (dv_tup (da_cons dv_str (da_cons dv_int da_nil)))) (by rfl)) (dv_one (dv_cmp op_isN cmpOk_isN (DV.rd (dv_call (ok_box_fault G) hr (by decide) tk (da_cons (dv_tup (da_cons dv_int (da_cons (dv_tup (da_cons (dv_tup (da_cons dv_int (da_cons dv_int da_nil))) (da_cons (dv_tup (da_cons dv_int (da_cons dv_int da_nil))) da_nil))) (da_cons (dv_tup da_nil) da_nil)))) (da_cons (dv_tup (da_cons dv_int (da_cons dv_int da_nil))) da_nil)))) (DV.rd dv_non) (by rfl)))))))))))
end
end
end Dl
set_option Elab.async false
set_option linter.all false
set_option maxRecDepth 100000
namespace Dl
open PySem PySem.Spec PyProof.Rows L2
/-! ### whole numbers -/
def numB (v : PyData) (a b : Int) : Bool := match v with
  | .int i => !decide (i < a) && !decide (b < i)
  | _ => false
theorem m_is_whole_ok {v : PyData} {a b : Int} : m_is_whole [some (.d v), some (.d (.int a)), some (.d (.int b))] = .ok (.bool (numB v a b)) := by
  unfold m_is_whole b_is_whole
  cases v <;> simp [numB]
  rename_i i
  by_cases h : a ≤ i
  · simp [h, Int.not_lt.mpr h]
  · simp [h, Int.not_le.mp h]
theorem m_number_ok {v : PyData} {a b : Int} : m__law_is_number [some (.d v), some (.d (.int a)), some (.d (.int b))] = .ok (.bool (numB v a b)) := by
  unfold m__law_is_number b__law_is_number
  cases v <;> simp [numB]
  rename_i i
  by_cases h : a ≤ i
  · simp [h, Int.not_lt.mpr h]
  · simp [h, Int.not_le.mp h]
theorem numB_int {v : PyData} {a b : Int} (h : numB v a b = true) : ∃ i, v = .int i ∧ a ≤ i ∧ i ≤ b := by
  cases v <;> simp [numB] at h
  exact ⟨_, rfl, h.1, h.2⟩
/-! ### pairs -/
def prP (a b : Int) : PyData := .tuple [.int a, .int b]
theorem lt_pr (a b c d : Int) : ltD (prP a b) (prP c d) = some (decide (a < c ∨ (a = c ∧ b < d))) := by
  have h : canLt (prP a b) (prP c d) = true := by
    simp [prP, canLt, PySem.W.alike, PySem.W.alikeAll, isNoneD, PyData.depth, PyData.depthAll]
  unfold ltD
  rw [if_pos h]
  show some (PySem.W.dataLt (prP a b) (prP c d)) = _
  rw [show PySem.W.dataLt (prP a b) (prP c d) = _ from PySem.W.dataLt_ii a b c d]
/-- a pair of ints -/
def isPr (v : PyData) : Bool := match v with
  | .tuple [.int _, .int _] => true
  | _ => false
theorem isPr_eq {v : PyData} (h : isPr v = true) : ∃ a b, v = prP a b := by
  unfold isPr at h
  split at h
  · exact ⟨_, _, rfl⟩
  · cases h
def prLt (x y : PyData) : Bool := match x, y with
  | .tuple [.int a, .int b], .tuple [.int c, .int d] => decide (a < c ∨ (a = c ∧ b < d))
  | _, _ => false
def ascB : List PyData → Bool
  | x :: y :: r => prLt x y && ascB (y :: r)
  | _ => true
theorem drop1 {α : Type} (xs : List α) : cutL xs (some 1) none = xs.tail := by
  unfold cutL
  rw [show HT.sIx xs.length 0 (some 1) = min 1 xs.length from HT.sIx_nat _ _ 1, HT.sIx_none]
  cases xs with
  | nil => rfl
  | cons x r =>
    have : min 1 (x :: r).length = 1 := by rw [List.length_cons]; omega
    rw [this]
    simp
def zLt (z : PyData) : Bool := match z with
  | .tuple [x, y] => prLt x y
  | _ => false
theorem zip_asc : ∀ (xs : List PyData), (∀ x ∈ xs, isPr x = true) → (zipL xs xs.tail).all zLt = ascB xs
  | [], _ => rfl
  | [x], _ => rfl
  | x :: y :: r, h => by
    have := zip_asc (y :: r) fun z hz => h z (List.mem_cons_of_mem _ hz)
    show (zipL (x :: y :: r) (y :: r)).all _ = _
    rw [zipL, List.all_cons]
    show (prLt x y && (zipL (y :: r) r).all zLt) = (prLt x y && ascB (y :: r))
    rw [show (zipL (y :: r) r).all zLt = ascB (y :: r) from this]
theorem zipL_mem : ∀ {xs ys : List PyData} {z : PyData}, z ∈ zipL xs ys → ∃ x y, z = .tuple [x, y] ∧ x ∈ xs ∧ y ∈ ys
  | [], _, z, h => by simp [zipL] at h
  | _ :: _, [], z, h => by simp [zipL] at h
  | x :: xs, y :: ys, z, h => by
    rw [zipL, List.mem_cons] at h
    rcases h with h | h
    · exact ⟨x, y, h, by simp, by simp⟩
    · obtain ⟨a, b, e, h1, h2⟩ := zipL_mem h
      exact ⟨a, b, e, List.mem_cons_of_mem _ h1, List.mem_cons_of_mem _ h2⟩
theorem m_ascends_ok {xs : List PyData} (h : ∀ x ∈ xs, isPr x = true) : m_ascends [some (.d (.tuple xs))] = .ok (.bool (ascB xs)) := by
  have hc : lc_ascends_0 [some (.d (.tuple xs)), none, none] =
      .ok (.l ((zipL xs xs.tail).map fun z => .bool (zLt z))) := by
    refine eLc_ok (m := [some (.d (.tuple xs)), none, none]) rfl (by simp [drop1]) (goLc_map (fun z => match z with | .tuple [x, y] => [some (.d (.tuple xs)), some (.d x), some (.d y)] | _ => []) _ _ fun z hz => ?_)
    obtain ⟨x, y, rfl, hx, hy⟩ := zipL_mem hz
    obtain ⟨a, b, rfl⟩ := isPr_eq (h x hx)
    obtain ⟨c, d, rfl⟩ := isPr_eq (h y (List.mem_of_mem_tail hy))
    exact ⟨by simp [wipeM], by simp only [v2_s, t2_s, rVar_s, List.getElem?_cons_succ, List.getElem?_cons_zero, Rz.bind_ok, lt_pr, ofO_some', rz_map_ok]; simp [zLt, prLt, prP]⟩
  unfold m_ascends b_ascends
  simp [hc, zip_asc xs h]

/-! ### one pair -/
def pairB (n : Int) (v : PyData) : Bool := match v with
  | .tuple [x, y] => numB x 0 (n - 1) && numB y 0 (n - 1) && (match x, y with | .int a, .int b => decide (a < b) | _, _ => false)
  | _ => false
theorem len2 {α : Type} {xs : List α} (h : xs.length = 2) : ∃ x y, xs = [x, y] := by
  match xs, h with
  | [x, y], _ => exact ⟨x, y, rfl⟩
theorem m_is_pair_ok {n : Int} {v : PyData} : m__is_pair [some (.d (.int n)), some (.d v)] = .ok (.bool (pairB n v)) := by
  have hc : ∀ xs : List PyData, lc__is_pair_0 [some (.d (.int n)), some (.d (.tuple xs)), none] =
      .ok (.l (xs.map fun z => .bool (numB z 0 (n - 1)))) := fun xs => by
    refine eLc_ok rfl (by simp) (goLc_map (fun z => [some (.d (.int n)), some (.d (.tuple xs)), some (.d z)]) _ _ fun z hz => ⟨by simp [wipeM], ?_⟩)
    simp [m_is_whole_ok]
  unfold m__is_pair b__is_pair
  cases v with
  | tuple xs =>
    by_cases h2 : xs.length = 2
    · obtain ⟨x, y, rfl⟩ := len2 h2
      simp [hc, pairB]
      by_cases hx : numB x 0 (n - 1) = true
      · by_cases hy : numB y 0 (n - 1) = true
        · obtain ⟨i, rfl, _⟩ := numB_int hx
          obtain ⟨j, rfl, _⟩ := numB_int hy
          simp [hx, hy]
        · simp [hx, hy]
      · simp [hx]
    · have e : (xs.length : Int) ≠ 2 := by omega
      have e2 : pairB n (.tuple xs) = false := by
        unfold pairB
        split
        · rename_i h; cases h; simp at h2
        · rfl
      simp [e, e2]
  | _ => simp [pairB]
end Dl
set_option Elab.async false
set_option linter.all false
set_option maxRecDepth 100000
namespace Dl
open PySem PySem.Spec PyProof.Rows L2
/-! ### bounds -/
def is2 (z : PyData) : Bool := match z with
  | .tuple xs => (xs.length : Int) == 2
  | _ => false
theorem is2_eq {z : PyData} (h : is2 z = true) : ∃ x y, z = .tuple [x, y] := by
  cases z with
  | tuple xs =>
    have : xs.length = 2 := by
      have : (xs.length : Int) = 2 := by simpa [is2] using h
      omega
    obtain ⟨x, y, rfl⟩ := len2 this
    exact ⟨x, y, rfl⟩
  | _ => cases h
def boundB (v : PyData) : Bool := match v with
  | .tuple [x, y] => numB x 0 12 && (match x with | .int a => numB y a 12 | _ => false)
  | _ => false
theorem boundB_2 {v : PyData} (h : boundB v = true) : is2 v = true := by
  unfold boundB at h
  split at h
  · rfl
  · cases h
def boundsB (v : PyData) : Bool := match v with
  | .tuple bs => decide (1 ≤ bs.length) && decide (bs.length ≤ 6) && bs.all boundB
  | _ => false
theorem m_are_bounds_ok {v : PyData} : m__are_bounds [some (.d v)] = .ok (.bool (boundsB v)) := by
  unfold m__are_bounds b__are_bounds
  cases v with
  | tuple bs =>
    have h1 : lc__are_bounds_0 [some (.d (.tuple bs)), none] = .ok (.l (bs.map fun z => .bool (is2 z))) := by
      refine eLc_ok rfl (by simp) (goLc_map (fun z => [some (.d (.tuple bs)), some (.d z)]) _ _ fun z hz => ⟨by simp [wipeM], ?_⟩)
      cases z <;> simp [is2]
    by_cases hl : 1 ≤ bs.length ∧ bs.length ≤ 6
    · have k1 : ¬ ((bs.length : Int) < 1) := by omega
      have k2 : ¬ ((6 : Int) < bs.length) := by omega
      have k1' : (1 : Int) ≤ bs.length := by omega
      have k2' : (bs.length : Int) ≤ 6 := by omega
      by_cases ha : bs.all is2 = true
      · have h2 : lc__are_bounds_1 [some (.d (.tuple bs)), none] = .ok (.l (bs.map fun z => .bool (boundB z))) := by
          refine eLc_ok rfl (by simp) (goLc_map (fun z => [some (.d (.tuple bs)), some (.d z)]) _ _ fun z hz => ⟨by simp [wipeM], ?_⟩)
          obtain ⟨x, y, rfl⟩ := is2_eq (List.all_eq_true.mp ha z hz)
          by_cases hx : numB x 0 12 = true
          · obtain ⟨i, rfl, _⟩ := numB_int hx
            simp [m_is_whole_ok, hx, boundB]
          · simp [m_is_whole_ok, hx, boundB]
        simp [h1, h2, k1, k2, k1', k2', ha, boundsB, hl]
      · have e : bs.all boundB = false := by
          rw [Bool.eq_false_iff]
          intro z
          apply ha
          rw [List.all_eq_true] at z ⊢
          exact fun w hw => boundB_2 (z w hw)
        simp [h1, k1, k2, k1', k2', ha, boundsB, e]
    · have e : boundsB (.tuple bs) = false := by
        unfold boundsB
        by_cases h : 1 ≤ bs.length
        · have : ¬ bs.length ≤ 6 := fun z => hl ⟨h, z⟩
          simp [this]
        · simp [h]
      by_cases h : (1 : Int) ≤ bs.length
      · have : (6 : Int) < bs.length := by
          rcases Int.lt_or_le 6 (bs.length : Int) with z | z
          · exact z
          · exact absurd ⟨by omega, by omega⟩ hl
        simp [h, this, e]
      · simp [h, e]
  | _ => simp [boundsB]
/-! ### rules -/
def rulesB (v : PyData) : Bool := match v with
  | .tuple [a, .tuple bs, .tuple ps] => numB a 1 12 && boundsB (.tuple bs) && (ps.all (pairB bs.length) && ascB ps)
  | _ => false
theorem pairB_pr {n : Int} {v : PyData} (h : pairB n v = true) : isPr v = true := by
  unfold pairB at h
  split at h
  · rename_i x y
    simp only [Bool.and_eq_true] at h
    obtain ⟨i, rfl, _⟩ := numB_int h.1.1
    obtain ⟨j, rfl, _⟩ := numB_int h.1.2
    rfl
  · cases h
theorem len3 {α : Type} {xs : List α} (h : xs.length = 3) : ∃ x y z, xs = [x, y, z] := by
  match xs, h with
  | [x, y, z], _ => exact ⟨x, y, z, rfl⟩
theorem m_are_box_rules_ok {v : PyData} : m_are_box_rules [some (.d v)] = .ok (.bool (rulesB v)) := by
  unfold m_are_box_rules b_are_box_rules
  cases v with
  | tuple xs =>
    by_cases h3 : xs.length = 3
    · obtain ⟨a, b, c, rfl⟩ := len3 h3
      by_cases ha : numB a 1 12 = true
      · by_cases hb : boundsB b = true
        · cases b with
          | tuple bs =>
            cases c with
            | tuple ps =>
              have h1 : lc_are_box_rules_0 [some (.d (.tuple [a, .tuple bs, .tuple ps])), none] = .ok (.l (ps.map fun z => .bool (pairB bs.length z))) := by
                refine eLc_ok rfl (by simp) (goLc_map (fun z => [some (.d (.tuple [a, .tuple bs, .tuple ps])), some (.d z)]) _ _ fun z hz => ⟨by simp [wipeM], ?_⟩)
                simp [m_is_pair_ok]
              by_cases hp : ps.all (pairB bs.length) = true
              · have := m_ascends_ok (xs := ps) fun x hx => pairB_pr (List.all_eq_true.mp hp x hx)
                simp [m_is_whole_ok, m_are_bounds_ok, ha, hb, h1, hp, this, rulesB]
              · simp [m_is_whole_ok, m_are_bounds_ok, ha, hb, h1, hp, rulesB]
            | _ => simp [m_is_whole_ok, m_are_bounds_ok, ha, hb, rulesB]
          | _ => cases hb
        · have e : rulesB (.tuple [a, b, c]) = false := by
            unfold rulesB
            split
            · rename_i h; cases h; simp [hb]
            · rfl
          simp [m_is_whole_ok, m_are_bounds_ok, ha, hb, e]
      · have e : rulesB (.tuple [a, b, c]) = false := by
          unfold rulesB
          split
          · rename_i h; cases h; simp [ha]
          · rfl
        simp [m_is_whole_ok, ha, e]
    · have e : (xs.length : Int) ≠ 3 := by omega
      have k2 : rulesB (.tuple xs) = false := by
        unfold rulesB
        split
        · rename_i h; cases h; simp at h3
        · rfl
      simp [e, k2]
  | _ => simp [rulesB]
/-! ### refusals -/
theorem m_check_ok {v : PyData} (h : rulesB v = true) : m_check_box_rules [some (.d v)] = .ok .none := by
  unfold m_check_box_rules b_check_box_rules
  simp [m_are_box_rules_ok, h]
theorem m_check_ex {v : PyData} (h : rulesB v = false) : m_check_box_rules [some (.d v)] = .ex 1 := by
  unfold m_check_box_rules b_check_box_rules
  simp [m_are_box_rules_ok, h]
theorem m_refused_ok {v : PyData} (h : rulesB v = false) (i : Int) : m__law_refused [some (.d (.int i)), some (.d v)] = .ok (.bool true) := by
  have c1 : m_box_fault [some (.d v), some (.d .none)] = .ex 1 := by unfold m_box_fault b_box_fault; simp [m_check_ex h]
  have c2 : m_count_boxes [some (.d v)] = .ex 1 := by unfold m_count_boxes b_count_boxes; simp [m_check_ex h]
  have c3 : m_box_at [some (.d v), some (.d .none)] = .ex 1 := by unfold m_box_at b_box_at; simp [m_check_ex h]
  have c0 : m__check_box [some (.d v), some (.d .none)] = .ex 1 := by unfold m__check_box b__check_box; simp [m_check_ex h]
  have c4 : m_number_of_box [some (.d v), some (.d .none)] = .ex 1 := by unfold m_number_of_box b_number_of_box; simp [c0]
  have c5 : m_next_box [some (.d v), some (.d .none)] = .ex 1 := by unfold m_next_box b_next_box; simp [c0]
  have c6 : m_boxes_from [some (.d v), some (.d .none), some (.d .none)] = .ex 1 := by unfold m_boxes_from b_boxes_from; simp [m_check_ex h]
  have c7 : m_never_needed [some (.d v)] = .ex 1 := by unfold m_never_needed b_never_needed; simp [m_check_ex h]
  have fin : ∀ g : Ms → Fl, g [some (.d (.int i)), some (.d v), none] = .ex 1 [some (.d (.int i)), some (.d v), none] → fnW 3 (sSeq (sTryIs g 2 p_BakeError (fun c => (i_BadBoxRules c).map .bool)) (sRet (vC (.bool false)))) [some (.d (.int i)), some (.d v)] = .ok (.bool true) := fun g hg => by
    simp [sTryIs, hg, p_BakeError, i_BadBoxRules, constV]
  unfold m__law_refused b__law_refused
  refine fin _ ?_
  simp [c1, c2, c3, c4, c5, c6, c7]
end Dl
set_option Elab.async false
set_option linter.all false
set_option maxRecDepth 100000
namespace Dl
open PySem PySem.Spec PyProof.Rows L2
/-! ### rows in order -/
theorem eqv_ints : ∀ xs ys : List Int, PyData.eqvAll (xs.map .int) (ys.map .int) = decide (xs = ys)
  | [], [] => by simp [PyData.eqvAll]
  | [], _ :: _ => by simp [PyData.eqvAll]
  | _ :: _, [] => by simp [PyData.eqvAll]
  | x :: xs, y :: ys => by
    simp only [List.map_cons, PyData.eqvAll, PyData.eqv, eqv_ints xs ys]
    by_cases h : x = y <;> by_cases h2 : xs = ys <;> simp [h, h2]
theorem eqv_rows : ∀ xs ys : List (List Int), PyData.eqvAll (xs.map rowT) (ys.map rowT) = decide (xs = ys)
  | [], [] => by simp [PyData.eqvAll]
  | [], _ :: _ => by simp [PyData.eqvAll]
  | _ :: _, [] => by simp [PyData.eqvAll]
  | x :: xs, y :: ys => by
    simp only [List.map_cons, PyData.eqvAll, rowT, PyData.eqv, eqv_ints]
    rw [eqv_rows xs ys]
    by_cases h : x = y <;> by_cases h2 : xs = ys <;> simp [h, h2]
theorem depth_rows : ∀ xs : List (List Int), PyData.depthAll (xs.map rowT) ≤ 1
  | [] => by simp [PyData.depthAll]
  | x :: xs => by
    have h1 := depth_rows xs
    have h2 := PySem.W.depth_ints x
    simp only [List.map_cons, PyData.depthAll, rowT, PyData.depth]
    omega
theorem eq_rows (xs ys : List (List Int)) : eqD (.list (xs.map rowT)) (.list (ys.map rowT)) = some (decide (xs = ys)) := by
  unfold eqD
  have h1 := depth_rows xs
  rw [if_pos (by simp only [PyData.depth]; omega)]
  simp only [PyData.eqv, eqv_rows]
theorem code2 (B a b : Int) : TS.code B [a, b] = a * B + b := by
  show a * B ^ 1 + (b * B ^ 0 + 0) = _
  rw [Int.pow_succ, Int.pow_zero]
  simp
theorem prLt_code {B a b c d : Int} (hb : 0 ≤ b ∧ b < B) (hd : 0 ≤ d ∧ d < B) : prLt (prP a b) (prP c d) = decide (TS.code B [a, b] < TS.code B [c, d]) := by
  rw [code2, code2]
  show decide (a < c ∨ (a = c ∧ b < d)) = _
  rw [decide_eq_decide]
  constructor
  · rintro (h | ⟨rfl, h⟩)
    · have : (a + 1) * B ≤ c * B := Int.mul_le_mul_of_nonneg_right (by omega) (by omega)
      rw [Int.add_mul] at this; omega
    · omega
  · intro h
    rcases Int.lt_trichotomy a c with z | z | z
    · exact .inl z
    · subst z; exact .inr ⟨rfl, by omega⟩
    · have : (c + 1) * B ≤ a * B := Int.mul_le_mul_of_nonneg_right (by omega) (by omega)
      rw [Int.add_mul] at this; omega
theorem asc_iff {B : Int} : ∀ {R : List (List Int)}, (∀ r ∈ R, r.length = 2 ∧ TS.Bd B r) → (ascB (R.map rowT) = true ↔ R.Pairwise fun q r => TS.code B q < TS.code B r)
  | [], _ => by simp [ascB]
  | [x], _ => by simp [ascB]
  | x :: y :: r, h => by
    have ih := asc_iff (R := y :: r) fun z hz => h z (List.mem_cons_of_mem _ hz)
    obtain ⟨hx, bx⟩ := h x (by simp)
    obtain ⟨hy, by'⟩ := h y (by simp)
    obtain ⟨a, b, rfl⟩ := len2 hx
    obtain ⟨c, d, rfl⟩ := len2 hy
    show (prLt (prP a b) (prP c d) && ascB (([c, d] :: r).map rowT)) = true ↔ _
    rw [Bool.and_eq_true, ih, prLt_code (B := B) (bx b (by simp)) (by' d (by simp)), decide_eq_true_eq]
    constructor
    · rintro ⟨h1, h2⟩
      refine List.pairwise_cons.mpr ⟨fun z hz => ?_, h2⟩
      rcases List.mem_cons.mp hz with e | hz
      · rw [e]; exact h1
      · exact Int.lt_trans h1 ((List.pairwise_cons.mp h2).1 z hz)
    · intro h
      obtain ⟨h1, h2⟩ := List.pairwise_cons.mp h
      exact ⟨h1 _ (by simp), h2⟩
theorem sset_asc {R : List (List Int)} (hl : R.length < 64) (h : ∀ r ∈ R, r.length = 2 ∧ TS.Bd ssetB r) : ssetD (.tuple (R.map rowT)) = some (.l ((ssort ssetB R).map rowT)) ∧ decide (R = ssort ssetB R) = ascB (R.map rowT) := by
  have inj : ∀ x ∈ R, ∀ y ∈ R, TS.code ssetB x = TS.code ssetB y → x = y := fun x hx y hy e => code_inj (by decide) (h x hx).2 (h y hy).2 ((h x hx).1.trans (h y hy).1.symm) e
  refine ⟨?_, ?_⟩
  · have ok : rowsOk ssetB R = true := by
      unfold rowsOk
      rw [Bool.and_eq_true, decide_eq_true_eq, List.all_eq_true]
      refine ⟨hl, fun r hr => ?_⟩
      have hd : (R.headD [0]).length = 2 := by
        cases R with
        | nil => simp at hr
        | cons y t => exact (h y (by simp)).1
      have z := h r hr
      simp only [Bool.and_eq_true, decide_eq_true_eq, List.all_eq_true]
      exact ⟨⟨by rw [z.1, hd], by omega⟩, fun m hm => z.2 m hm⟩
    show (rowsD (R.map rowT)).bind _ = _
    rw [rowsD_map, Option.bind_some, if_pos ok]
  · have e1 := asc_iff h
    have e2 : R = ssort ssetB R ↔ R.Pairwise fun q r => TS.code ssetB q < TS.code ssetB r := by
      constructor
      · intro e
        rw [e]
        exact ssort_pw inj
      · intro p
        exact strict_uniq p (ssort_pw inj) fun z => ssort_mem.symm
    by_cases z : ascB (R.map rowT) = true
    · rw [z, decide_eq_true_eq, e2, ← e1]; exact z
    · have z' : ascB (R.map rowT) = false := by simpa using z
      rw [z', decide_eq_false_iff_not, e2, ← e1]; exact z
/-- pairs, as rows -/
theorem pairs_rows {n : Int} (hn : n ≤ 100) : ∀ {ps : List PyData}, ps.all (pairB n) = true → ∃ R : List (List Int), ps = R.map rowT ∧ ∀ r ∈ R, r.length = 2 ∧ TS.Bd ssetB r
  | [], _ => ⟨[], rfl, fun _ h => absurd h List.not_mem_nil⟩
  | x :: ps, h => by
    rw [List.all_cons, Bool.and_eq_true] at h
    obtain ⟨R, e, hR⟩ := pairs_rows hn h.2
    have hp := h.1
    unfold pairB at hp
    split at hp
    · rename_i x y
      simp only [Bool.and_eq_true] at hp
      obtain ⟨i, rfl, i0, i1⟩ := numB_int hp.1.1
      obtain ⟨j, rfl, j0, j1⟩ := numB_int hp.1.2
      refine ⟨[i, j] :: R, by rw [e]; rfl, fun r hr => ?_⟩
      rcases List.mem_cons.mp hr with z | hr
      · subst z
        refine ⟨rfl, fun m hm => ?_⟩
        simp only [ssetB]
        rcases List.mem_cons.mp hm with z | hm
        · omega
        · have := List.mem_singleton.mp hm; omega
      · exact hR r hr
    · cases hp
/-! ### a loop that may end early -/
theorem goFor_all {s : PyData → Ms → Option Ms} {b : Ms → Fl} (P : Ms → Prop) (p : PyData → Bool) (r : PyData) : ∀ (xs : List PyData) (m : Ms), P m → (∀ x ∈ xs, ∀ m, P m → ∃ m1, s x m = some m1 ∧ (p x = true → ∃ m2, b m1 = .nx m2 ∧ P m2) ∧ (p x = false → b m1 = .rt r)) →
    (xs.all p = true → ∃ m', goFor s b xs m = .nx m' ∧ P m') ∧ (xs.all p = false → goFor s b xs m = .rt r)
  | [], m, h, _ => ⟨fun _ => ⟨m, rfl, h⟩, fun z => by simp at z⟩
  | x :: t, m, h, st => by
    obtain ⟨m1, h1, h2, h3⟩ := st x (by simp) m h
    cases hp : p x with
    | true =>
      obtain ⟨m2, h4, h5⟩ := h2 hp
      have ih := goFor_all P p r t m2 h5 fun y hy => st y (List.mem_cons_of_mem _ hy)
      have e : goFor s b (x :: t) m = goFor s b t m2 := by
        rw [goFor, h1]
        dsimp only
        rw [h4]
      rw [e, List.all_cons, hp, Bool.true_and]
      exact ih
    | false =>
      refine ⟨fun z => by simp [hp] at z, fun _ => ?_⟩
      rw [goFor, h1]
      dsimp only
      rw [h3 hp]
end Dl
set_option Elab.async false
set_option linter.all false
set_option maxRecDepth 100000
namespace Dl
open PySem PySem.Spec PyProof.Rows L2
/-! ### _law_are_rules -/
theorem body1 (v x : PyData) : fb__law_are_rules_0 [some (.d v), some (.d x), none] = if boundB x = true then .nx [some (.d v), some (.d x), none] else .rt (.bool false) := by
  unfold fb__law_are_rules_0
  cases x with
  | tuple xs =>
    by_cases h2 : xs.length = 2
    · obtain ⟨a, b, rfl⟩ := len2 h2
      by_cases ha : numB a 0 12 = true
      · obtain ⟨i, rfl, i0, i1⟩ := numB_int ha
        by_cases hb : numB b 0 12 = true
        · obtain ⟨j, rfl, j0, j1⟩ := numB_int hb
          have k : boundB (.tuple [.int i, .int j]) = decide (i ≤ j) := by
            unfold boundB
            simp only [ha, numB, Int.not_lt.mpr j1, decide_false, Bool.not_false, Bool.and_true, Bool.true_and]
            by_cases z : i ≤ j
            · simp [z, i0, i1, Int.not_lt.mpr z]
            · simp [z, i0, i1, Int.not_le.mp z]
          by_cases hij : i ≤ j
          · simp [m_number_ok, ha, hb, k, hij, Int.not_lt.mpr hij]
          · simp [m_number_ok, ha, hb, k, hij, Int.not_le.mp hij]
        · have k : boundB (.tuple [.int i, b]) = false := by
            unfold boundB
            rw [Bool.eq_false_iff]
            intro z
            apply hb
            simp only [Bool.and_eq_true] at z
            obtain ⟨j, rfl, z1, z2⟩ := numB_int z.2
            simp [numB]; omega
          simp [m_number_ok, ha, hb, k]
      · have k : boundB (.tuple [a, b]) = false := by simp [boundB, ha]
        simp [m_number_ok, ha, k]
    · have e : (xs.length : Int) ≠ 2 := by omega
      have k : boundB (.tuple xs) = false := by
        rw [Bool.eq_false_iff]
        intro z
        have := boundB_2 z
        simp [is2] at this
        exact e this
      simp [e, k]
  | _ => simp [boundB]
theorem body2 (a : PyData) (bs ps : List PyData) (x : PyData) : fb__law_are_rules_2 [some (.d (.tuple [a, .tuple bs, .tuple ps])), some (.d x), none] = if pairB bs.length x = true then .nx [some (.d (.tuple [a, .tuple bs, .tuple ps])), some (.d x), none] else .rt (.bool false) := by
  have hc : ∀ xs : List PyData, lc__law_are_rules_1 [some (.d (.tuple [a, .tuple bs, .tuple ps])), some (.d (.tuple xs)), none] = .ok (.l (xs.map fun z => .bool (numB z 0 (bs.length - 1)))) := fun xs => by
    refine eLc_ok rfl (by simp) (goLc_map (fun z => [some (.d (.tuple [a, .tuple bs, .tuple ps])), some (.d (.tuple xs)), some (.d z)]) _ _ fun z hz => ⟨by simp [wipeM], ?_⟩)
    simp [m_number_ok]
  unfold fb__law_are_rules_2
  cases x with
  | tuple xs =>
    by_cases h2 : xs.length = 2
    · obtain ⟨x, y, rfl⟩ := len2 h2
      by_cases hx : numB x 0 (bs.length - 1) = true
      · by_cases hy : numB y 0 (bs.length - 1) = true
        · obtain ⟨i, rfl, _⟩ := numB_int hx
          obtain ⟨j, rfl, _⟩ := numB_int hy
          by_cases hij : i < j
          · simp [hc, pairB, hx, hy, hij]
          · simp [hc, pairB, hx, hy, hij, Int.not_lt.mp hij]
        · simp [hc, pairB, hx, hy]
      · simp [hc, pairB, hx]
    · have e : (xs.length : Int) ≠ 2 := by omega
      have k : pairB bs.length (.tuple xs) = false := by
        unfold pairB
        split
        · rename_i h; cases h; simp at h2
        · rfl
      simp [e, k]
  | _ => simp [pairB]
theorem loop1 (v : PyData) (bs : List PyData) (o : Option W) : (bs.all boundB = true → ∃ o', goFor (gSet 1) fb__law_are_rules_0 bs [some (.d v), o, none] = .nx [some (.d v), o', none]) ∧ (bs.all boundB = false → goFor (gSet 1) fb__law_are_rules_0 bs [some (.d v), o, none] = .rt (.bool false)) := by
  have := goFor_all (s := gSet 1) (b := fb__law_are_rules_0) (fun m => ∃ o, m = [some (.d v), o, none]) boundB (.bool false) bs [some (.d v), o, none] ⟨o, rfl⟩ fun x hx m ⟨o, e⟩ => by
    subst e
    exact ⟨[some (.d v), some (.d x), none], by simp, fun h => ⟨_, by rw [body1, if_pos h], _, rfl⟩, fun h => by rw [body1, if_neg (by simp [h])]⟩
  exact ⟨fun h => by obtain ⟨m, e, o', rfl⟩ := this.1 h; exact ⟨o', e⟩, this.2⟩
theorem loop2 (a : PyData) (bs ps : List PyData) (o : Option W) : (ps.all (pairB bs.length) = true → ∃ o', goFor (gSet 1) fb__law_are_rules_2 ps [some (.d (.tuple [a, .tuple bs, .tuple ps])), o, none] = .nx [some (.d (.tuple [a, .tuple bs, .tuple ps])), o', none]) ∧
    (ps.all (pairB bs.length) = false → goFor (gSet 1) fb__law_are_rules_2 ps [some (.d (.tuple [a, .tuple bs, .tuple ps])), o, none] = .rt (.bool false)) := by
  have := goFor_all (s := gSet 1) (b := fb__law_are_rules_2) (fun m => ∃ o, m = [some (.d (.tuple [a, .tuple bs, .tuple ps])), o, none]) (pairB bs.length) (.bool false) ps [some (.d (.tuple [a, .tuple bs, .tuple ps])), o, none] ⟨o, rfl⟩ fun x hx m ⟨o, e⟩ => by
    subst e
    exact ⟨[some (.d (.tuple [a, .tuple bs, .tuple ps])), some (.d x), none], by simp, fun h => ⟨_, by rw [body2, if_pos h], _, rfl⟩, fun h => by rw [body2, if_neg (by simp [h])]⟩
  exact ⟨fun h => by obtain ⟨m, e, o', rfl⟩ := this.1 h; exact ⟨o', e⟩, this.2⟩
theorem m_law_are_rules_ok {v : PyData} (hl : ∀ a bs ps, v = .tuple [a, .tuple bs, .tuple ps] → ps.length < 64) : m__law_are_rules [some (.d v)] = .ok (.bool (rulesB v)) := by
  unfold m__law_are_rules b__law_are_rules
  cases v with
  | tuple xs =>
    by_cases h3 : xs.length = 3
    · obtain ⟨a, b, c, rfl⟩ := len3 h3
      by_cases ha : numB a 1 12 = true
      · cases b with
        | tuple bs =>
          cases c with
          | tuple ps =>
            have hps := hl a bs ps rfl
            by_cases hk : 1 ≤ bs.length ∧ bs.length ≤ 6
            · have k3 : (1 : Int) ≤ bs.length := by omega
              have k4 : (bs.length : Int) ≤ 6 := by omega
              have k1 := Int.not_lt.mpr k3
              have k2 := Int.not_lt.mpr k4
              by_cases hb : bs.all boundB = true
              · obtain ⟨o1, e1'⟩ := (loop1 (.tuple [a, .tuple bs, .tuple ps]) bs none).1 hb
                by_cases hp : ps.all (pairB bs.length) = true
                · obtain ⟨o2, e2'⟩ := (loop2 a bs ps o1).1 hp
                  obtain ⟨R, rfl, hR⟩ := pairs_rows (by omega) hp
                  obtain ⟨s1, s2⟩ := sset_asc (by simpa using hps) hR
                  have fin : (sRet (v2 eqD (toV (eCall (g1 listD) [(toV (e2 ixD (rVar 0) (vC (.int 2))))])) (toV (eSset (toV (e2 ixD (rVar 0) (vC (.int 2)))))))) [some (.d (.tuple [a, .tuple bs, .tuple (R.map rowT)])), o2, none] = .rt (.bool (ascB (R.map rowT))) := by
                    simp only [sRet_s, v2_s, t2_s, toV_s, eCall_s, evalAll_cons, evalAll_nil, e2_s, rVar_s, vC_s, List.getElem?_cons_zero, Rz.bind_ok, ix_t, atI_2, List.getElem?_cons_succ, Option.map_some, ofO_some', g1_s, listD_t, eSset, s1, eq_rows, rz_map_ok, s2]
                  have er : rulesB (.tuple [a, .tuple bs, .tuple (R.map rowT)]) = ascB (R.map rowT) := by
                    simp only [rulesB, ha, hp, boundsB, hb, hk.1, hk.2, decide_true, Bool.true_and]
                  rw [er]
                  simp [m_number_ok, ha, k1, k2, k3, k4, e1', e2', -sRet_s, fin]
                · have hp : ps.all (pairB bs.length) = false := by simpa using hp
                  have e2' := (loop2 a bs ps o1).2 hp
                  have er : rulesB (.tuple [a, .tuple bs, .tuple ps]) = false := by
                    simp only [rulesB, hp, Bool.false_and, Bool.and_false]
                  rw [er]
                  simp [m_number_ok, ha, k1, k2, k3, k4, e1', e2', -sRet_s]
                  try simp
              · have hb : bs.all boundB = false := by simpa using hb
                have e1' := (loop1 (.tuple [a, .tuple bs, .tuple ps]) bs none).2 hb
                have er : rulesB (.tuple [a, .tuple bs, .tuple ps]) = false := by
                  simp only [rulesB, boundsB, hb, Bool.false_and, Bool.and_false]
                rw [er]
                simp [m_number_ok, ha, k1, k2, k3, k4, e1', -sRet_s]
                try simp
            · have er : rulesB (.tuple [a, .tuple bs, .tuple ps]) = false := by
                simp only [rulesB, boundsB]
                by_cases z : 1 ≤ bs.length
                · have : ¬ bs.length ≤ 6 := fun q => hk ⟨z, q⟩
                  simp [this]
                · simp [z]
              rw [er]
              by_cases z : (1 : Int) ≤ bs.length
              · have : (6 : Int) < bs.length := by
                  rcases Int.lt_or_le 6 (bs.length : Int) with q | q
                  · exact q
                  · exact absurd ⟨by omega, by omega⟩ hk
                simp [m_number_ok, ha, z, this]
              · simp [m_number_ok, ha, z]
          | _ => simp [m_number_ok, ha, rulesB]
        | _ => simp [m_number_ok, ha, rulesB]
      · have er : rulesB (.tuple [a, b, c]) = false := by
          unfold rulesB
          split
          · rename_i h; cases h; simp [ha]
          · rfl
        simp [m_number_ok, ha, er]
    · have e : (xs.length : Int) ≠ 3 := by omega
      have er : rulesB (.tuple xs) = false := by
        unfold rulesB
        split
        · rename_i h; cases h; simp at h3
        · rfl
      simp [e, er]
  | _ => simp [rulesB]
end Dl
set_option Elab.async false
set_option linter.all false
set_option maxRecDepth 100000
namespace Dl
open PySem PySem.Spec PyProof.Rows L2
theorem goFor_find {s : PyData → Ms → Option Ms} {b : Ms → Fl} (P : Ms → Prop) (r : PyData → Option PyData) : ∀ (xs : List PyData) (m : Ms), P m → (∀ x ∈ xs, ∀ m, P m → ∃ m1, s x m = some m1 ∧ (r x = none → ∃ m2, b m1 = .nx m2 ∧ P m2) ∧ (∀ y, r x = some y → b m1 = .rt y)) →
    (xs.findSome? r = none → ∃ m', goFor s b xs m = .nx m' ∧ P m') ∧ (∀ y, xs.findSome? r = some y → goFor s b xs m = .rt y)
  | [], m, h, _ => ⟨fun _ => ⟨m, rfl, h⟩, fun y z => by simp at z⟩
  | x :: t, m, h, st => by
    obtain ⟨m1, h1, h2, h3⟩ := st x (by simp) m h
    cases hp : r x with
    | none =>
      obtain ⟨m2, h4, h5⟩ := h2 hp
      have ih := goFor_find P r t m2 h5 fun y hy => st y (List.mem_cons_of_mem _ hy)
      have e : goFor s b (x :: t) m = goFor s b t m2 := by
        rw [goFor, h1]
        dsimp only
        rw [h4]
      rw [e, List.findSome?_cons, hp]
      exact ih
    | some y =>
      refine ⟨fun z => by simp [hp] at z, fun y' z => ?_⟩
      rw [List.findSome?_cons, hp] at z
      cases z
      rw [goFor, h1]
      dsimp only
      rw [h3 y hp]
theorem findSome_if {α β : Type} (p : α → Bool) (g : α → β) : ∀ l : List α, l.findSome? (fun i => if p i = true then some (g i) else none) = (l.find? p).map g
  | [] => rfl
  | x :: l => by
    rw [List.findSome?_cons, List.find?_cons]
    cases h : p x <;> simp [findSome_if p g l]
@[simp] theorem sumD_t {xs : List PyData} : sumD (.tuple xs) = (intsOf xs).map fun ns => .d (.int ns.sum) := rfl
/-! ### the fault of a box -/
def pr2 (z : Int × Int) : PyData := prP z.1 z.2
def pn2 (z : Nat × Nat) : PyData := prP z.1 z.2
def badK (Bs : List (Int × Int)) (ns : List Int) (i : Nat) : Bool := match Bs[i]?, ns[i]? with
  | some z, some n => decide (n < z.1) || decide (z.2 < n)
  | _, _ => false
def badP (ns : List Int) (z : Nat × Nat) : Bool := match ns[z.1]?, ns[z.2]? with
  | some x, some y => decide (0 < x) && decide (0 < y)
  | _, _ => false
def dueN (size : Int) (Bs : List (Int × Int)) (Ps : List (Nat × Nat)) (ns : List Int) : PyData := if ns.sum = size then
    match (List.range Bs.length).find? (badK Bs ns) with
    | some i => .tuple [.str "bounds", .int (i : Nat)]
    | none => match Ps.find? (badP ns) with
      | some z => .tuple [.str "never", .int z.1, .int z.2]
      | none => .none
  else .tuple [.str "size", .int ns.sum]
def rul (size : Int) (Bs : List (Int × Int)) (Ps : List (Nat × Nat)) : PyData := .tuple [.int size, .tuple (Bs.map pr2), .tuple (Ps.map pn2)]
/-- a box by its form -/
def boxI (k : Nat) (v : PyData) : Option (List Int) := match v with
  | .tuple xs => if xs.length = k ∧ xs.all (fun z => numB z 0 12) = true then intsOf xs else none
  | _ => none
def dueB (size : Int) (Bs : List (Int × Int)) (Ps : List (Nat × Nat)) (v : PyData) : PyData := match boxI Bs.length v with
  | some ns => dueN size Bs Ps ns
  | none => .tuple [.str "form"]
theorem nums_ints : ∀ {xs : List PyData}, xs.all (fun z => numB z 0 12) = true → ∃ ns, intsOf xs = some ns ∧ xs = ns.map .int
  | [], _ => ⟨[], rfl, rfl⟩
  | x :: xs, h => by
    rw [List.all_cons, Bool.and_eq_true] at h
    obtain ⟨i, rfl, _⟩ := numB_int h.1
    obtain ⟨ns, e, e'⟩ := nums_ints h.2
    exact ⟨i :: ns, by rw [intsOf, e]; rfl, by rw [e']; rfl⟩
theorem lc_form (r v3 v4 v5 : PyData) (xs : List PyData) : lc_fault_in_0 [some (.d r), some (.d (.tuple xs)), some (.d v3), some (.d v4), some (.d v5), none, none, none, none, none] = .ok (.l (xs.map fun z => .bool (numB z 0 12))) := by
  refine eLc_ok rfl (by simp) (goLc_map (fun z => [some (.d r), some (.d (.tuple xs)), some (.d v3), some (.d v4), some (.d v5), none, some (.d z), none, none, none]) _ _ fun z hz => ⟨by simp [wipeM], ?_⟩)
  simp [m_is_whole_ok]
theorem enumFrom_mem : ∀ {xs : List PyData} {i : Nat} {z : PyData}, z ∈ enumFrom i xs → ∃ j x, xs[j]? = some x ∧ z = .tuple [.int ((i + j : Nat) : Int), x]
  | [], _, z, h => by simp [enumFrom] at h
  | x :: r, i, z, h => by
    rw [enumFrom, List.mem_cons] at h
    rcases h with h | h
    · exact ⟨0, x, rfl, h⟩
    · obtain ⟨j, y, h1, h2⟩ := enumFrom_mem h
      refine ⟨j + 1, y, by simpa using h1, ?_⟩
      rw [h2]
      have : i + 1 + j = i + (j + 1) := by omega
      rw [this]
/-- what loop 1 hands back -/
def ret1 (Bs : List (Int × Int)) (ns : List Int) (z : PyData) : Option PyData := match z with
  | .tuple [.int i, _] => if badK Bs ns i.toNat = true then some (.tuple [.str "bounds", .int i]) else none
  | _ => none
theorem find_enum (Bs : List (Int × Int)) (ns : List Int) : (enumFrom 0 (Bs.map pr2)).findSome? (ret1 Bs ns) = ((List.range Bs.length).find? (badK Bs ns)).map fun i => .tuple [.str "bounds", .int (i : Nat)] := by
  have e : enumFrom 0 (Bs.map pr2) = (List.range Bs.length).map fun (i : Nat) => .tuple [.int i, ((Bs[i]?).map pr2).getD .none] := by
    apply List.ext_getElem?
    intro j
    rw [enumFrom_get, List.getElem?_map, List.getElem?_map]
    by_cases h : j < Bs.length
    · rw [List.getElem?_range h, List.getElem?_eq_getElem h]
      simp [h]
    · rw [List.getElem?_eq_none (by omega), List.getElem?_eq_none (l := List.range Bs.length) (by simpa using h)]
      rfl
  rw [e, List.findSome?_map, ← findSome_if]
  congr 1
def ret2 (ns : List Int) (z : PyData) : Option PyData := match z with
  | .tuple [.int a, .int b] => if badP ns (a.toNat, b.toNat) = true then some (.tuple [.str "never", .int a, .int b]) else none
  | _ => none
theorem find_pairs (Ps : List (Nat × Nat)) (ns : List Int) : (Ps.map pn2).findSome? (ret2 ns) = (Ps.find? (badP ns)).map fun z => .tuple [.str "never", .int z.1, .int z.2] := by
  rw [List.findSome?_map, ← findSome_if]
  congr 1
def fst5 (size : Int) (Bs : List (Int × Int)) (Ps : List (Nat × Nat)) (ns : List Int) (o5 o6 o7 o8 o9 : Option W) : Ms := [some (.d (rul size Bs Ps)), some (.d (.tuple (ns.map .int))), some (.d (.int size)), some (.d (.tuple (Bs.map pr2))), some (.d (.tuple (Ps.map pn2))), o5, o6, o7, o8, o9]
theorem fb1 {size : Int} {Bs : List (Int × Int)} {Ps : List (Nat × Nat)} {ns : List Int} (hn : ns.length = Bs.length) {j : Nat} {z : Int × Int} (hz : Bs[j]? = some z) {o6 o7 : Option W} :
    fb_fault_in_1 (fst5 size Bs Ps ns (some (.d (.int j))) o6 o7 (some (.d (.int z.1))) (some (.d (.int z.2)))) = if badK Bs ns j = true then .rt (.tuple [.str "bounds", .int j]) else .nx (fst5 size Bs Ps ns (some (.d (.int j))) o6 o7 (some (.d (.int z.1))) (some (.d (.int z.2)))) := by
  have hj : j < ns.length := by rw [hn]; exact (List.getElem?_eq_some_iff.mp hz).1
  have hj' : ns[j]? = some ns[j] := List.getElem?_eq_getElem _
  have ka : atI (ns.map PyData.int) ((j : Nat) : Int) = some (.int ns[j]) := by rw [atI_nat, List.getElem?_map, hj']; rfl
  have hk : badK Bs ns j = (decide (ns[j] < z.1) || decide (z.2 < ns[j])) := by simp only [badK, hz, hj']
  rw [hk]
  by_cases q : ns[j] < z.1
  · simp [fb_fault_in_1, fst5, ka, q, Int.not_le.mpr q]
  · by_cases q2 : z.2 < ns[j]
    · simp [fb_fault_in_1, fst5, ka, q, Int.not_lt.mp q, q2]
    · simp [fb_fault_in_1, fst5, ka, q, Int.not_lt.mp q, q2]
theorem fb2 {size : Int} {Bs : List (Int × Int)} {Ps : List (Nat × Nat)} {ns : List Int} {z : Nat × Nat} (q1 : z.1 < ns.length) (q2 : z.2 < ns.length) {o5 o8 o9 : Option W} :
    fb_fault_in_2 (fst5 size Bs Ps ns o5 (some (.d (.int z.1))) (some (.d (.int z.2))) o8 o9) = if badP ns z = true then .rt (.tuple [.str "never", .int z.1, .int z.2]) else .nx (fst5 size Bs Ps ns o5 (some (.d (.int z.1))) (some (.d (.int z.2))) o8 o9) := by
  have e1' : ns[z.1]? = some ns[z.1] := List.getElem?_eq_getElem _
  have e2' : ns[z.2]? = some ns[z.2] := List.getElem?_eq_getElem _
  have k1 : atI (ns.map PyData.int) ((z.1 : Nat) : Int) = some (.int ns[z.1]) := by rw [atI_nat, List.getElem?_map, e1']; rfl
  have k2 : atI (ns.map PyData.int) ((z.2 : Nat) : Int) = some (.int ns[z.2]) := by rw [atI_nat, List.getElem?_map, e2']; rfl
  have hk : badP ns z = (decide (0 < ns[z.1]) && decide (0 < ns[z.2])) := by simp only [badP, e1', e2']
  rw [hk]
  by_cases w : 0 < ns[z.1]
  · by_cases w2 : 0 < ns[z.2]
    · simp [fb_fault_in_2, fst5, k1, k2, w, w2]
    · simp [fb_fault_in_2, fst5, k1, k2, w, w2]
  · simp [fb_fault_in_2, fst5, k1, k2, w]
theorem fl1 (size : Int) (Bs : List (Int × Int)) (Ps : List (Nat × Nat)) (ns : List Int) (hn : ns.length = Bs.length) :
    ((List.range Bs.length).find? (badK Bs ns) = none → ∃ o5 o8 o9, goFor (gTup' 2 (gCons (gSet 5) (gCons (gTup' 2 (gCons (gSet 8) (gCons (gSet 9) gNil))) gNil))) fb_fault_in_1 (enumFrom 0 (Bs.map pr2)) (fst5 size Bs Ps ns none none none none none) = .nx (fst5 size Bs Ps ns o5 none none o8 o9)) ∧
    (∀ i, (List.range Bs.length).find? (badK Bs ns) = some i → goFor (gTup' 2 (gCons (gSet 5) (gCons (gTup' 2 (gCons (gSet 8) (gCons (gSet 9) gNil))) gNil))) fb_fault_in_1 (enumFrom 0 (Bs.map pr2)) (fst5 size Bs Ps ns none none none none none) = .rt (.tuple [.str "bounds", .int (i : Nat)])) := by
  have l1 := goFor_find (s := gTup' 2 (gCons (gSet 5) (gCons (gTup' 2 (gCons (gSet 8) (gCons (gSet 9) gNil))) gNil))) (b := fb_fault_in_1) (fun m => ∃ o5 o8 o9, m = fst5 size Bs Ps ns o5 none none o8 o9) (ret1 Bs ns) (enumFrom 0 (Bs.map pr2)) _ ⟨none, none, none, rfl⟩ fun x hx m ⟨o5, o8, o9, e⟩ => by
    subst e
    obtain ⟨j, y, h1, rfl⟩ := enumFrom_mem hx
    rw [List.getElem?_map] at h1
    obtain ⟨z, hz, rfl⟩ := Option.map_eq_some_iff.mp h1
    have hb := fb1 (size := size) (Ps := Ps) hn hz (o6 := none) (o7 := none)
    refine ⟨fst5 size Bs Ps ns (some (.d (.int j))) none none (some (.d (.int z.1))) (some (.d (.int z.2))), by simp [pr2, prP, fst5], fun hr => ?_, fun y hr => ?_⟩
    · simp only [ret1, Nat.zero_add, Int.toNat_natCast] at hr
      cases q : badK Bs ns j with
      | false => rw [q] at hb; exact ⟨_, hb, _, _, _, rfl⟩
      | true => rw [q] at hr; cases hr
    · simp only [ret1, Nat.zero_add, Int.toNat_natCast] at hr
      cases q : badK Bs ns j with
      | false => rw [q] at hr; cases hr
      | true => rw [q] at hr hb; cases hr; exact hb
  rw [find_enum] at l1
  refine ⟨fun h => ?_, fun i h => l1.2 _ (by rw [h]; rfl)⟩
  obtain ⟨m', e, o5, o8, o9, rfl⟩ := l1.1 (by rw [h]; rfl)
  exact ⟨o5, o8, o9, e⟩
theorem fl2 (size : Int) (Bs : List (Int × Int)) (Ps : List (Nat × Nat)) (ns : List Int) (hP : ∀ z ∈ Ps, z.1 < ns.length ∧ z.2 < ns.length) (o5 o8 o9 : Option W) :
    (Ps.find? (badP ns) = none → ∃ m', goFor (gTup' 2 (gCons (gSet 6) (gCons (gSet 7) gNil))) fb_fault_in_2 (Ps.map pn2) (fst5 size Bs Ps ns o5 none none o8 o9) = .nx m') ∧
    (∀ z, Ps.find? (badP ns) = some z → goFor (gTup' 2 (gCons (gSet 6) (gCons (gSet 7) gNil))) fb_fault_in_2 (Ps.map pn2) (fst5 size Bs Ps ns o5 none none o8 o9) = .rt (.tuple [.str "never", .int z.1, .int z.2])) := by
  have l1 := goFor_find (s := gTup' 2 (gCons (gSet 6) (gCons (gSet 7) gNil))) (b := fb_fault_in_2) (fun m => ∃ o6 o7, m = fst5 size Bs Ps ns o5 o6 o7 o8 o9) (ret2 ns) (Ps.map pn2) _ ⟨none, none, rfl⟩ fun x hx m ⟨o6, o7, e⟩ => by
    subst e
    obtain ⟨z, hz, rfl⟩ := List.mem_map.mp hx
    obtain ⟨q1, q2⟩ := hP z hz
    have hb := fb2 (size := size) (Bs := Bs) (Ps := Ps) q1 q2 (o5 := o5) (o8 := o8) (o9 := o9)
    refine ⟨fst5 size Bs Ps ns o5 (some (.d (.int z.1))) (some (.d (.int z.2))) o8 o9, by simp [pn2, prP, fst5], fun hr => ?_, fun y hr => ?_⟩
    · have hr : (if badP ns z = true then some (PyData.tuple [.str "never", .int z.1, .int z.2]) else none) = none := hr
      cases q : badP ns z with
      | false => rw [q] at hb; exact ⟨_, hb, _, _, rfl⟩
      | true => rw [q] at hr; cases hr
    · have hr : (if badP ns z = true then some (PyData.tuple [.str "never", .int z.1, .int z.2]) else none) = some y := hr
      cases q : badP ns z with
      | false => rw [q] at hr; cases hr
      | true => rw [q] at hr hb; cases hr; exact hb
  rw [find_pairs] at l1
  refine ⟨fun h => ?_, fun i h => l1.2 _ (by rw [h]; rfl)⟩
  obtain ⟨m', e, _⟩ := l1.1 (by rw [h]; rfl)
  exact ⟨m', e⟩
theorem box_form {k : Nat} {xs : List PyData} (hl : xs.length = k) (ha : xs.all (fun z => numB z 0 12) = true) : ∃ ns : List Int, xs = ns.map .int ∧ ns.length = k ∧ boxI k (.tuple xs) = some ns := by
  obtain ⟨ns, e1', e2'⟩ := nums_ints ha
  refine ⟨ns, e2', by rw [← hl, e2', List.length_map], ?_⟩
  show (if xs.length = k ∧ xs.all (fun z => numB z 0 12) = true then intsOf xs else none) = _
  rw [if_pos ⟨hl, ha⟩, e1']
theorem dueB_form {size : Int} {Bs : List (Int × Int)} {Ps : List (Nat × Nat)} {xs : List PyData} (h : ¬ (xs.length = Bs.length ∧ xs.all (fun z => numB z 0 12) = true)) : dueB size Bs Ps (.tuple xs) = .tuple [.str "form"] := by
  have : boxI Bs.length (.tuple xs) = none := if_neg h
  unfold dueB
  rw [this]
theorem m_fault_in_ok {size : Int} {Bs : List (Int × Int)} {Ps : List (Nat × Nat)} (hP : ∀ z ∈ Ps, z.1 < Bs.length ∧ z.2 < Bs.length) (v : PyData) : m_fault_in [some (.d (rul size Bs Ps)), some (.d v)] = .ok (dueB size Bs Ps v) := by
  unfold m_fault_in b_fault_in
  cases v with
  | tuple xs =>
    have hlc := lc_form (rul size Bs Ps) (.int size) (.tuple (Bs.map pr2)) (.tuple (Ps.map pn2)) xs
    unfold rul at hlc ⊢
    by_cases hl : xs.length = Bs.length
    · by_cases ha : xs.all (fun z => numB z 0 12) = true
      · obtain ⟨ns, rfl, hn, hb⟩ := box_form hl ha
        have hd : dueB size Bs Ps (.tuple (ns.map .int)) = dueN size Bs Ps ns := by
          unfold dueB
          rw [hb]
        rw [hd]
        have ha' : ∀ z ∈ ns, numB (.int z) 0 12 = true := fun z hz => List.all_eq_true.mp ha _ (List.mem_map.mpr ⟨z, hz, rfl⟩)
        have hno : ¬ ∃ x, x ∈ ns ∧ numB (.int x) 0 12 = false := fun ⟨x, h1, h2⟩ => by rw [ha' x h1] at h2; cases h2
        have hP' : ∀ z ∈ Ps, z.1 < ns.length ∧ z.2 < ns.length := by rw [hn]; exact hP
        by_cases hs : ns.sum = size
        · obtain ⟨a1, a2⟩ := fl1 size Bs Ps ns hn
          unfold dueN
          rw [if_pos hs]
          cases hf : (List.range Bs.length).find? (badK Bs ns) with
          | some i =>
            have q := a2 i hf
            unfold fst5 rul at q
            simp [-List.map_map, hlc, hs, q, hn, hno, ha']
          | none =>
            obtain ⟨o5, o8, o9, q⟩ := a1 hf
            obtain ⟨b1, b2⟩ := fl2 size Bs Ps ns hP' o5 o8 o9
            unfold fst5 rul at q b1 b2
            cases hp : Ps.find? (badP ns) with
            | some z =>
              have q2 := b2 z hp
              simp [-List.map_map, hlc, hs, q, hn, hno, ha', q2]
            | none =>
              obtain ⟨m', q2⟩ := b1 hp
              simp [-List.map_map, hlc, hs, q, hn, hno, ha', q2]
        · unfold dueN
          rw [if_neg hs]
          simp [-List.map_map, hlc, hs, hn, hno, ha']
      · rw [dueB_form fun z => ha z.2]
        simp [hlc, hl, ha]
    · rw [dueB_form fun z => hl z.1]
      have : ¬ (xs.length : Int) = Bs.length := by omega
      simp [this]
  | _ => simp [dueB, boxI, rul]
end Dl
set_option Elab.async false
set_option linter.all false
set_option maxRecDepth 100000
namespace Dl
open PySem PySem.Spec PyProof.Rows L2
theorem find_filter {α : Type} (p : α → Bool) (l : List α) : l.find? p = (l.filter p).head? := List.head?_filter.symm
def due7 (size : Int) (Bs : List (Int × Int)) (Ps : List (Nat × Nat)) (v : PyData) (o2 o3 : Option W) : Ms := [some (.d (rul size Bs Ps)), some (.d v), o2, o3, some (.d (.int size)), some (.d (.tuple (Bs.map pr2))), some (.d (.tuple (Ps.map pn2))), none, none, none]
theorem ld0 {size : Int} {Bs : List (Int × Int)} {Ps : List (Nat × Nat)} {xs : List PyData} : lc__law_due_0 (due7 size Bs Ps (.tuple xs) none none) = .ok (.l (xs.map fun z => .bool (numB z 0 12))) := by
  refine eLc_ok rfl (by simp [due7]) (goLc_map (fun z => (due7 size Bs Ps (.tuple xs) none none).set 9 (some (.d z))) _ _ fun z hz => ⟨by simp [wipeM, due7], ?_⟩)
  simp [m_number_ok, due7]
def intOf (z : PyData) : Nat := match z with
  | .int i => i.toNat
  | _ => 0
theorem ld1 {size : Int} {Bs : List (Int × Int)} {Ps : List (Nat × Nat)} {ns : List Int} (hn : ns.length = Bs.length) (hs : ns.length ≤ 6) : lc__law_due_1 (due7 size Bs Ps (.tuple (ns.map .int)) none none) = .ok (.l (((List.range Bs.length).filter (badK Bs ns)).map fun i => .int (i : Nat))) := by
  have h1 : rng1 [.int (ns.length : Int)] = .ok (rngL 0 ns.length) := by
    have : rngOk 0 ns.length = true := by rw [rngOk_iff]; omega
    simp only [rng1, this, if_true, Int.toNat_natCast]
  have h2 := goLc_eq (s := gSet 7) (t := tOr' (t2 ltD (toV (e2 ixD (rVar 1) (rVar 7))) (toV (e2 ixD (toV (e2 ixD (rVar 5) (rVar 7))) (vC (.int 0))))) (t2 gtD (toV (e2 ixD (rVar 1) (rVar 7))) (toV (e2 ixD (toV (e2 ixD (rVar 5) (rVar 7))) (vC (.int 1))))))
    (e := vVar 7) (m := wipeM (due7 size Bs Ps (.tuple (ns.map .int)) none none) [7]) (fun z => (due7 size Bs Ps (.tuple (ns.map .int)) none none).set 7 (some (.d z))) (fun z => badK Bs ns (intOf z)) id (rngL 0 ns.length) fun z hz => by
    unfold rngL at hz
    obtain ⟨j, hj, rfl⟩ := List.mem_map.mp hz
    have hj : j < ns.length := List.mem_range.mp hj
    have e0 : (0 : Int) + (j : Nat) = (j : Nat) := by omega
    rw [e0]
    have hj' : ns[j]? = some ns[j] := List.getElem?_eq_getElem _
    have hz' : Bs[j]? = some (Bs[j]'(by omega)) := List.getElem?_eq_getElem _
    have ka : atI (ns.map PyData.int) ((j : Nat) : Int) = some (.int ns[j]) := by rw [atI_nat, List.getElem?_map, hj']; rfl
    have kb : atI (Bs.map pr2) ((j : Nat) : Int) = some (pr2 (Bs[j]'(by omega))) := by rw [atI_nat, List.getElem?_map, hz']; rfl
    have hk : badK Bs ns (intOf (.int (j : Nat))) = (decide (ns[j] < (Bs[j]'(by omega)).1) || decide ((Bs[j]'(by omega)).2 < ns[j])) := by
      show badK Bs ns (j : Int).toNat = _
      simp only [Int.toNat_natCast, badK, hz', hj']
    refine ⟨by simp [wipeM, due7], ?_, fun _ => by simp [due7]⟩
    rw [hk]
    by_cases q : ns[j] < (Bs[j]'(by omega)).1
    · simp [due7, ka, kb, pr2, prP, q]
    · simp [due7, ka, kb, pr2, prP, q]
  have h0 : evalAllD [(toV (eCall (g1 lenD) [(rVar 1)]))] (due7 size Bs Ps (.tuple (ns.map .int)) none none) = .ok [.int (ns.length : Int)] := by simp [due7]
  have h1' : iArg rng1 [(toV (eCall (g1 lenD) [(rVar 1)]))] (due7 size Bs Ps (.tuple (ns.map .int)) none none) = .ok (rngL 0 ns.length) := by
    rw [iArg_s, h0, Rz.bind_ok]
    exact h1
  refine eLc_ok rfl h1' ?_
  rw [h2]
  have h3 : ((rngL 0 ns.length).filter fun z => badK Bs ns (intOf z)).map id = ((List.range Bs.length).filter (badK Bs ns)).map fun i => .int (i : Nat) := by
    rw [List.map_id, rngL, List.filter_map, hn]
    have : ((fun z => badK Bs ns (intOf z)) ∘ fun (i : Nat) => PyData.int (0 + (i : Nat))) = badK Bs ns := by
      funext i
      have e : ((0 : Int) + (i : Nat)).toNat = i := by omega
      show badK Bs ns ((0 : Int) + (i : Nat)).toNat = _
      rw [e]
    rw [this]
    apply List.map_congr_left
    intro i _
    rw [Int.zero_add]
  rw [h3]
theorem ld2 {size : Int} {Bs : List (Int × Int)} {Ps : List (Nat × Nat)} {ns : List Int} (hP : ∀ z ∈ Ps, z.1 < ns.length ∧ z.2 < ns.length) (o2 : Option W) : lc__law_due_2 (due7 size Bs Ps (.tuple (ns.map .int)) o2 none) = .ok (.l ((Ps.filter (badP ns)).map pn2)) := by
  have h2 := goLc_eq (s := gSet 8) (t := t2 gtD (toV (eCall (g12 minD1 min2D) [(toV (e2 ixD (rVar 1) (toV (e2 ixD (rVar 8) (vC (.int 0)))))), (toV (e2 ixD (rVar 1) (toV (e2 ixD (rVar 8) (vC (.int 1))))))])) (vC (.int 0)))
    (e := vVar 8) (m := wipeM (due7 size Bs Ps (.tuple (ns.map .int)) o2 none) [8]) (fun z => (due7 size Bs Ps (.tuple (ns.map .int)) o2 none).set 8 (some (.d z))) (fun z => (ret2 ns z).isSome) id (Ps.map pn2) fun x hx => by
    obtain ⟨z, hz, rfl⟩ := List.mem_map.mp hx
    obtain ⟨q1, q2⟩ := hP z hz
    have e1' : ns[z.1]? = some ns[z.1] := List.getElem?_eq_getElem _
    have e2' : ns[z.2]? = some ns[z.2] := List.getElem?_eq_getElem _
    have k1 : atI (ns.map PyData.int) ((z.1 : Nat) : Int) = some (.int ns[z.1]) := by rw [atI_nat, List.getElem?_map, e1']; rfl
    have k2 : atI (ns.map PyData.int) ((z.2 : Nat) : Int) = some (.int ns[z.2]) := by rw [atI_nat, List.getElem?_map, e2']; rfl
    have hk : (ret2 ns (pn2 z)).isSome = (decide (0 < ns[z.1]) && decide (0 < ns[z.2])) := by
      show (if badP ns z = true then some _ else none).isSome = _
      simp only [badP, e1', e2']
      cases decide (0 < ns[z.1]) <;> cases decide (0 < ns[z.2]) <;> rfl
    refine ⟨by simp [wipeM, due7], ?_, fun _ => by simp [due7]⟩
    rw [hk]
    by_cases w : 0 < ns[z.1]
    · by_cases w2 : 0 < ns[z.2]
      · have : 0 < min ns[z.1] ns[z.2] := by omega
        simp [due7, k1, k2, pn2, prP, w, w2, this]
      · have : ¬ 0 < min ns[z.1] ns[z.2] := by omega
        simp [due7, k1, k2, pn2, prP, w, w2, this]
    · have : ¬ 0 < min ns[z.1] ns[z.2] := by omega
      simp [due7, k1, k2, pn2, prP, w, this]
  refine eLc_ok rfl (xs := Ps.map pn2) (by simp [due7]) ?_
  rw [h2, List.map_id, List.filter_map]
  congr 2
  apply List.filter_congr
  intro z _
  show (if badP ns z = true then some _ else none).isSome = _
  cases badP ns z <;> rfl
theorem m_law_due_ok {size : Int} {Bs : List (Int × Int)} {Ps : List (Nat × Nat)} (hB : Bs.length ≤ 6) (hP : ∀ z ∈ Ps, z.1 < Bs.length ∧ z.2 < Bs.length) (v : PyData) : m__law_due [some (.d (rul size Bs Ps)), some (.d v)] = .ok (dueB size Bs Ps v) := by
  unfold m__law_due b__law_due
  cases v with
  | tuple xs =>
    have l0 := ld0 (size := size) (Bs := Bs) (Ps := Ps) (xs := xs)
    by_cases hl : xs.length = Bs.length
    · by_cases ha : xs.all (fun z => numB z 0 12) = true
      · obtain ⟨ns, rfl, hn, hb⟩ := box_form hl ha
        have hd : dueB size Bs Ps (.tuple (ns.map .int)) = dueN size Bs Ps ns := by
          unfold dueB
          rw [hb]
        rw [hd]
        have ha' : ∀ z ∈ ns, numB (.int z) 0 12 = true := fun z hz => List.all_eq_true.mp ha _ (List.mem_map.mpr ⟨z, hz, rfl⟩)
        have hno : ¬ ∃ x, x ∈ ns ∧ numB (.int x) 0 12 = false := fun ⟨x, h1, h2⟩ => by rw [ha' x h1] at h2; cases h2
        have hP' : ∀ z ∈ Ps, z.1 < ns.length ∧ z.2 < ns.length := by rw [hn]; exact hP
        have l1 := ld1 (size := size) (Bs := Bs) (Ps := Ps) hn (by omega)
        have l2 := ld2 (size := size) (Bs := Bs) (Ps := Ps) hP' 
        unfold due7 rul at l0 l1 l2
        unfold rul
        by_cases hs : ns.sum = size
        · unfold dueN
          rw [if_pos hs, find_filter, find_filter]
          cases hf : (List.range Bs.length).filter (badK Bs ns) with
          | cons i r =>
            rw [hf] at l1
            have hpos : (0 : Int) < (r.length : Int) + 1 := by omega
            simp [-List.map_map, l0, l1, hs, hn, hno, ha', frzAt, hpos]
          | nil =>
            rw [hf] at l1
            cases hp : Ps.filter (badP ns) with
            | cons z r =>
              rw [hp] at l2
              have hpos : (0 : Int) < (r.length : Int) + 1 := by omega
              simp [-List.map_map, l0, l1, l2, hs, hn, hno, ha', frzAt, hpos, pn2, prP]
            | nil =>
              rw [hp] at l2
              simp [-List.map_map, l0, l1, l2, hs, hn, hno, ha', frzAt]
        · unfold dueN
          rw [if_neg hs]
          simp [-List.map_map, l0, hs, hn, hno, ha']
      · rw [dueB_form fun z => ha z.2]
        unfold due7 rul at l0
        unfold rul
        simp [l0, hl, ha]
    · rw [dueB_form fun z => hl z.1]
      have : ¬ (xs.length : Int) = Bs.length := by omega
      simp [this, rul]
  | _ => simp [dueB, boxI, rul]
end Dl
set_option Elab.async false
set_option linter.all false
set_option maxRecDepth 100000
namespace Dl
open PySem PySem.Spec PyProof.Rows L2
/-! ### the draws -/
def nn (D : List Int) : Prop := ∀ d ∈ D, 0 ≤ d
theorem nn_app {D : List Int} {d : Int} (h : nn D) (hd : 0 ≤ d) : nn (D ++ [d]) := fun x hx => by
  rcases List.mem_append.mp hx with h1 | h1
  · exact h x h1
  · rw [List.mem_singleton.mp h1]; exact hd
def dSt (ns : List Int) (D : List Int) (s : Int) (c k n : Option W) : Ms := [some (.r ns), some (.d (.int 60)), some (.l (D.map .int)), some (.d (.int s)), c, k, n]
theorem mapInt_app (D : List Int) (d : Int) : D.map PyData.int ++ [.int d] = (D ++ [d]).map .int := by simp
theorem fa0 {ns D : List Int} {s n : Int} {c k : Option W} (hD : D.length < 16777216) : fb__law_draws_0 (dSt ns D s c k (some (.d (.int n)))) = if 0 < n then .nx (dSt ns (D ++ [n % 1009]) s c k (some (.d (.int (n / 1009))))) else .nx (dSt ns D s c k (some (.d (.int n)))) := by
  unfold fb__law_draws_0 dSt
  by_cases h : 0 < n
  · simp [h, lAt, hD]
  · simp [h]
theorem rng60 : rng1 [.int 60] = .ok (rngL 0 60) := by
  have h : rngOk 0 60 = true := by rw [rngOk_iff]; omega
  simp only [rng1, h, if_true]
  rfl
theorem inner {ns : List Int} {s : Int} {c : Option W} {D : List Int} {n : Int} {k : Option W} (hD : nn D) (hl : D.length ≤ 5000) (hn : 0 ≤ n) : ∃ D' k' n', goFor (gSet 5) fb__law_draws_0 (rngL 0 60) (dSt ns D s c k (some (.d (.int n)))) = .nx (dSt ns D' s c k' n') ∧ nn D' ∧ D'.length ≤ D.length + 60 := by
  obtain ⟨m', e, D', k', n', rfl, h1, h2, h3⟩ := goFor_inv (s := gSet 5) (b := fb__law_draws_0) (fun i m => ∃ D' k' n', m = dSt ns D' s c k' (some (.d (.int n'))) ∧ nn D' ∧ D'.length ≤ D.length + i ∧ 0 ≤ n') (rngL 0 60) 0 _ ⟨D, k, n, rfl, hD, Nat.le_refl _, hn⟩ fun i x m hx ⟨D', k', n', e, h1, h2, h3⟩ => by
    subst e
    have hi : i < 60 := by
      have := (List.getElem?_eq_some_iff.mp hx).1
      rwa [rngL_len] at this
    refine ⟨dSt ns D' s c (some (.d x)) (some (.d (.int n'))), by simp [dSt], ?_⟩
    rw [fa0 (by omega)]
    by_cases h : 0 < n'
    · rw [if_pos h]
      exact ⟨_, rfl, _, _, _, rfl, nn_app h1 (by omega), by simp; omega, by omega⟩
    · rw [if_neg h]
      exact ⟨_, rfl, _, _, _, rfl, h1, by omega, h3⟩
  rw [rngL_len] at h2
  exact ⟨D', k', _, e, h1, by omega⟩
theorem sm (x : Int) {y : Int} (h : smallI y) : (smallI x ∨ smallI y) := .inr h
theorem pow1018 : powD (.int 10) (.int 18) = some (.d (.int 1000000000000000000)) := by
  show (if 0 ≤ (18 : Int) ∧ (18 : Int) ≤ 1000000 ∧ (10 : Int).natAbs < 2 ^ 64 then some (W.d (.int ((10 : Int) ^ (18 : Int).toNat))) else none) = _
  rw [if_pos (by decide)]
  rfl
theorem fa1 {ns D : List Int} {s z : Int} {k n : Option W} (hD : nn D) (hl : D.length ≤ 4000) (hs : 0 ≤ s) : ∃ D' s' k' n', fb__law_draws_1 (dSt ns D s (some (.d (.int z))) k n) = .nx (dSt ns D' s' (some (.d (.int z))) k' n') ∧ nn D' ∧ D'.length ≤ D.length + 60 ∧ 0 ≤ s' := by
  unfold fb__law_draws_1
  have ha : 0 ≤ (if z < 0 then -z else z) := by split <;> omega
  generalize hn : (if z < 0 then -z else z) = n0 at ha
  have m1 : smallI 48271 := by decide
  have m2 : smallI 16807 := by decide
  have hs' : 0 ≤ (s * 48271 + n0 + 11) % 2147483647 := Int.emod_nonneg _ (by decide)
  generalize hs1 : (s * 48271 + n0 + 11) % 2147483647 = s1 at hs'
  by_cases hb : n0 < 1000000000000000000
  · have hd : 0 ≤ (s1 * 16807 + 5) / 3 % 65521 := Int.emod_nonneg _ (by decide)
    refine ⟨D ++ [(s1 * 16807 + 5) / 3 % 65521], s1, k, some (.d (.int n0)), ?_, nn_app hD hd, by simp, hs'⟩
    have hl' : D.length < 16777216 := by omega
    simp [dSt, hn, m1, m2, hs1, pow1018, hb, lAt, hl']
  · obtain ⟨D', k', n', e, h1, h2⟩ := inner (ns := ns) (s := s1) (c := some (.d (.int z))) (k := k) hD (by omega) ha
    refine ⟨D', s1, k', n', ?_, h1, h2, hs'⟩
    unfold dSt at e ⊢
    simp [hn, m1, m2, hs1, pow1018, hb, rng60, e]
theorem fa2 {ns D : List Int} {s j : Int} {c n : Option W} (hl : D.length ≤ 6000) : fb__law_draws_2 (dSt ns D s c (some (.d (.int j))) n) = if D.length < 60 then .nx (dSt ns (D ++ [(s * 69621 + j + 1) % 2147483647 / 7 % 65521]) ((s * 69621 + j + 1) % 2147483647) c (some (.d (.int j))) n) else .nx (dSt ns D s c (some (.d (.int j))) n) := by
  unfold fb__law_draws_2 dSt
  have m1 : smallI 69621 := by decide
  have hl' : D.length < 16777216 := by omega
  by_cases h : D.length < 60
  · have h' : (D.length : Int) < 60 := by omega
    simp [h, h', m1, lAt, hl']
  · have h' : ¬ (D.length : Int) < 60 := by omega
    simp [h, h']
theorem take60 {α : Type} (xs : List α) : cutL xs none (some 60) = xs.take 60 := by
  unfold cutL
  rw [HT.sIx_none, show HT.sIx xs.length xs.length (some 60) = min 60 xs.length from HT.sIx_nat _ _ 60]
  simp
theorem m_draws_ok (ns : List Int) (hns : ns.length ≤ 63) : ∃ D : List Int, m__law_draws [some (.r ns), some (.d (.int 60))] = .ok (.list (D.map .int)) ∧ D.length = 60 ∧ nn D := by
  have hcut : (cutL ns none (some 63)).length ≤ 63 := by
    unfold cutL
    rw [List.length_take, List.length_drop]
    omega
  obtain ⟨m1, l1, D1, s1, c1, k1, n1, rfl, a1, a2, a3⟩ := goFor_inv (s := gSet 4) (b := fb__law_draws_1) (fun i m => ∃ D' s' c' k' n', m = dSt ns D' s' c' k' n' ∧ nn D' ∧ D'.length ≤ 60 * i ∧ 0 ≤ s') ((cutL ns none (some 63)).map .int) 0 (dSt ns [] 7 none none none) ⟨[], 7, none, none, none, rfl, fun _ h => absurd h List.not_mem_nil, Nat.le_refl _, by decide⟩ fun i x m hx ⟨D', s', c', k', n', e, h1, h2, h3⟩ => by
    subst e
    rw [List.getElem?_map] at hx
    obtain ⟨z, hz, rfl⟩ := Option.map_eq_some_iff.mp hx
    have hi := (List.getElem?_eq_some_iff.mp hz).1
    refine ⟨dSt ns D' s' (some (.d (.int z))) k' n', by simp [dSt], ?_⟩
    obtain ⟨D2, s2, k2, n2, e, q1, q2, q3⟩ := fa1 (ns := ns) (z := z) (k := k') (n := n') h1 (by omega) h3
    exact ⟨_, e, D2, s2, _, k2, n2, rfl, q1, by omega, q3⟩
  rw [List.length_map] at a2
  obtain ⟨m2, l2, D2, s2, c2, k2, n2, rfl, b1, b2, b3, b4⟩ := goFor_inv (s := gSet 5) (b := fb__law_draws_2) (fun i m => ∃ D' s' c' k' n', m = dSt ns D' s' c' k' n' ∧ nn D' ∧ D'.length ≤ 3780 + i ∧ 0 ≤ s' ∧ (60 ≤ D'.length ∨ i ≤ D'.length)) (rngL 0 60) 0 (dSt ns D1 s1 c1 k1 n1) ⟨D1, s1, c1, k1, n1, rfl, a1, by omega, a3, .inr (Nat.zero_le _)⟩ fun i x m hx ⟨D', s', c', k', n', e, h1, h2, h3, h4⟩ => by
    subst e
    have hi : i < 60 := by
      have := (List.getElem?_eq_some_iff.mp hx).1
      rwa [rngL_len] at this
    obtain ⟨j, rfl⟩ : ∃ j : Int, x = .int j := by
      unfold rngL at hx
      rw [List.getElem?_map] at hx
      obtain ⟨a, _, e⟩ := Option.map_eq_some_iff.mp hx
      exact ⟨_, e.symm⟩
    refine ⟨dSt ns D' s' c' (some (.d (.int j))) n', by simp [dSt], ?_⟩
    rw [fa2 (by omega)]
    by_cases h : D'.length < 60
    · rw [if_pos h]
      exact ⟨_, rfl, _, _, _, _, _, rfl, nn_app h1 (Int.emod_nonneg _ (by decide)), by simp; omega, Int.emod_nonneg _ (by decide), .inr (by simp; omega)⟩
    · rw [if_neg h]
      exact ⟨_, rfl, _, _, _, _, _, rfl, h1, by omega, h3, .inl (by omega)⟩
  rw [rngL_len] at b2 b4
  refine ⟨D2.take 60, ?_, by rw [List.length_take]; omega, fun d hd => b1 d (List.mem_of_mem_take hd)⟩
  unfold m__law_draws b__law_draws
  unfold dSt at l1 l2
  rw [List.map_nil] at l1
  simp [eScr, rAt, l1, l2, rng60, take60]
end Dl
set_option Elab.async false
set_option linter.all false
set_option maxRecDepth 100000
namespace Dl
open PySem PySem.Spec PyProof.Rows L2
/-! ### the rules that the law makes -/
def lexN (q r : Nat × Nat) : Prop := q.1 < r.1 ∨ (q.1 = r.1 ∧ q.2 < r.2)
theorem asc_of : ∀ {Ps : List (Nat × Nat)}, Ps.Pairwise lexN → ascB (Ps.map pn2) = true
  | [], _ => rfl
  | [x], _ => rfl
  | x :: y :: r, h => by
    have h1 := List.pairwise_cons.mp h
    have hxy := h1.1 y (by simp)
    show (prLt (pn2 x) (pn2 y) && ascB ((y :: r).map pn2)) = true
    rw [asc_of h1.2, Bool.and_true]
    show decide ((x.1 : Int) < y.1 ∨ ((x.1 : Int) = y.1 ∧ (x.2 : Int) < y.2)) = true
    rw [decide_eq_true_eq]
    rcases hxy with h | ⟨h, h'⟩
    · exact .inl (by omega)
    · exact .inr ⟨by omega, by omega⟩
structure GoodR (size : Int) (Bs : List (Int × Int)) (Ps : List (Nat × Nat)) : Prop where
  s : 1 ≤ size ∧ size ≤ 8
  k : 1 ≤ Bs.length ∧ Bs.length ≤ 5
  b : ∀ z ∈ Bs, 0 ≤ z.1 ∧ z.1 ≤ 2 ∧ z.1 ≤ z.2 ∧ z.2 ≤ z.1 + 4
  p : ∀ z ∈ Ps, z.1 < z.2 ∧ z.2 < Bs.length
  a : Ps.Pairwise lexN
  l : Ps.length ≤ 25
structure Drw (E : List Int) : Prop where
  n : 60 ≤ E.length
  p : nn E
theorem Drw.at {E : List Int} (d : Drw E) {i : Nat} (h : i < 60) : ∃ x, atI (E.map PyData.int) ((i : Nat) : Int) = some (.int x) ∧ 0 ≤ x := by
  have h' : i < E.length := Nat.lt_of_lt_of_le h d.n
  refine ⟨E[i], ?_, d.p _ (List.getElem_mem h')⟩
  rw [atI_nat, List.getElem?_map, List.getElem?_eq_getElem h']
  rfl
theorem fr0 {E : List Int} (d : Drw E) {K : Int} {Bs : List (Int × Int)} {i : Nat} (hi : i < 5) (hl : Bs.length ≤ 5) {o6 : Option W} : ∃ z : Int × Int, (0 ≤ z.1 ∧ z.1 ≤ 2 ∧ z.1 ≤ z.2 ∧ z.2 ≤ z.1 + 4) ∧
    fb__law_rules_0 [some (.d (.list (E.map .int))), some (.d (.int K)), some (.l (Bs.map pr2)), some (.d (.int (0 + (i : Nat)))), none, none, o6, none] = .nx [some (.d (.list (E.map .int))), some (.d (.int K)), some (.l ((Bs ++ [z]).map pr2)), some (.d (.int (0 + (i : Nat)))), none, none, some (.d (.int z.1)), none] := by
  obtain ⟨x, hx, x0⟩ := d.at (i := 1 + i) (by omega)
  have e : ((1 + i : Nat) : Int) = 1 + (i : Nat) := by omega
  rw [e] at hx
  have hl' : Bs.length < 16777216 := by omega
  refine ⟨(x % 3, x % 3 + x / 4 % 5), ⟨by omega, by omega, by omega, by omega⟩, ?_⟩
  simp [fb__law_rules_0, hx, lAt, hl', pr2, prP]
theorem lr1 {E : List Int} (d : Drw E) {k one : Nat} (hk : k ≤ 5) (ho : one < k) {B P : List PyData} {o3 o6 : Option W} : ∃ L : List Nat, lc__law_rules_1 [some (.d (.list (E.map .int))), some (.d (.int k)), some (.l B), o3, some (.d (.list P)), some (.d (.int (0 + (one : Nat)))), o6, none] = .ok (.l (L.map fun t => pn2 (one, t))) ∧
    (∀ t ∈ L, one < t ∧ t < k) ∧ L.Pairwise (· < ·) ∧ L.length ≤ 5 := by
  have key : ∀ t : Nat, t < 5 → ∃ x, atI (E.map PyData.int) (7 + (one : Nat) + 2 * (t : Nat)) = some (.int x) := fun t ht => by
    obtain ⟨x, hx, _⟩ := d.at (i := 7 + one + 2 * t) (by omega)
    have e : ((7 + one + 2 * t : Nat) : Int) = 7 + (one : Nat) + 2 * (t : Nat) := by omega
    rw [e] at hx
    exact ⟨x, hx⟩
  let sel : PyData → Bool := fun z => match z with
    | .int t => match atI (E.map PyData.int) (7 + (one : Nat) + 2 * t) with
      | some (.int x) => x % 4 == 0
      | _ => false
    | _ => false
  let gg : PyData → PyData := fun z => .tuple [.int one, z]
  have h2 := goLc_eq (s := gSet 7) (t := t2 eqD (toV (e2 modD (toV (eCall (g1 toIntD) [(toV (e2 ixD (rVar 0) (toV (e2 addD (toV (e2 addD (vC (.int 7)) (rVar 5))) (toV (e2 mulD (vC (.int 2)) (rVar 7)))))))])) (vC (.int 4)))) (vC (.int 0)))
    (e := eTup [(vVar 5), (vVar 7)]) (m := wipeM [some (.d (.list (E.map .int))), some (.d (.int k)), some (.l B), o3, some (.d (.list P)), some (.d (.int (0 + (one : Nat)))), o6, none] [7]) (fun z => [some (.d (.list (E.map .int))), some (.d (.int k)), some (.l B), o3, some (.d (.list P)), some (.d (.int (0 + (one : Nat)))), o6, some (.d z)]) sel gg (rngL ((one : Nat) + 1) (k - (one + 1))) fun z hz => by
    unfold rngL at hz
    obtain ⟨j, hj, rfl⟩ := List.mem_map.mp hz
    have hj : j < k - (one + 1) := List.mem_range.mp hj
    obtain ⟨x, hx⟩ := key (one + 1 + j) (by omega)
    have e : ((one : Nat) : Int) + 1 + (j : Nat) = ((one + 1 + j : Nat) : Int) := by omega
    rw [e]
    have m2 : smallI 2 := by decide
    refine ⟨by simp [wipeM], ?_, fun _ => by simp [gg]⟩
    have hsel : sel (.int ((one + 1 + j : Nat) : Int)) = (x % 4 == 0) := by
      simp only [sel, hx]
    rw [hsel]
    simp only [t2_s, toV_s, e2_s, eCall_s, evalAll_cons, evalAll_nil, rVar_s, vC_s, List.getElem?_cons_zero, List.getElem?_cons_succ, Rz.bind_ok, add_i, mul_i, ofO_some', m2, true_or, if_true, Int.zero_add, ix_l, hx, Option.map_some, g1_s, toIntD_i, mod_i, eq_i]
    simp
  have hr : rngL ((one : Nat) + 1) (k - (one + 1)) = ((List.range (k - (one + 1))).map fun i => one + 1 + i).map fun t => .int (t : Nat) := by
    unfold rngL
    rw [List.map_map]
    apply List.map_congr_left
    intro i _
    show PyData.int _ = PyData.int _
    have : ((one : Nat) : Int) + 1 + (i : Nat) = ((one + 1 + i : Nat) : Int) := by omega
    rw [this]
  refine ⟨((List.range (k - (one + 1))).map fun i => one + 1 + i).filter (sel ∘ fun t => .int (t : Nat)), ?_, ?_, ?_, ?_⟩
  · have h0 : evalAllD [(toV (e2 addD (rVar 5) (vC (.int 1)))), (vVar 1)] [some (.d (.list (E.map .int))), some (.d (.int k)), some (.l B), o3, some (.d (.list P)), some (.d (.int (0 + (one : Nat)))), o6, none] = .ok [.int ((one : Nat) + 1), .int k] := by simp
    have h1' : iArg rng2 [(toV (e2 addD (rVar 5) (vC (.int 1)))), (vVar 1)] [some (.d (.list (E.map .int))), some (.d (.int k)), some (.l B), o3, some (.d (.list P)), some (.d (.int (0 + (one : Nat)))), o6, none] = .ok (rngL ((one : Nat) + 1) (k - (one + 1))) := by
      rw [iArg_s, h0, Rz.bind_ok]
      have ok : rngOk ((one : Nat) + 1) k = true := by rw [rngOk_iff]; omega
      have e : ((k : Int) - ((one : Nat) + 1)).toNat = k - (one + 1) := by omega
      simp only [rng2, ok, if_true, e]
    refine eLc_ok rfl h1' ?_
    rw [h2, hr, List.filter_map, List.map_map]
    rfl
  · intro t ht
    obtain ⟨h1, _⟩ := List.mem_filter.mp ht
    obtain ⟨i, hi, rfl⟩ := List.mem_map.mp h1
    have := List.mem_range.mp hi
    omega
  · apply List.Pairwise.filter
    rw [List.pairwise_map]
    exact List.pairwise_lt_range.imp fun {a b} h => by omega
  · have := List.length_filter_le (sel ∘ fun t => PyData.int (t : Nat)) ((List.range (k - (one + 1))).map fun i => one + 1 + i)
    rw [List.length_map, List.length_range] at this
    omega
theorem m_law_rules_ok {E : List Int} (d : Drw E) : ∃ size Bs Ps, m__law_rules [some (.d (.list (E.map .int)))] = .ok (rul size Bs Ps) ∧ GoodR size Bs Ps := by
  obtain ⟨x0, hx0, p0⟩ := d.at (i := 0) (by omega)
  obtain ⟨x6, hx6, p6⟩ := d.at (i := 6) (by omega)
  have hx0' : E[0]? = some x0 := by
    have : atI (E.map PyData.int) 0 = some (.int x0) := hx0
    rw [atI_0, List.getElem?_map] at this
    obtain ⟨y, h1, h2⟩ := Option.map_eq_some_iff.mp this
    cases h2; exact h1
  have hx6' : atI (E.map PyData.int) 6 = some (.int x6) := hx6
  obtain ⟨k, hk⟩ : ∃ k : Nat, 1 + x0 % 5 = (k : Nat) := ⟨(1 + x0 % 5).toNat, by omega⟩
  have hk1 : 1 ≤ k ∧ k ≤ 5 := by omega
  have hrk : rng1 [.int (k : Nat)] = .ok (rngL 0 k) := by
    have ok : rngOk 0 k = true := by rw [rngOk_iff]; omega
    simp only [rng1, ok, if_true, Int.toNat_natCast]
  obtain ⟨m1, l1, Bs, o3, o6, rfl, a1, a2⟩ := goFor_inv (s := gSet 3) (b := fb__law_rules_0) (fun i m => ∃ (Bs : List (Int × Int)) (o3 o6 : Option W), m = [some (.d (.list (E.map .int))), some (.d (.int k)), some (.l (Bs.map pr2)), o3, none, none, o6, none] ∧ (∀ z ∈ Bs, 0 ≤ z.1 ∧ z.1 ≤ 2 ∧ z.1 ≤ z.2 ∧ z.2 ≤ z.1 + 4) ∧ Bs.length = i) (rngL 0 k) 0 _ ⟨[], none, none, rfl, fun _ h => absurd h List.not_mem_nil, rfl⟩ fun i x m hx ⟨Bs, o3, o6, e, h1, h2⟩ => by
    subst e
    have hi : i < k := by
      have := (List.getElem?_eq_some_iff.mp hx).1
      rwa [rngL_len] at this
    obtain rfl : x = .int (0 + (i : Nat)) := by
      unfold rngL at hx
      rw [List.getElem?_map, List.getElem?_range hi] at hx
      exact (Option.some.inj hx).symm
    obtain ⟨z, hz, e⟩ := fr0 d (K := k) (Bs := Bs) (i := i) (o6 := o6) (by omega) (by omega)
    refine ⟨_, by simp, _, e, Bs ++ [z], _, _, rfl, fun w hw => ?_, by simp [h2]⟩
    rcases List.mem_append.mp hw with h | h
    · exact h1 w h
    · rw [List.mem_singleton.mp h]; exact hz
  rw [rngL_len] at a2
  obtain ⟨m2, l2, Ps, o5, rfl, b1, b2, b3⟩ := goFor_inv (s := gSet 5) (b := fb__law_rules_2) (fun i m => ∃ (Ps : List (Nat × Nat)) (o5 : Option W), m = [some (.d (.list (E.map .int))), some (.d (.int k)), some (.l (Bs.map pr2)), o3, some (.d (.list (Ps.map pn2))), o5, o6, none] ∧ (∀ z ∈ Ps, z.1 < i ∧ z.1 < z.2 ∧ z.2 < k) ∧ Ps.Pairwise lexN ∧ Ps.length ≤ 5 * i) (rngL 0 k) 0 _ ⟨[], none, rfl, fun _ h => absurd h List.not_mem_nil, .nil, Nat.le_refl _⟩ fun i x m hx ⟨Ps, o5, e, h1, h2, h3⟩ => by
    subst e
    have hi : i < k := by
      have := (List.getElem?_eq_some_iff.mp hx).1
      rwa [rngL_len] at this
    obtain rfl : x = .int (0 + (i : Nat)) := by
      unfold rngL at hx
      rw [List.getElem?_map, List.getElem?_range hi] at hx
      exact (Option.some.inj hx).symm
    obtain ⟨L, e, q1, q2, q3⟩ := lr1 d hk1.2 hi (B := Bs.map pr2) (P := Ps.map pn2) (o3 := o3) (o6 := o6)
    have hlen : Ps.length + L.length ≤ 16000000 := by omega
    refine ⟨[some (.d (.list (E.map .int))), some (.d (.int k)), some (.l (Bs.map pr2)), o3, some (.d (.list (Ps.map pn2))), some (.d (.int (0 + (i : Nat)))), o6, none], by simp, [some (.d (.list (E.map .int))), some (.d (.int k)), some (.l (Bs.map pr2)), o3, some (.d (.list ((Ps ++ L.map fun t => (i, t)).map pn2))), some (.d (.int (0 + (i : Nat)))), o6, none], ?_, Ps ++ L.map (fun t => (i, t)), _, rfl, fun z hz => ?_, ?_, ?_⟩
    · unfold fb__law_rules_2
      simp only [sSet_s, ofV_s, toV_s, e2_s, rVar_s, List.getElem?_cons_zero, List.getElem?_cons_succ, Rz.bind_ok, e, add_l, List.length_map, hlen, if_true, ofO_some', rz_map_ok]
      simp [Function.comp_def]
    · rcases List.mem_append.mp hz with h | h
      · have := h1 z h; omega
      · obtain ⟨t, ht, rfl⟩ := List.mem_map.mp h
        have := q1 t ht
        exact ⟨by show i < 0 + i + 1; omega, this.1, this.2⟩
    · rw [List.pairwise_append]
      refine ⟨h2, ?_, fun a ha b hb => ?_⟩
      · rw [List.pairwise_map]
        exact q2.imp fun {a b} h => .inr ⟨rfl, h⟩
      · obtain ⟨t, ht, rfl⟩ := List.mem_map.mp hb
        exact .inl (by have := (h1 a ha).1; show a.1 < i; omega)
    · rw [List.length_append, List.length_map]; omega
  rw [rngL_len] at b1 b3
  refine ⟨1 + x6 % 8, Bs, Ps, ?_, ⟨by omega, by omega, a1, fun z hz => ?_, b2, by omega⟩⟩
  · unfold m__law_rules b__law_rules rul
    rw [List.map_nil] at l1 l2
    simp [hx0', hx6', hk, hrk, l1, l2]
  · have := b1 z hz
    omega
end Dl
set_option Elab.async false
set_option linter.all false
set_option maxRecDepth 100000
namespace Dl
open PySem PySem.Spec PyProof.Rows L2
/-! ### boxes -/
def tupI (ns : List Int) : PyData := .tuple (ns.map .int)
def bSt (size : Int) (Bs : List (Int × Int)) (Ps : List (Nat × Nat)) (rows : List (List Int)) (o5 o6 o7 : Option W) (o8 : Option PyData) : Ms := [some (.d (rul size Bs Ps)), some (.d (.list (rows.map tupI))), some (.d (.int size)), some (.d (.tuple (Bs.map pr2))), some (.d (.tuple (Ps.map pn2))), o5, o6, o7, o8.map W.d, none, none, none]
theorem lb0 {size : Int} {Bs : List (Int × Int)} {Ps : List (Nat × Nat)} {rows : List (List Int)} {o7 : Option W} {a b : Int} {row : List Int} (ha : 0 ≤ a ∧ a ≤ b ∧ b ≤ a + 4 ∧ a ≤ 2) (hr : row.length ≤ 10) : ∃ L : List (List Int), lc__law_boxes_0 (bSt size Bs Ps rows (some (.d (.int a))) (some (.d (.int b))) o7 (some (tupI row))) = .ok (.l (L.map tupI)) ∧ L.length ≤ 5 ∧ ∀ r ∈ L, r.length = row.length + 1 := by
  let gg : PyData → PyData := fun z => match z with
    | .int c => tupI (row ++ [c])
    | _ => .none
  have h2 := goLc_eq (s := gSet 9) (t := t2 leD (toV (e2 addD (toV (eCall (g1 sumD) [(rVar 8)])) (rVar 9))) (rVar 2)) (e := toV (e2 addD (rVar 8) (eTup [(vVar 9)]))) (m := wipeM (bSt size Bs Ps rows (some (.d (.int a))) (some (.d (.int b))) o7 (some (tupI row))) [9])
    (fun z => (bSt size Bs Ps rows (some (.d (.int a))) (some (.d (.int b))) o7 (some (tupI row))).set 9 (some (.d z))) (fun z => match z with | .int c => !decide (size < row.sum + c) | _ => false) gg (rngL a (b + 1 - a).toNat) fun z hz => by
    unfold rngL at hz
    obtain ⟨j, hj, rfl⟩ := List.mem_map.mp hz
    have hl : row.length + 1 ≤ 16000000 := by omega
    refine ⟨by simp [wipeM, bSt], by simp [bSt, tupI], fun _ => by simp [bSt, tupI, hl, gg]⟩
  have h0 : evalAllD [(vVar 5), (toV (e2 addD (rVar 6) (vC (.int 1))))] (bSt size Bs Ps rows (some (.d (.int a))) (some (.d (.int b))) o7 (some (tupI row))) = .ok [.int a, .int (b + 1)] := by simp [bSt]
  have h1' : iArg rng2 [(vVar 5), (toV (e2 addD (rVar 6) (vC (.int 1))))] (bSt size Bs Ps rows (some (.d (.int a))) (some (.d (.int b))) o7 (some (tupI row))) = .ok (rngL a (b + 1 - a).toNat) := by
    rw [iArg_s, h0, Rz.bind_ok]
    have ok : rngOk a (b + 1) = true := by rw [rngOk_iff]; omega
    simp only [rng2, ok, if_true]
  have hr : rngL a (b + 1 - a).toNat = ((List.range (b + 1 - a).toNat).map fun i => a + (i : Nat)).map PyData.int := by
    unfold rngL
    rw [List.map_map]
    rfl
  refine ⟨(((List.range (b + 1 - a).toNat).map fun i => a + (i : Nat)).filter ((fun z => match z with | .int c => !decide (size < row.sum + c) | _ => false) ∘ PyData.int)).map fun c => row ++ [c], ?_, ?_, fun r hr => ?_⟩
  · refine eLc_ok rfl h1' ?_
    rw [h2, hr, List.filter_map, List.map_map, List.map_map]
    rfl
  · rw [List.length_map]
    have := List.length_filter_le ((fun z => match z with | .int c => !decide (size < row.sum + c) | _ => false) ∘ PyData.int) ((List.range (b + 1 - a).toNat).map fun i => a + (i : Nat))
    rw [List.length_map, List.length_range] at this
    omega
  · obtain ⟨c, _, rfl⟩ := List.mem_map.mp hr
    simp
theorem fbo1 {size : Int} {Bs : List (Int × Int)} {Ps : List (Nat × Nat)} {rows : List (List Int)} {a b : Int} {n : Nat} (ha : 0 ≤ a ∧ a ≤ b ∧ b ≤ a + 4 ∧ a ≤ 2) (hn : n ≤ 10) (hr : ∀ r ∈ rows, r.length = n) (hl : rows.length ≤ 100000) {o8 : Option PyData} : ∃ (Lg : List (List Int)) (o8' : Option PyData), goFor (gSet 8) fb__law_boxes_1 (rows.map tupI) (bSt size Bs Ps rows (some (.d (.int a))) (some (.d (.int b))) (some (.d (.list []))) o8) = .nx (bSt size Bs Ps rows (some (.d (.int a))) (some (.d (.int b))) (some (.d (.list (Lg.map tupI)))) o8') ∧
    Lg.length ≤ 5 * rows.length ∧ ∀ r ∈ Lg, r.length = n + 1 := by
  obtain ⟨m', e, Lg, o8', rfl, h1, h2⟩ := goFor_inv (s := gSet 8) (b := fb__law_boxes_1) (fun i m => ∃ (Lg : List (List Int)) (o8 : Option PyData), m = bSt size Bs Ps rows (some (.d (.int a))) (some (.d (.int b))) (some (.d (.list (Lg.map tupI)))) o8 ∧ Lg.length ≤ 5 * i ∧ ∀ r ∈ Lg, r.length = n + 1) (rows.map tupI) 0 _ ⟨[], o8, rfl, Nat.le_refl _, fun _ h => absurd h List.not_mem_nil⟩ fun i x m hx ⟨Lg, o8, e, h1, h2⟩ => by
    subst e
    rw [List.getElem?_map] at hx
    obtain ⟨row, hrow, rfl⟩ := Option.map_eq_some_iff.mp hx
    have hi := (List.getElem?_eq_some_iff.mp hrow).1
    have hrl := hr row (List.mem_of_getElem? hrow)
    obtain ⟨L, q1, q2, q3⟩ := lb0 (size := size) (Bs := Bs) (Ps := Ps) (rows := rows) (o7 := some (.d (.list (Lg.map tupI)))) (row := row) ha (by omega)
    have hlen : Lg.length + L.length ≤ 16000000 := by omega
    refine ⟨bSt size Bs Ps rows (some (.d (.int a))) (some (.d (.int b))) (some (.d (.list (Lg.map tupI)))) (some (tupI row)), by simp [bSt], bSt size Bs Ps rows (some (.d (.int a))) (some (.d (.int b))) (some (.d (.list ((Lg ++ L).map tupI)))) (some (tupI row)), ?_, Lg ++ L, _, rfl, by rw [List.length_append]; omega, fun r hr => ?_⟩
    · unfold fb__law_boxes_1
      unfold bSt at q1 ⊢
      simp only [sSet_s, ofV_s, toV_s, e2_s, rVar_s, List.getElem?_cons_zero, List.getElem?_cons_succ, Rz.bind_ok, q1, add_l, List.length_map, hlen, if_true, ofO_some', rz_map_ok]
      simp
    · rcases List.mem_append.mp hr with h | h
      · exact h2 r h
      · rw [q3 r h, hrl]
  rw [List.length_map] at h1
  exact ⟨Lg, o8', e, by omega, h2⟩
theorem lb3 {size : Int} {Bs : List (Int × Int)} {Ps : List (Nat × Nat)} {rows : List (List Int)} {o5 o6 o7 : Option W} {ns : List Int} (hP : ∀ z ∈ Ps, z.1 < ns.length ∧ z.2 < ns.length) : lc__law_boxes_3 (bSt size Bs Ps rows o5 o6 o7 (some (tupI ns))) = .ok (.l ((Ps.map pn2).map fun z => .bool (ret2 ns z).isSome)) := by
  refine eLc_ok rfl (xs := Ps.map pn2) (by simp [bSt]) (goLc_map (fun z => match z with | .tuple [x, y] => ((bSt size Bs Ps rows o5 o6 o7 (some (tupI ns))).set 10 (some (.d x))).set 11 (some (.d y)) | _ => []) _ _ fun z hz => ?_)
  obtain ⟨z, hzP, rfl⟩ := List.mem_map.mp hz
  obtain ⟨q1, q2⟩ := hP z hzP
  have e1' : ns[z.1]? = some ns[z.1] := List.getElem?_eq_getElem _
  have e2' : ns[z.2]? = some ns[z.2] := List.getElem?_eq_getElem _
  have k1 : atI (ns.map PyData.int) ((z.1 : Nat) : Int) = some (.int ns[z.1]) := by rw [atI_nat, List.getElem?_map, e1']; rfl
  have k2 : atI (ns.map PyData.int) ((z.2 : Nat) : Int) = some (.int ns[z.2]) := by rw [atI_nat, List.getElem?_map, e2']; rfl
  have hk : (ret2 ns (pn2 z)).isSome = (decide (0 < ns[z.1]) && decide (0 < ns[z.2])) := by
    show (if badP ns z = true then some _ else none).isSome = _
    simp only [badP, e1', e2']
    cases decide (0 < ns[z.1]) <;> cases decide (0 < ns[z.2]) <;> rfl
  rw [hk]
  refine ⟨by simp [wipeM, bSt, pn2, prP], ?_⟩
  by_cases w : 0 < ns[z.1]
  · simp [bSt, tupI, pn2, prP, k1, k2, w]
  · simp [bSt, tupI, pn2, prP, k1, k2, w]
theorem m_law_boxes_ok {size : Int} {Bs : List (Int × Int)} {Ps : List (Nat × Nat)} (G : GoodR size Bs Ps) : ∃ Ls : List (List Int), m__law_boxes [some (.d (rul size Bs Ps))] = .ok (.list (Ls.map tupI)) ∧ Ls.length ≤ 3125 ∧ ∀ r ∈ Ls, r.length ≤ 5 := by
  obtain ⟨m1, l1, rows, o5, o6, o7, o8, rfl, a1, a2⟩ := goFor_inv (s := gTup' 2 (gCons (gSet 5) (gCons (gSet 6) gNil))) (b := fb__law_boxes_2) (fun i m => ∃ (rows : List (List Int)) (o5 o6 o7 : Option W) (o8 : Option PyData), m = bSt size Bs Ps rows o5 o6 o7 o8 ∧ rows.length ≤ 5 ^ i ∧ ∀ r ∈ rows, r.length = i) (Bs.map pr2) 0 (bSt size Bs Ps [[]] none none none none) ⟨[[]], none, none, none, none, rfl, Nat.le_refl _, fun r h => by rw [List.mem_singleton.mp h]; rfl⟩ fun i x m hx ⟨rows, o5, o6, o7, o8, e, h1, h2⟩ => by
    subst e
    rw [List.getElem?_map] at hx
    obtain ⟨z, hz, rfl⟩ := Option.map_eq_some_iff.mp hx
    have hi := (List.getElem?_eq_some_iff.mp hz).1
    have hzb := G.b z (List.mem_of_getElem? hz)
    have hk := G.k
    have h5 : 5 ^ (0 + i) ≤ 5 ^ 5 := Nat.pow_le_pow_right (by decide) (by omega)
    have e5 : (5 : Nat) ^ 5 = 3125 := by decide
    obtain ⟨Lg, o8', q1, q2, q3⟩ := fbo1 (size := size) (Bs := Bs) (Ps := Ps) (rows := rows) (a := z.1) (b := z.2) (n := 0 + i) (o8 := o8) ⟨hzb.1, hzb.2.2.1, hzb.2.2.2, hzb.2.1⟩ (by omega) h2 (by omega)
    refine ⟨bSt size Bs Ps rows (some (.d (.int z.1))) (some (.d (.int z.2))) o7 o8, by simp [bSt, pr2, prP], bSt size Bs Ps Lg (some (.d (.int z.1))) (some (.d (.int z.2))) (some (.d (.list (Lg.map tupI)))) o8', ?_, Lg, _, _, _, _, rfl, ?_, q3⟩
    · unfold fb__law_boxes_2
      unfold bSt at q1 ⊢
      simp [q1]
    · rw [Nat.pow_succ]; omega
  rw [List.length_map] at a1 a2
  have hk := G.k
  have h5 : 5 ^ (0 + Bs.length) ≤ 5 ^ 5 := Nat.pow_le_pow_right (by decide) (by omega)
  have e5 : (5 : Nat) ^ 5 = 3125 := by decide
  let sel : PyData → Bool := fun z => match z with
    | .tuple xs => match intsOf xs with
      | some ns => (ns.sum == size) && !(Ps.map pn2).any fun z => (ret2 ns z).isSome
      | none => false
    | _ => false
  have h2 := goLc_eq (s := gSet 8) (t := tAnd' (t2 eqD (toV (eCall (g1 sumD) [(rVar 8)])) (rVar 2)) (tNot' (tV' (toV (eCall (g1 anyD) [(toV lc__law_boxes_3)]))))) (e := vVar 8) (m := wipeM (bSt size Bs Ps rows o5 o6 o7 o8) [8]) (fun z => bSt size Bs Ps rows o5 o6 o7 (some z)) sel id (rows.map tupI) fun z hz => by
    obtain ⟨ns, hns, rfl⟩ := List.mem_map.mp hz
    have hl := a2 ns hns
    have h3 := lb3 (size := size) (Bs := Bs) (Ps := Ps) (rows := rows) (o5 := o5) (o6 := o6) (o7 := o7) (ns := ns) fun z hz => by have := G.p z hz; omega
    have hsel : sel (tupI ns) = ((ns.sum == size) && !(Ps.map pn2).any fun z => (ret2 ns z).isSome) := by
      show (match intsOf (ns.map PyData.int) with | some ns => (ns.sum == size) && !(Ps.map pn2).any fun z => (ret2 ns z).isSome | none => false) = _
      rw [intsOf_map]
    rw [hsel]
    refine ⟨by simp [wipeM, bSt], ?_, fun _ => by simp [bSt]⟩
    have hsum : (t2 eqD (toV (eCall (g1 sumD) [(rVar 8)])) (rVar 2)) (bSt size Bs Ps rows o5 o6 o7 (some (tupI ns))) = .ok (ns.sum == size) := by simp [bSt, tupI]
    have hany : (tNot' (tV' (toV (eCall (g1 anyD) [(toV lc__law_boxes_3)])))) (bSt size Bs Ps rows o5 o6 o7 (some (tupI ns))) = .ok (!(Ps.map pn2).any fun z => (ret2 ns z).isSome) := by
      simp only [tNot_s, tV_s, toV_s, eCall_s, evalAll_cons, evalAll_nil, h3, Rz.bind_ok, g1_s, anyD_map, ofO_some', boolD_s, rz_map_ok]
    rw [tAnd_s, hsum, Rz.bind_ok, hany]
    cases ns.sum == size <;> simp
  have h4 : lc__law_boxes_4 (bSt size Bs Ps rows o5 o6 o7 o8) = .ok (.l (((rows.map tupI).filter sel).map id)) := eLc_ok (by cases o8 <;> rfl) (xs := rows.map tupI) (by simp [bSt]) h2
  refine ⟨rows.filter (sel ∘ tupI), ?_, Nat.le_trans (List.length_filter_le _ _) (by omega), fun r hr => by rw [a2 r (List.mem_filter.mp hr).1]; omega⟩
  rw [List.map_id, List.filter_map] at h4
  have e0 : bSt size Bs Ps [[]] none none none none = [some (.d (rul size Bs Ps)), some (.d (.list [.tuple []])), some (.d (.int size)), some (.d (.tuple (Bs.map pr2))), some (.d (.tuple (Ps.map pn2))), none, none, none, none, none, none, none] := rfl
  rw [e0] at l1
  unfold m__law_boxes b__law_boxes
  unfold rul at l1 ⊢
  simp [l1, h4]
end Dl
set_option Elab.async false
set_option linter.all false
set_option maxRecDepth 100000
namespace Dl
open PySem PySem.Spec PyProof.Rows L2
def lS (ns D : List Int) (t two ru at_ vals one value drawn base si bo ne good : Option W) : Ms := [some (.r ns), some (.d (.list (D.map .int))), t, two, ru, at_, vals, one, value, drawn, base, si, bo, ne, good, none, none, none]
/-- values that may be asked -/
def VOk (v : PyData) : Prop := ∀ a bs ps, v = .tuple [a, .tuple bs, .tuple ps] → ps.length < 64
theorem rngN {n : Nat} (h : n ≤ 1000) : rng1 [.int (n : Nat)] = .ok (rngL 0 n) := by
  have ok : rngOk 0 n = true := by rw [rngOk_iff]; omega
  simp only [rng1, ok, if_true, Int.toNat_natCast]
section
variable {ns D : List Int} {t two ru at_ vals one value drawn base si bo ne good : Option W}
theorem l2 {v : PyData} {g : Bool} (h : rulesB v = false) : lc_law_2 (lS ns D t two ru at_ vals one (some (.d v)) drawn base si bo ne good) = .ok (.l ((rngL 0 7).map fun _ => .bool true)) := by
  have h1 : iArg rng1 [(vC (.int 7))] (lS ns D t two ru at_ vals one (some (.d v)) drawn base si bo ne good) = .ok (rngL 0 7) := by
    rw [iArg_s]
    exact rngN (n := 7) (by decide)
  refine eLc_ok rfl h1 (goLc_map (fun z => (lS ns D t two ru at_ vals one (some (.d v)) drawn base si bo ne good).set 17 (some (.d z))) _ _ fun z hz => ⟨by simp [wipeM, lS], ?_⟩)
  obtain ⟨i, _, rfl⟩ := List.mem_map.mp hz
  simp [lS, m_refused_ok h]
theorem f3 {v : PyData} (hv : VOk v) : fb_law_3 (lS ns D t two ru at_ vals one (some (.d v)) drawn base si bo ne good) = .nx (lS ns D t two ru at_ vals one (some (.d v)) drawn base si bo ne (some (.d (.bool (rulesB v))))) := by
  unfold fb_law_3
  have e := m_law_are_rules_ok hv
  cases hr : rulesB v with
  | true =>
    rw [hr] at e
    have e2 := m_are_box_rules_ok (v := v)
    rw [hr] at e2
    simp [lS, e, e2]
  | false =>
    have h2 := l2 (ns := ns) (D := D) (t := t) (two := two) (ru := ru) (at_ := at_) (vals := vals) (one := one) (drawn := drawn) (base := base) (si := si) (bo := bo) (ne := ne) (good := some (.d (.bool false))) (g := true) hr
    rw [hr] at e
    have e2 := m_are_box_rules_ok (v := v)
    rw [hr] at e2
    have h3 : allD (.list ((rngL 0 7).map fun _ => PyData.bool true)) = some (.d (.bool true)) := by
      rw [allD_map (fun _ => true) (rngL 0 7)]
      rfl
    unfold lS at h2 ⊢
    simp [e, e2, h2, -List.map_const', h3]
theorem loop3 {xs : List PyData} (hx : ∀ v ∈ xs, VOk v) : ∃ value' good', goFor (gSet 8) fb_law_3 xs (lS ns D t two ru at_ vals one value drawn base si bo ne good) = .nx (lS ns D t two ru at_ vals one value' drawn base si bo ne good') := by
  obtain ⟨m', e, v', g', rfl⟩ := goFor_inv (s := gSet 8) (b := fb_law_3) (fun _ m => ∃ v' g', m = lS ns D t two ru at_ vals one v' drawn base si bo ne g') xs 0 _ ⟨value, good, rfl⟩ fun i x m hi ⟨v', g', e⟩ => by
    subst e
    exact ⟨lS ns D t two ru at_ vals one (some (.d x)) drawn base si bo ne g', by simp [lS], _, f3 (hx x (List.mem_of_getElem? hi)), _, _, rfl⟩
  exact ⟨v', g', e⟩
theorem due_ne {size : Int} {Bs : List (Int × Int)} {Ps : List (Nat × Nat)} {v : PyData} : neD (dueB size Bs Ps v) (dueB size Bs Ps v) = some false := by
  unfold dueB
  split
  · unfold dueN
    split
    · split
      · simp [neD, PyData.depth, PyData.depthAll, PyData.eqv, PyData.eqvAll]
      · split
        · simp [neD, PyData.depth, PyData.depthAll, PyData.eqv, PyData.eqvAll]
        · simp [neD, PyData.depth, PyData.depthAll, PyData.eqv, PyData.eqvAll]
    · simp [neD, PyData.depth, PyData.depthAll, PyData.eqv, PyData.eqvAll]
  · simp [neD, PyData.depth, PyData.depthAll, PyData.eqv, PyData.eqvAll]
theorem good_rules {size : Int} {Bs : List (Int × Int)} {Ps : List (Nat × Nat)} (G : GoodR size Bs Ps) : rulesB (rul size Bs Ps) = true := by
  have h1 : numB (.int size) 1 12 = true := by
    have := G.s
    simp [numB]; omega
  have h2 : (Bs.map pr2).all boundB = true := by
    rw [List.all_eq_true]
    intro x hx
    obtain ⟨z, hz, rfl⟩ := List.mem_map.mp hx
    have := G.b z hz
    simp [pr2, prP, boundB, numB]; omega
  have h3 : (Ps.map pn2).all (pairB (Bs.map pr2).length) = true := by
    rw [List.all_eq_true]
    intro x hx
    obtain ⟨z, hz, rfl⟩ := List.mem_map.mp hx
    have := G.p z hz
    simp [pn2, prP, pairB, numB]; omega
  have hk := G.k
  have h4 : boundsB (.tuple (Bs.map pr2)) = true := by
    simp only [boundsB, h2, List.length_map, Bool.and_true, Bool.and_eq_true, decide_eq_true_eq]
    omega
  simp only [rulesB, rul, h1, h4, h3, asc_of G.a, Bool.and_true]
theorem f6 {size : Int} {Bs : List (Int × Int)} {Ps : List (Nat × Nat)} (G : GoodR size Bs Ps) {v : PyData} : fb_law_6 (lS ns D t two (some (.d (rul size Bs Ps))) at_ vals one (some (.d v)) drawn base si bo ne good) = .nx (lS ns D t two (some (.d (rul size Bs Ps))) at_ vals one (some (.d v)) drawn base si bo ne good) := by
  have hP : ∀ z ∈ Ps, z.1 < Bs.length ∧ z.2 < Bs.length := fun z hz => by have := G.p z hz; omega
  have hk := G.k
  have h1 := m_fault_in_ok (size := size) hP v
  have h2 := m_law_due_ok (size := size) (by omega) hP v
  have h3 : m_box_fault [some (.d (rul size Bs Ps)), some (.d v)] = .ok (dueB size Bs Ps v) := by
    unfold m_box_fault b_box_fault
    simp [m_check_ok (good_rules G), h1]
  unfold fb_law_6 lS
  simp [h2, h3, due_ne]
theorem loop6 {size : Int} {Bs : List (Int × Int)} {Ps : List (Nat × Nat)} (G : GoodR size Bs Ps) {xs : List PyData} : ∃ value', goFor (gSet 8) fb_law_6 xs (lS ns D t two (some (.d (rul size Bs Ps))) at_ vals one value drawn base si bo ne good) = .nx (lS ns D t two (some (.d (rul size Bs Ps))) at_ vals one value' drawn base si bo ne good) := by
  obtain ⟨m', e, v', rfl⟩ := goFor_inv (s := gSet 8) (b := fb_law_6) (fun _ m => ∃ v', m = lS ns D t two (some (.d (rul size Bs Ps))) at_ vals one v' drawn base si bo ne good) xs 0 _ ⟨value, rfl⟩ fun i x m hi ⟨v', e⟩ => by
    subst e
    exact ⟨lS ns D t two (some (.d (rul size Bs Ps))) at_ vals one (some (.d x)) drawn base si bo ne good, by simp [lS], _, f6 G, _, rfl⟩
  exact ⟨v', e⟩
/-! the values -/
theorem f0 {size : Int} {bs ps V : List PyData} {a : Nat} {x : PyData} (ha : a < bs.length) (hb : bs.length ≤ 5) (hV : V.length ≤ 1000) : ∃ cs, fb_law_0 (lS ns D t two ru (some (.d (.int a))) (some (.l V)) (some (.d x)) value drawn base (some (.d (.int size))) (some (.d (.tuple bs))) (some (.d (.tuple ps))) good) = .nx (lS ns D t two ru (some (.d (.int a))) (some (.l (V ++ [.tuple [.int size, .tuple cs, .tuple ps]]))) (some (.d x)) value drawn base (some (.d (.int size))) (some (.d (.tuple bs))) (some (.d (.tuple ps))) good) := by
  have c1 : (cutL bs none (some (a : Nat))).length ≤ 5 := by
    unfold cutL; rw [List.length_take, List.length_drop]; omega
  have c2 : (cutL bs (some ((a : Nat) + 1)) none).length ≤ 5 := by
    unfold cutL; rw [List.length_take, List.length_drop]; omega
  have q1 : (cutL bs none (some (a : Nat))).length + 1 ≤ 16000000 := by omega
  have q2 : (cutL bs none (some (a : Nat))).length + 1 + (cutL bs (some ((a : Nat) + 1)) none).length ≤ 16000000 := by omega
  have q3 : V.length < 16777216 := by omega
  have q4 : (cutL bs none (some (a : Nat))).length + ((cutL bs (some ((a : Nat) + 1)) none).length + 1) ≤ 16000000 := by omega
  refine ⟨cutL bs none (some (a : Nat)) ++ [x] ++ cutL bs (some ((a : Nat) + 1)) none, ?_⟩
  unfold fb_law_0 lS
  simp [q1, q2, q3, q4, lAt]
theorem loop0 {size : Int} {bs ps V xs : List PyData} {a : Nat} (ha : a < bs.length) (hb : bs.length ≤ 5) (hp : ps.length < 64) (hV : V.length ≤ 100) (hx : xs.length ≤ 100) (hv : ∀ v ∈ V, VOk v) : ∃ V' one', goFor (gSet 7) fb_law_0 xs (lS ns D t two ru (some (.d (.int a))) (some (.l V)) one value drawn base (some (.d (.int size))) (some (.d (.tuple bs))) (some (.d (.tuple ps))) good) = .nx (lS ns D t two ru (some (.d (.int a))) (some (.l V')) one' value drawn base (some (.d (.int size))) (some (.d (.tuple bs))) (some (.d (.tuple ps))) good) ∧
    V'.length ≤ 200 ∧ ∀ v ∈ V', VOk v := by
  obtain ⟨m', e, V', one', rfl, h1, h2⟩ := goFor_inv (s := gSet 7) (b := fb_law_0) (fun i m => ∃ V' one', m = lS ns D t two ru (some (.d (.int a))) (some (.l V')) one' value drawn base (some (.d (.int size))) (some (.d (.tuple bs))) (some (.d (.tuple ps))) good ∧ V'.length ≤ 100 + i ∧ ∀ v ∈ V', VOk v) xs 0 _ ⟨V, one, rfl, hV, hv⟩ fun i x m hi ⟨V', one', e, h1, h2⟩ => by
    subst e
    have hlt := (List.getElem?_eq_some_iff.mp hi).1
    obtain ⟨cs, e⟩ := f0 (ns := ns) (D := D) (t := t) (two := two) (ru := ru) (value := value) (drawn := drawn) (base := base) (good := good) (size := size) (ps := ps) (V := V') (x := x) ha hb (by omega)
    refine ⟨_, by simp [lS], _, e, _, _, rfl, by simp; omega, fun v hv => ?_⟩
    rcases List.mem_append.mp hv with h | h
    · exact h2 v h
    · rw [List.mem_singleton.mp h]
      intro a' bs' ps' e'
      cases e'
      exact hp
  exact ⟨V', one', e, by omega, h2⟩
theorem vok3 {a : PyData} {b : PyData} {ps : List PyData} (h : ps.length < 64) : VOk (.tuple [a, b, .tuple ps]) := fun a' bs' ps' e => by
  cases e; exact h
theorem f1 {size : Int} {bs ps V : List PyData} {x : PyData} (hp : ps.length ≤ 30) (hV : V.length ≤ 1000) : fb_law_1 (lS ns D t two ru at_ (some (.l V)) (some (.d x)) value drawn base (some (.d (.int size))) (some (.d (.tuple bs))) (some (.d (.tuple ps))) good) = .nx (lS ns D t two ru at_ (some (.l (V ++ [.tuple [.int size, .tuple bs, .tuple (ps ++ [x])], .tuple [.int size, .tuple bs, .tuple [x]], .tuple [.int size, .tuple bs, .tuple (x :: ps)]]))) (some (.d x)) value drawn base (some (.d (.int size))) (some (.d (.tuple bs))) (some (.d (.tuple ps))) good) := by
  have q1 : ps.length + 1 ≤ 16000000 := by omega
  have q2 : 1 + ps.length ≤ 16000000 := by omega
  have q3 : V.length + 3 ≤ 16000000 := by omega
  unfold fb_law_1 lS
  simp [q1, q2, q3]
theorem loop1' {size : Int} {bs ps V xs : List PyData} (hp : ps.length ≤ 30) (hV : V.length ≤ 200) (hx : xs.length ≤ 100) (hv : ∀ v ∈ V, VOk v) : ∃ V' one', goFor (gSet 7) fb_law_1 xs (lS ns D t two ru at_ (some (.l V)) one value drawn base (some (.d (.int size))) (some (.d (.tuple bs))) (some (.d (.tuple ps))) good) = .nx (lS ns D t two ru at_ (some (.l V')) one' value drawn base (some (.d (.int size))) (some (.d (.tuple bs))) (some (.d (.tuple ps))) good) ∧
    V'.length ≤ 500 ∧ ∀ v ∈ V', VOk v := by
  obtain ⟨m', e, V', one', rfl, h1, h2⟩ := goFor_inv (s := gSet 7) (b := fb_law_1) (fun i m => ∃ V' one', m = lS ns D t two ru at_ (some (.l V')) one' value drawn base (some (.d (.int size))) (some (.d (.tuple bs))) (some (.d (.tuple ps))) good ∧ V'.length ≤ 200 + 3 * i ∧ ∀ v ∈ V', VOk v) xs 0 _ ⟨V, one, rfl, hV, hv⟩ fun i x m hi ⟨V', one', e, h1, h2⟩ => by
    subst e
    have hlt := (List.getElem?_eq_some_iff.mp hi).1
    have e := f1 (ns := ns) (D := D) (t := t) (two := two) (ru := ru) (at_ := at_) (value := value) (drawn := drawn) (base := base) (good := good) (size := size) (bs := bs) (ps := ps) (V := V') (x := x) hp (by omega)
    refine ⟨_, by simp [lS], _, e, _, _, rfl, by simp; omega, fun v hv => ?_⟩
    rcases List.mem_append.mp hv with h | h
    · exact h2 v h
    · rcases List.mem_cons.mp h with h | h
      · rw [h]; exact vok3 (by simp; omega)
      · rcases List.mem_cons.mp h with h | h
        · rw [h]; exact vok3 (by simp)
        · rw [List.mem_singleton.mp h]; exact vok3 (by simp; omega)
  exact ⟨V', one', e, by omega, h2⟩
end
end Dl
set_option Elab.async false
set_option linter.all false
set_option maxRecDepth 100000
namespace Dl
open PySem PySem.Spec PyProof.Rows L2
section
variable {ns D : List Int} {t two ru at_ vals one value drawn base si bo ne good : Option W}
/-- within the comprehension over n -/
def lN (ns D : List Int) (t two ru at_ vals one value drawn base si bo ne good n : Option W) : Ms := [some (.r ns), some (.d (.list (D.map .int))), t, two, ru, at_, vals, one, value, drawn, base, si, bo, ne, good, n, none, none]
theorem l4 (d : Drw D) {bs : List PyData} (hb : bs.length ≤ 5) {n : Nat} (hn : n < 6) : ∃ L : List Int, lc_law_4 (lN ns D t two ru at_ vals one value drawn base si (some (.d (.tuple bs))) ne good (some (.d (.int (0 + (n : Nat)))))) = .ok (.l (L.map .int)) ∧ L.length ≤ 5 := by
  have key : ∀ k : Nat, k < 5 → ∃ x, atI (D.map PyData.int) ((40 + (k : Nat) + 3 * (n : Nat)) % 60) = some (.int x) := fun k hk => by
    obtain ⟨x, hx, _⟩ := d.at (i := (40 + k + 3 * n) % 60) (by omega)
    have e : (((40 + k + 3 * n) % 60 : Nat) : Int) = (40 + (k : Nat) + 3 * (n : Nat)) % 60 := by omega
    rw [e] at hx
    exact ⟨x, hx⟩
  let ff : PyData → Int := fun z => match z with
    | .int k => match atI (D.map PyData.int) ((40 + k + 3 * (n : Nat)) % 60) with
      | some (.int x) => x % 4
      | _ => 0
    | _ => 0
  have h0 : evalAllD [(toV (eCall (g1 lenD) [(rVar 12)]))] (lN ns D t two ru at_ vals one value drawn base si (some (.d (.tuple bs))) ne good (some (.d (.int (0 + (n : Nat)))))) = .ok [.int (bs.length : Nat)] := by simp [lN]
  have h1 : iArg rng1 [(toV (eCall (g1 lenD) [(rVar 12)]))] (lN ns D t two ru at_ vals one value drawn base si (some (.d (.tuple bs))) ne good (some (.d (.int (0 + (n : Nat)))))) = .ok (rngL 0 bs.length) := by
    rw [iArg_s, h0, Rz.bind_ok]
    exact rngN (by omega)
  refine ⟨(rngL 0 bs.length).map ff, ?_, by rw [List.length_map, rngL_len]; exact hb⟩
  have h2 := goLc_map (s := gSet 16) (e := toV (e2 modD (toV (eCall (g1 toIntD) [(toV (e2 ixD (rVar 1) (toV (e2 modD (toV (e2 addD (toV (e2 addD (vC (.int 40)) (rVar 16))) (toV (e2 mulD (vC (.int 3)) (rVar 15))))) (vC (.int 60))))))])) (vC (.int 4)))) (m := wipeM (lN ns D t two ru at_ vals one value drawn base si (some (.d (.tuple bs))) ne good (some (.d (.int (0 + (n : Nat)))))) [16]) (fun z => (lN ns D t two ru at_ vals one value drawn base si (some (.d (.tuple bs))) ne good (some (.d (.int (0 + (n : Nat)))))).set 16 (some (.d z))) (fun z => .int (ff z)) (rngL 0 bs.length) fun z hz => by
    unfold rngL at hz
    obtain ⟨j, hj, rfl⟩ := List.mem_map.mp hz
    have hj := List.mem_range.mp hj
    obtain ⟨x, hx⟩ := key j (by omega)
    have m3 : smallI 3 := by decide
    refine ⟨by simp [wipeM, lN], ?_⟩
    have hff : ff (.int (0 + (j : Nat))) = x % 4 := by
      show (match atI (D.map PyData.int) ((40 + (0 + (j : Nat)) + 3 * (n : Nat)) % 60) with | some (.int x) => x % 4 | _ => 0) = _
      rw [Int.zero_add, hx]
    rw [hff]
    simp [lN, m3, hx]
  have h3 := eLc_ok (s := gSet 16) (t := fun _ => .ok true) rfl h1 h2
  unfold lc_law_4
  rw [h3, List.map_map]
  rfl
theorem l5 (d : Drw D) {bs : List PyData} (hb : bs.length ≤ 5) : ∃ L : List (List Int), lc_law_5 (lS ns D t two ru at_ vals one value drawn base si (some (.d (.tuple bs))) ne good) = .ok (.l (L.map tupI)) ∧ L.length = 6 ∧ ∀ r ∈ L, r.length ≤ 5 := by
  have hch : ∀ n : Nat, ∃ L : List Int, n < 6 → lc_law_4 (lN ns D t two ru at_ vals one value drawn base si (some (.d (.tuple bs))) ne good (some (.d (.int (0 + (n : Nat)))))) = .ok (.l (L.map .int)) ∧ L.length ≤ 5 := fun n => by
    by_cases h : n < 6
    · obtain ⟨L, e⟩ := l4 (ns := ns) (t := t) (two := two) (ru := ru) (at_ := at_) (vals := vals) (one := one) (value := value) (drawn := drawn) (base := base) (si := si) (ne := ne) (good := good) d hb h
      exact ⟨L, fun _ => e⟩
    · exact ⟨[], fun z => absurd z h⟩
  let f : Nat → List Int := fun n => Classical.choose (hch n)
  have hf : ∀ n, n < 6 → lc_law_4 (lN ns D t two ru at_ vals one value drawn base si (some (.d (.tuple bs))) ne good (some (.d (.int (0 + (n : Nat)))))) = .ok (.l ((f n).map .int)) ∧ (f n).length ≤ 5 := fun n => Classical.choose_spec (hch n)
  refine ⟨(List.range 6).map f, ?_, by simp, fun r hr => by
    obtain ⟨n, hn, rfl⟩ := List.mem_map.mp hr
    exact (hf n (List.mem_range.mp hn)).2⟩
  have h1 : iArg rng1 [(vC (.int 6))] (lS ns D t two ru at_ vals one value drawn base si (some (.d (.tuple bs))) ne good) = .ok (rngL 0 6) := by
    rw [iArg_s]
    exact rngN (n := 6) (by decide)
  have h2 := goLc_map (s := gSet 15) (e := toV (eCall (g1 tupleD) [(toV lc_law_4)])) (m := wipeM (lS ns D t two ru at_ vals one value drawn base si (some (.d (.tuple bs))) ne good) [15]) (fun z => lN ns D t two ru at_ vals one value drawn base si (some (.d (.tuple bs))) ne good (some (.d z))) (fun z => tupI (f (intOf z))) (rngL 0 6) fun z hz => by
    unfold rngL at hz
    obtain ⟨j, hj, rfl⟩ := List.mem_map.mp hz
    have hj := List.mem_range.mp hj
    have e := (hf j hj).1
    have e2 : intOf (.int (0 + (j : Nat))) = j := by
      show ((0 : Int) + (j : Nat)).toNat = j
      omega
    rw [e2]
    refine ⟨by simp [wipeM, lS, lN], ?_⟩
    simp only [toV_s, eCall_s, evalAll_cons, evalAll_nil, e, Rz.bind_ok, g1_s, tupleD_l, ofO_some', tupI]
  have h3 := eLc_ok (s := gSet 15) (t := fun _ => .ok true) rfl h1 h2
  unfold lc_law_5
  rw [h3]
  have e6 : (rngL 0 6).map (fun z => tupI (f (intOf z))) = ((List.range 6).map f).map tupI := by
    unfold rngL
    rw [List.map_map, List.map_map]
    apply List.map_congr_left
    intro j _
    have e2 : intOf (.int (0 + (j : Nat))) = j := by
      show ((0 : Int) + (j : Nat)).toNat = j
      omega
    show tupI (f (intOf (.int (0 + (j : Nat))))) = tupI (f j)
    rw [e2]
  rw [e6]
theorem dropN {α : Type} (xs : List α) (n : Nat) : cutL xs (some (n : Int)) none = xs.drop n := by
  unfold cutL
  rw [show HT.sIx xs.length 0 (some (n : Int)) = min n xs.length from HT.sIx_nat _ _ n, HT.sIx_none]
  by_cases h : n ≤ xs.length
  · rw [Nat.min_eq_left h, List.take_of_length_le (by rw [List.length_drop]; omega)]
  · rw [Nat.min_eq_right (by omega), List.drop_of_length_le (Nat.le_refl _), List.drop_of_length_le (by omega)]
    simp
theorem cutlen {α : Type} (xs : List α) (lo hi : Option Int) : (cutL xs lo hi).length ≤ xs.length := by
  unfold cutL
  rw [List.length_take, List.length_drop]
  omega
theorem seq_nx {s u : Ms → Fl} {m m' : Ms} (h : s m = .nx m') : sSeq s u m = u m' := by rw [sSeq_s, h]
theorem vok_no {v : PyData} (h : ∀ a b c, v ≠ .tuple [a, b, c]) : VOk v := fun a bs ps e => absurd e (h _ _ _)
theorem fb7 (d : Drw D) (hD : D.length = 60) {i : Nat} (hi : i < 4) : ∃ ru' at' vals' one' value' drawn' base' si' bo' ne' good', fb_law_7 (lS ns D (some (.d (.int (0 + (i : Nat))))) two ru at_ vals one value drawn base si bo ne good) = .nx (lS ns D (some (.d (.int (0 + (i : Nat))))) two ru' at' vals' one' value' drawn' base' si' bo' ne' good') := by
  have d2 : Drw (D.drop (11 * i) ++ D) := ⟨by rw [List.length_append]; have := d.n; omega, fun x hx => by
    rcases List.mem_append.mp hx with h | h
    · exact d.p x (List.mem_of_mem_drop h)
    · exact d.p x h⟩
  obtain ⟨size, Bs, Ps, er, G⟩ := m_law_rules_ok d2
  obtain ⟨Ls, eb, hLs, hLr⟩ := m_law_boxes_ok G
  obtain ⟨x5, h5, p5⟩ := d.at (i := 50 + i) (by omega)
  have e5 : ((50 + i : Nat) : Int) = 50 + (i : Nat) := by omega
  rw [e5] at h5
  have hk := G.k
  have hl := G.l
  obtain ⟨a, ha⟩ : ∃ a : Nat, x5 % (Bs.length : Int) = (a : Nat) := ⟨(x5 % (Bs.length : Int)).toNat, by have := Int.emod_nonneg x5 (b := (Bs.length : Int)) (by omega); omega⟩
  have hak : a < Bs.length := by have := Int.emod_lt_of_pos x5 (b := (Bs.length : Int)) (by omega); omega
  have m11 : smallI 11 := by decide
  have c0 : (0 : Int) < Bs.length := by omega
  have c0' : 0 < Bs.length := by omega
  have eD : cutL (D.map PyData.int) (some (11 * (i : Nat))) none = (D.drop (11 * i)).map .int := by
    have : (11 * (i : Nat) : Int) = ((11 * i : Nat) : Int) := by omega
    rw [this, dropN, List.map_drop]
  have cD : (D.drop (11 * i)).length + D.length ≤ 16000000 := by rw [List.length_drop]; omega
  have s1 : sSet 4 (ofV (vFn m__law_rules [(toV (e2 addD (toV (eSl (rVar 1) (oSome (toV (e2 mulD (vC (.int 11)) (rVar 2)))) oNone)) (rVar 1)))])) (lS ns D (some (.d (.int (0 + (i : Nat))))) two ru at_ vals one value drawn base si bo ne good) =
      .nx (lS ns D (some (.d (.int (0 + (i : Nat))))) two (some (.d (rul size Bs Ps))) at_ vals one value drawn base si bo ne good) := by
    have h : vFn m__law_rules [(toV (e2 addD (toV (eSl (rVar 1) (oSome (toV (e2 mulD (vC (.int 11)) (rVar 2)))) oNone)) (rVar 1)))] (lS ns D (some (.d (.int (0 + (i : Nat))))) two ru at_ vals one value drawn base si bo ne good) = .ok (rul size Bs Ps) := by
      simp only [lS, vFn_s, toV_s, e2_s, eSl_s, oSome_s, oNone_s, evalAll_cons, evalAll_nil, rVar_s, vC_s, List.getElem?_cons_zero, List.getElem?_cons_succ, Rz.bind_ok, mul_i, m11, true_or, if_true, ofO_some', intD_s, rz_map_ok, slD_l, Int.zero_add, eD, add_l, List.length_map, cD, List.map_cons, List.map_nil]
      rw [← List.map_append]
      exact er
    rw [sSet_s, ofV_s, h]
    simp [lS]
  have s2 : sAsg (vVar 4) (gTup' 3 (gCons (gSet 11) (gCons (gSet 12) (gCons (gSet 13) gNil)))) (lS ns D (some (.d (.int (0 + (i : Nat))))) two (some (.d (rul size Bs Ps))) at_ vals one value drawn base si bo ne good) =
      .nx (lS ns D (some (.d (.int (0 + (i : Nat))))) two (some (.d (rul size Bs Ps))) at_ vals one value drawn base (some (.d (.int size))) (some (.d (.tuple (Bs.map pr2)))) (some (.d (.tuple (Ps.map pn2)))) good) := by
    simp [lS, rul]
  have s3 : ∀ o, sSet 5 (ofV (toV (e2 modD (toV (eCall (g1 toIntD) [(toV (e2 ixD (rVar 1) (toV (e2 addD (vC (.int 50)) (rVar 2)))))])) (toV (eCall (g1 lenD) [(rVar 12)]))))) (lS ns D (some (.d (.int (0 + (i : Nat))))) two (some (.d (rul size Bs Ps))) o vals one value drawn base (some (.d (.int size))) (some (.d (.tuple (Bs.map pr2)))) (some (.d (.tuple (Ps.map pn2)))) good) =
      .nx (lS ns D (some (.d (.int (0 + (i : Nat))))) two (some (.d (rul size Bs Ps))) (some (.d (.int a))) vals one value drawn base (some (.d (.int size))) (some (.d (.tuple (Bs.map pr2)))) (some (.d (.tuple (Ps.map pn2)))) good) := fun o => by
    simp [lS, h5, c0', ha]
  unfold fb_law_7
  rw [seq_nx s1, seq_nx s2, seq_nx (s3 _)]
  have s4 : ∀ o, ∃ V0 : List PyData, sSet 6 (eLst [(vVar 4), (toV (eCall (g1 listD) [(rVar 4)])), (toV (eSl (rVar 4) oNone (oSome (vC (.int 2))))), (toV (e2 addD (rVar 4) (eTup [(vC (.int 0))]))), (vC .none), (vC (.int 7)), (eTup [(vC (.int 0)), (vVar 12), (vVar 13)]), (eTup [(vC (.int 13)), (vVar 12), (vVar 13)]), (eTup [(vC (.bool true)), (vVar 12), (vVar 13)])]) (lS ns D (some (.d (.int (0 + (i : Nat))))) two (some (.d (rul size Bs Ps))) (some (.d (.int a))) o one value drawn base (some (.d (.int size))) (some (.d (.tuple (Bs.map pr2)))) (some (.d (.tuple (Ps.map pn2)))) good) =
      .nx (lS ns D (some (.d (.int (0 + (i : Nat))))) two (some (.d (rul size Bs Ps))) (some (.d (.int a))) (some (.l V0)) one value drawn base (some (.d (.int size))) (some (.d (.tuple (Bs.map pr2)))) (some (.d (.tuple (Ps.map pn2)))) good) ∧ V0.length = 9 ∧ ∀ v ∈ V0, VOk v := fun o => by
    have hp : (Ps.map pn2).length < 64 := by rw [List.length_map]; omega
    refine ⟨[rul size Bs Ps, .list [.int size, .tuple (Bs.map pr2), .tuple (Ps.map pn2)], .tuple [.int size, .tuple (Bs.map pr2)], .tuple [.int size, .tuple (Bs.map pr2), .tuple (Ps.map pn2), .int 0], .none, .int 7, .tuple [.int 0, .tuple (Bs.map pr2), .tuple (Ps.map pn2)], .tuple [.int 13, .tuple (Bs.map pr2), .tuple (Ps.map pn2)], .tuple [.bool true, .tuple (Bs.map pr2), .tuple (Ps.map pn2)]], ?_, rfl, fun v hv => ?_⟩
    · simp [lS, rul, cutL, HT.sIx]
    · simp only [List.mem_cons, List.not_mem_nil, or_false] at hv
      rcases hv with rfl | rfl | rfl | rfl | rfl | rfl | rfl | rfl | rfl
      · exact vok3 hp
      · exact vok_no (by simp)
      · exact vok_no (by simp)
      · exact vok_no (by simp)
      · exact vok_no (by simp)
      · exact vok_no (by simp)
      · exact vok3 hp
      · exact vok3 hp
      · exact vok3 hp
  obtain ⟨V0, e4, q4, w4⟩ := s4 vals
  rw [seq_nx e4]
  have s5 : ∃ V1 : List PyData, sSet 6 (e2 addD (rVar 6) (toV (eLst [(eTup [(vVar 11), (toV (eCall (g1 listD) [(rVar 12)])), (vVar 13)]), (eTup [(vVar 11), (eTup []), (vVar 13)]), (eTup [(vVar 11), (toV (e2 mulD (rVar 12) (vC (.int 7)))), (vVar 13)]), (eTup [(vVar 11), (vVar 12), (toV (eCall (g1 listD) [(rVar 13)]))])]))) (lS ns D (some (.d (.int (0 + (i : Nat))))) two (some (.d (rul size Bs Ps))) (some (.d (.int a))) (some (.l V0)) one value drawn base (some (.d (.int size))) (some (.d (.tuple (Bs.map pr2)))) (some (.d (.tuple (Ps.map pn2)))) good) =
      .nx (lS ns D (some (.d (.int (0 + (i : Nat))))) two (some (.d (rul size Bs Ps))) (some (.d (.int a))) (some (.l V1)) one value drawn base (some (.d (.int size))) (some (.d (.tuple (Bs.map pr2)))) (some (.d (.tuple (Ps.map pn2)))) good) ∧ V1.length ≤ 100 ∧ ∀ v ∈ V1, VOk v := by
    have hp : (Ps.map pn2).length < 64 := by rw [List.length_map]; omega
    have hm : mulD (.tuple (Bs.map pr2)) (.int 7) = some (.d (.tuple (List.replicate 7 (Bs.map pr2)).flatten)) := by
      have : (Bs.map pr2).length ≤ 1000 := by rw [List.length_map]; omega
      show (if (-1000 ≤ (7 : Int) ∧ (7 : Int) ≤ 1000) ∧ (Bs.map pr2).length ≤ 1000 then some (W.d (.tuple (List.replicate (7 : Int).toNat (Bs.map pr2)).flatten)) else none) = _
      rw [if_pos ⟨by decide, this⟩]
      rfl
    refine ⟨V0 ++ [.tuple [.int size, .list (Bs.map pr2), .tuple (Ps.map pn2)], .tuple [.int size, .tuple [], .tuple (Ps.map pn2)], .tuple [.int size, .tuple (List.replicate 7 (Bs.map pr2)).flatten, .tuple (Ps.map pn2)], .tuple [.int size, .tuple (Bs.map pr2), .list (Ps.map pn2)]], ?_, by simp [q4], fun v hv => ?_⟩
    · have q : V0.length + 4 ≤ 16000000 := by omega
      simp [lS, hm, q]
    · rcases List.mem_append.mp hv with h | hv
      · exact w4 v h
      · simp only [List.mem_cons, List.not_mem_nil, or_false] at hv
        rcases hv with rfl | rfl | rfl | rfl
        · exact vok3 hp
        · exact vok3 hp
        · exact vok3 hp
        · intro a bs ps e; simp at e
  obtain ⟨V1, e5', q5, w5⟩ := s5
  rw [seq_nx e5']
  have hb5 : (Bs.map pr2).length ≤ 5 := by rw [List.length_map]; omega
  have hp30 : (Ps.map pn2).length ≤ 30 := by rw [List.length_map]; omega
  obtain ⟨V2, one2, e6, q6, w6⟩ := loop0 (ns := ns) (D := D) (t := some (.d (.int (0 + (i : Nat))))) (two := two) (ru := some (.d (rul size Bs Ps))) (one := one) (value := value) (drawn := drawn) (base := base) (good := good) (size := size) (bs := Bs.map pr2) (ps := Ps.map pn2) (V := V1) (a := a)
    (xs := [.tuple [.int (-1), .int 2], .tuple [.int 0, .int 13], .tuple [.int 3, .int 2], .tuple [.bool true, .int 2], .tuple [.int 0, .none], .tuple [.int 0], .list [.int 0, .int 1], .none, .tuple [.int 0, .int 12], .tuple [.int 12, .int 12]]) (by rw [List.length_map]; exact hak) hb5 (by omega) q5 (by decide) w5
  have s6 : sFor (iSeq (toV (eLst [(eTup [(toV (e1 negD (vC (.int 1)))), (vC (.int 2))]), (eTup [(vC (.int 0)), (vC (.int 13))]), (eTup [(vC (.int 3)), (vC (.int 2))]), (eTup [(vC (.bool true)), (vC (.int 2))]), (eTup [(vC (.int 0)), (vC .none)]), (eTup [(vC (.int 0))]), (toV (eLst [(vC (.int 0)), (vC (.int 1))])), (vC .none), (eTup [(vC (.int 0)), (vC (.int 12))]), (eTup [(vC (.int 12)), (vC (.int 12))])]))) (gSet 7) fb_law_0 (lS ns D (some (.d (.int (0 + (i : Nat))))) two (some (.d (rul size Bs Ps))) (some (.d (.int a))) (some (.l V1)) one value drawn base (some (.d (.int size))) (some (.d (.tuple (Bs.map pr2)))) (some (.d (.tuple (Ps.map pn2)))) good) = .nx (lS ns D (some (.d (.int (0 + (i : Nat))))) two (some (.d (rul size Bs Ps))) (some (.d (.int a))) (some (.l V2)) one2 value drawn base (some (.d (.int size))) (some (.d (.tuple (Bs.map pr2)))) (some (.d (.tuple (Ps.map pn2)))) good) := by
    rw [sFor_s]
    simp only [iSeq_s, toV_s, eLst_s, eTup_s, e1_s, vC_s, evalAll_cons, evalAll_nil, Rz.bind_ok, neg_i, ofO_some', rz_map_ok, itemsOf_l]
    exact e6
  rw [seq_nx s6]
  obtain ⟨V3, one3, e7, q7, w7⟩ := loop1' (ns := ns) (D := D) (t := some (.d (.int (0 + (i : Nat))))) (two := two) (ru := some (.d (rul size Bs Ps))) (at_ := some (.d (.int a))) (one := one2) (value := value) (drawn := drawn) (base := base) (good := good) (size := size) (bs := Bs.map pr2) (ps := Ps.map pn2) (V := V2)
    (xs := [.tuple [.int 0, .int 0], .tuple [.int 1, .int 0], .tuple [.int 0, .int (Bs.map pr2).length], .tuple [.int (-1), .int 0], .tuple [.bool false, .int 1], .tuple [.int 0], .none, .list [.int 0, .int 1], .tuple [.int 0, .int 1]]) hp30 q6 (by simp) w6
  have s7 : sFor (iSeq (toV (eLst [(eTup [(vC (.int 0)), (vC (.int 0))]), (eTup [(vC (.int 1)), (vC (.int 0))]), (eTup [(vC (.int 0)), (toV (eCall (g1 lenD) [(rVar 12)]))]), (eTup [(toV (e1 negD (vC (.int 1)))), (vC (.int 0))]), (eTup [(vC (.bool false)), (vC (.int 1))]), (eTup [(vC (.int 0))]), (vC .none), (toV (eLst [(vC (.int 0)), (vC (.int 1))])), (eTup [(vC (.int 0)), (vC (.int 1))])]))) (gSet 7) fb_law_1 (lS ns D (some (.d (.int (0 + (i : Nat))))) two (some (.d (rul size Bs Ps))) (some (.d (.int a))) (some (.l V2)) one2 value drawn base (some (.d (.int size))) (some (.d (.tuple (Bs.map pr2)))) (some (.d (.tuple (Ps.map pn2)))) good) = .nx (lS ns D (some (.d (.int (0 + (i : Nat))))) two (some (.d (rul size Bs Ps))) (some (.d (.int a))) (some (.l V3)) one3 value drawn base (some (.d (.int size))) (some (.d (.tuple (Bs.map pr2)))) (some (.d (.tuple (Ps.map pn2)))) good) := by
    have hlen : toV (eCall (g1 lenD) [(rVar 12)]) (lS ns D (some (.d (.int (0 + (i : Nat))))) two (some (.d (rul size Bs Ps))) (some (.d (.int a))) (some (.l V2)) one2 value drawn base (some (.d (.int size))) (some (.d (.tuple (Bs.map pr2)))) (some (.d (.tuple (Ps.map pn2)))) good) = .ok (.int (Bs.map pr2).length) := by simp [lS]
    rw [sFor_s]
    simp only [iSeq_s, toV_s, eLst_s, eTup_s, e1_s, vC_s, evalAll_cons, evalAll_nil, Rz.bind_ok, neg_i, ofO_some', rz_map_ok, itemsOf_l] at hlen ⊢
    rw [hlen]
    simp only [Rz.bind_ok, rz_map_ok, itemsOf_l]
    exact e7
  rw [seq_nx s7]
  have hp : (Ps.map pn2).length < 64 := by omega
  have s8 : ∃ value' good', sFor (iSeq (toV (e2 addD (rVar 6) (toV (eLst [(eTup [(vVar 11), (vVar 12), (toV (eRev (rVar 13)))]), (eTup [(vVar 11), (vVar 12), (toV (e2 addD (rVar 13) (toV (eSl (rVar 13) oNone (oSome (vC (.int 1)))))))])]))))) (gSet 8) fb_law_3 (lS ns D (some (.d (.int (0 + (i : Nat))))) two (some (.d (rul size Bs Ps))) (some (.d (.int a))) (some (.l V3)) one3 value drawn base (some (.d (.int size))) (some (.d (.tuple (Bs.map pr2)))) (some (.d (.tuple (Ps.map pn2)))) good) = .nx (lS ns D (some (.d (.int (0 + (i : Nat))))) two (some (.d (rul size Bs Ps))) (some (.d (.int a))) (some (.l V3)) one3 value' drawn base (some (.d (.int size))) (some (.d (.tuple (Bs.map pr2)))) (some (.d (.tuple (Ps.map pn2)))) good') := by
    have hx : iSeq (toV (e2 addD (rVar 6) (toV (eLst [(eTup [(vVar 11), (vVar 12), (toV (eRev (rVar 13)))]), (eTup [(vVar 11), (vVar 12), (toV (e2 addD (rVar 13) (toV (eSl (rVar 13) oNone (oSome (vC (.int 1)))))))])])))) (lS ns D (some (.d (.int (0 + (i : Nat))))) two (some (.d (rul size Bs Ps))) (some (.d (.int a))) (some (.l V3)) one3 value drawn base (some (.d (.int size))) (some (.d (.tuple (Bs.map pr2)))) (some (.d (.tuple (Ps.map pn2)))) good) = .ok (V3 ++ [.tuple [.int size, .tuple (Bs.map pr2), .tuple (Ps.map pn2).reverse], .tuple [.int size, .tuple (Bs.map pr2), .tuple (Ps.map pn2 ++ cutL (Ps.map pn2) none (some 1))]]) := by
      have c1 := cutlen (Ps.map pn2) none (some 1)
      rw [List.length_map] at c1
      have z1 : Ps.length + (cutL (Ps.map pn2) none (some 1)).length ≤ 16000000 := by omega
      have z2 : V3.length + 2 ≤ 16000000 := by omega
      simp [lS, z1, z2]
    rw [sFor_s, hx]
    refine loop3 fun v hv => ?_
    rcases List.mem_append.mp hv with h | h
    · exact w7 v h
    · rcases List.mem_cons.mp h with h | h
      · rw [h]; exact vok3 (by rw [List.length_reverse]; exact hp)
      · have c1 := cutlen (Ps.map pn2) none (some 1)
        rw [List.mem_singleton.mp h]
        exact vok3 (by rw [List.length_append]; omega)
  obtain ⟨value8, good8, e8⟩ := s8
  rw [seq_nx e8]
  obtain ⟨L, e9, q9, q9'⟩ := l5 (ns := ns) (t := some (.d (.int (0 + (i : Nat))))) (two := two) (ru := some (.d (rul size Bs Ps))) (at_ := some (.d (.int a))) (vals := some (.l V3)) (one := one3) (value := value8) (drawn := drawn) (base := base) (si := some (.d (.int size))) (bs := Bs.map pr2) (ne := some (.d (.tuple (Ps.map pn2)))) (good := good8) d hb5
  have s9 : sPost 9 (sSet 9 lc_law_5) (lS ns D (some (.d (.int (0 + (i : Nat))))) two (some (.d (rul size Bs Ps))) (some (.d (.int a))) (some (.l V3)) one3 value8 drawn base (some (.d (.int size))) (some (.d (.tuple (Bs.map pr2)))) (some (.d (.tuple (Ps.map pn2)))) good8) = .nx (lS ns D (some (.d (.int (0 + (i : Nat))))) two (some (.d (rul size Bs Ps))) (some (.d (.int a))) (some (.l V3)) one3 value8 (some (.d (.list (L.map tupI)))) base (some (.d (.int size))) (some (.d (.tuple (Bs.map pr2)))) (some (.d (.tuple (Ps.map pn2)))) good8) := by
    rw [sPost_s, sSet_s, e9]
    simp [lS, frzAt]
  rw [seq_nx s9]
  have s10 : ∃ bx : List PyData, bx.length ≤ 10 ∧ sSet 10 (ofV (toV (e2 ixD (toV (e2 addD (vFn m__law_boxes [(vVar 4)]) (rVar 9))) (vC (.int 0))))) (lS ns D (some (.d (.int (0 + (i : Nat))))) two (some (.d (rul size Bs Ps))) (some (.d (.int a))) (some (.l V3)) one3 value8 (some (.d (.list (L.map tupI)))) base (some (.d (.int size))) (some (.d (.tuple (Bs.map pr2)))) (some (.d (.tuple (Ps.map pn2)))) good8) = .nx (lS ns D (some (.d (.int (0 + (i : Nat))))) two (some (.d (rul size Bs Ps))) (some (.d (.int a))) (some (.l V3)) one3 value8 (some (.d (.list (L.map tupI)))) (some (.d (.tuple bx))) (some (.d (.int size))) (some (.d (.tuple (Bs.map pr2)))) (some (.d (.tuple (Ps.map pn2)))) good8) := by
    have hv : vFn m__law_boxes [(vVar 4)] (lS ns D (some (.d (.int (0 + (i : Nat))))) two (some (.d (rul size Bs Ps))) (some (.d (.int a))) (some (.l V3)) one3 value8 (some (.d (.list (L.map tupI)))) base (some (.d (.int size))) (some (.d (.tuple (Bs.map pr2)))) (some (.d (.tuple (Ps.map pn2)))) good8) = .ok (.list (Ls.map tupI)) := by
      simp only [lS, vFn_s, evalAll_cons, evalAll_nil, vVar_s, List.getElem?_cons_zero, List.getElem?_cons_succ, Rz.bind_ok, List.map_cons, List.map_nil, eb]
    have h9 : rVar 9 (lS ns D (some (.d (.int (0 + (i : Nat))))) two (some (.d (rul size Bs Ps))) (some (.d (.int a))) (some (.l V3)) one3 value8 (some (.d (.list (L.map tupI)))) base (some (.d (.int size))) (some (.d (.tuple (Bs.map pr2)))) (some (.d (.tuple (Ps.map pn2)))) good8) = .ok (.list (L.map tupI)) := rfl
    have z : Ls.length + L.length ≤ 16000000 := by omega
    obtain ⟨r0, hr0, hl0⟩ : ∃ r0, (Ls ++ L)[0]? = some r0 ∧ r0.length ≤ 5 := by
      have hpos : 0 < (Ls ++ L).length := by rw [List.length_append]; omega
      refine ⟨(Ls ++ L)[0], List.getElem?_eq_getElem hpos, ?_⟩
      rcases List.mem_append.mp (List.getElem_mem hpos) with h | h
      · exact hLr _ h
      · exact q9' _ h
    refine ⟨r0.map .int, by rw [List.length_map]; omega, ?_⟩
    have hi : atI (Ls.map tupI ++ L.map tupI) 0 = some (tupI r0) := by
      rw [atI_0, ← List.map_append, List.getElem?_map, hr0]
      rfl
    rw [sSet_s, ofV_s, toV_s, e2_s, toV_s, e2_s, hv, Rz.bind_ok, h9, Rz.bind_ok, add_l, List.length_map, List.length_map, if_pos z]
    simp only [ofO_some', Rz.bind_ok, vC_s, ix_l, hi, Option.map_some, rz_map_ok]
    simp [lS, tupI]
  obtain ⟨bx, qb, e10⟩ := s10
  rw [seq_nx e10]
  have hx : ∃ xs, iSeq (toV (e2 addD (rVar 9) (toV (eLst [(vVar 10), (toV (eRev (rVar 10))), (toV (eSl (rVar 10) (oSome (vC (.int 1))) oNone)), (toV (e2 addD (rVar 10) (eTup [(vC (.int 0))]))), (toV (eCall (g1 listD) [(rVar 10)])), (vC .none), (vC (.int 7)), (toV (e2 addD (eTup [(toV (e1 negD (vC (.int 1))))]) (toV (eSl (rVar 10) (oSome (vC (.int 1))) oNone)))), (toV (e2 addD (eTup [(vC (.int 13))]) (toV (eSl (rVar 10) (oSome (vC (.int 1))) oNone)))), (toV (e2 addD (eTup [(vC (.bool true))]) (toV (eSl (rVar 10) (oSome (vC (.int 1))) oNone)))), (toV (e2 addD (eTup [(vVar 11)]) (toV (e2 mulD (eTup [(vC (.int 0))]) (toV (e2 subD (toV (eCall (g1 lenD) [(rVar 12)])) (vC (.int 1))))))))])))) (lS ns D (some (.d (.int (0 + (i : Nat))))) two (some (.d (rul size Bs Ps))) (some (.d (.int a))) (some (.l V3)) one3 value8 (some (.d (.list (L.map tupI)))) (some (.d (.tuple bx))) (some (.d (.int size))) (some (.d (.tuple (Bs.map pr2)))) (some (.d (.tuple (Ps.map pn2)))) good8) = .ok xs := by
    have c1 := cutlen bx (some 1) none
    have z1 : bx.length + 1 ≤ 16000000 := by omega
    have z2 : 1 + (cutL bx (some 1) none).length ≤ 16000000 := by omega
    have z3 : L.length + 11 ≤ 16000000 := by omega
    obtain ⟨w, hw, hwl⟩ : ∃ w : List PyData, mulD (.tuple [.int 0]) (.int ((Bs.length : Int) - 1)) = some (.d (.tuple w)) ∧ w.length ≤ 10 := by
      have c : (-1000 ≤ (Bs.length : Int) - 1 ∧ (Bs.length : Int) - 1 ≤ 1000) ∧ [PyData.int 0].length ≤ 1000 := ⟨by omega, by decide⟩
      refine ⟨(List.replicate ((Bs.length : Int) - 1).toNat [PyData.int 0]).flatten, ?_, by simp; omega⟩
      show (if (-1000 ≤ (Bs.length : Int) - 1 ∧ (Bs.length : Int) - 1 ≤ 1000) ∧ [PyData.int 0].length ≤ 1000 then some (W.d (.tuple (List.replicate ((Bs.length : Int) - 1).toNat [PyData.int 0]).flatten)) else none) = _
      rw [if_pos c]
    have z4 : 1 + w.length ≤ 16000000 := by omega
    simp [lS, z1, z2, z3, z4, hw]
  obtain ⟨xs, hx⟩ := hx
  obtain ⟨v', e11⟩ := loop6 (ns := ns) (D := D) (t := some (.d (.int (0 + (i : Nat))))) (two := two) (at_ := some (.d (.int a))) (vals := some (.l V3)) (one := one3) (value := value8) (drawn := some (.d (.list (L.map tupI)))) (base := some (.d (.tuple bx))) (si := some (.d (.int size))) (bo := some (.d (.tuple (Bs.map pr2)))) (ne := some (.d (.tuple (Ps.map pn2)))) (good := good8) G (xs := xs)
  rw [sFor_s, hx]
  exact ⟨_, _, _, _, _, _, _, _, _, _, _, e11⟩
end
end Dl
set_option Elab.async false
set_option linter.all false
set_option maxRecDepth 100000
namespace Dl
open PySem PySem.Spec PyProof.Rows L2
theorem box_fault_ok {size : Int} {Bs : List (Int × Int)} {Ps : List (Nat × Nat)} (G : GoodR size Bs Ps) (v : PyData) : m_box_fault [some (.d (rul size Bs Ps)), some (.d v)] = .ok (dueB size Bs Ps v) := by
  have hP : ∀ z ∈ Ps, z.1 < Bs.length ∧ z.2 < Bs.length := fun z hz => by have := G.p z hz; omega
  unfold m_box_fault b_box_fault
  simp [m_check_ok (good_rules G), m_fault_in_ok (size := size) hP v]
theorem good2 {Ps : List (Nat × Nat)} (h : Ps = [(0, 1)] ∨ Ps = []) : GoodR 3 [(1, 3), (1, 3)] Ps where
  s := by decide
  k := by decide
  b := fun z hz => by
    have : z = (1, 3) := by simpa using hz
    subst this; decide
  p := fun z hz => by
    rcases h with rfl | rfl
    · have : z = (0, 1) := by simpa using hz
      subst this; decide
    · simp at hz
  a := by rcases h with rfl | rfl <;> simp
  l := by rcases h with rfl | rfl <;> decide
theorem two_a : m_box_fault [some (.d (.tuple [.int 3, .tuple [.tuple [.int 1, .int 3], .tuple [.int 1, .int 3]], .tuple [.tuple [.int 0, .int 1]]])), some (.d (.tuple [.int 1, .int 2]))] = .ok (.tuple [.str "never", .int 0, .int 1]) := (box_fault_ok (good2 (.inl rfl)) _).trans (by rfl)
theorem two_b : m_box_fault [some (.d (.tuple [.int 3, .tuple [.tuple [.int 1, .int 3], .tuple [.int 1, .int 3]], .tuple [.tuple [.int 0, .int 1]]])), some (.d (.tuple [.int 3, .int 0]))] = .ok (.tuple [.str "bounds", .int 1]) := (box_fault_ok (good2 (.inl rfl)) _).trans (by rfl)
theorem two_c : m_box_fault [some (.d (.tuple [.int 3, .tuple [.tuple [.int 1, .int 3], .tuple [.int 1, .int 3]], .tuple [.tuple [.int 0, .int 1]]])), some (.d (.tuple [.int 1, .int 1]))] = .ok (.tuple [.str "size", .int 2]) := (box_fault_ok (good2 (.inl rfl)) _).trans (by rfl)
theorem two_d : m_box_fault [some (.d (.tuple [.int 3, .tuple [.tuple [.int 1, .int 3], .tuple [.int 1, .int 3]], .tuple []])), some (.d (.tuple [.int 1, .int 2]))] = .ok .none := (box_fault_ok (good2 (.inr rfl)) _).trans (by rfl)
/-- the law, as plain mathematics -/
theorem m_law_ok (ns : List Int) (h : ns.length ≤ 63) : m_law [some (.r ns)] = .ok (.bool true) := by
  obtain ⟨D, e, hD, hn⟩ := m_draws_ok ns h
  have d : Drw D := ⟨by omega, hn⟩
  obtain ⟨m', l1, t, ru, at_, vals, one, value, drawn, base, si, bo, ne, good, rfl⟩ := goFor_inv (s := gSet 2) (b := fb_law_7) (fun _ m => ∃ t ru at_ vals one value drawn base si bo ne good, m = lS ns D t none ru at_ vals one value drawn base si bo ne good) (rngL 0 4) 0 (lS ns D none none none none none none none none none none none none none) ⟨none, none, none, none, none, none, none, none, none, none, none, none, rfl⟩ fun i x m hi ⟨t, ru, at_, vals, one, value, drawn, base, si, bo, ne, good, e⟩ => by
    subst e
    have hlt : i < 4 := by
      have := (List.getElem?_eq_some_iff.mp hi).1
      rwa [rngL_len] at this
    obtain rfl : x = .int (0 + (i : Nat)) := by
      unfold rngL at hi
      rw [List.getElem?_map, List.getElem?_range hlt] at hi
      exact (Option.some.inj hi).symm
    obtain ⟨ru', at', vals', one', value', drawn', base', si', bo', ne', good', e⟩ := fb7 (ns := ns) (two := none) (ru := ru) (at_ := at_) (vals := vals) (one := one) (value := value) (drawn := drawn) (base := base) (si := si) (bo := bo) (ne := ne) (good := good) d hD hlt
    exact ⟨lS ns D (some (.d (.int (0 + (i : Nat))))) none ru at_ vals one value drawn base si bo ne good, by simp [lS], _, e, _, _, _, _, _, _, _, _, _, _, _, _, rfl⟩
  have hr : rng1 [.int 4] = .ok (rngL 0 4) := rngN (n := 4) (by decide)
  have s1 : sSet 1 (ofV (vFnR m__law_draws 0 (vC (.int 60)))) (([some (.r ns)] : Ms) ++ List.replicate (18 - ([some (.r ns)] : Ms).length) none) = .nx (lS ns D none none none none none none none none none none none none none) := by
    simp [vFnR, rAt, e, lS]
  have s2 : sFor (iArg rng1 [(vC (.int 4))]) (gSet 2) fb_law_7 (lS ns D none none none none none none none none none none none none none) = .nx (lS ns D t none ru at_ vals one value drawn base si bo ne good) := by
    rw [sFor_s, iArg_s, evalAll_cons, evalAll_nil, vC_s, Rz.bind_ok, Rz.bind_ok, Rz.bind_ok, hr]
    exact l1
  have ev : eqD (.tuple [.str "never", .int 0, .int 1]) (.tuple [.str "never", .int 0, .int 1]) = some true := by simp [eqD, PyData.depth, PyData.depthAll, PyData.eqv, PyData.eqvAll]
  have ev2 : eqD (.tuple [.str "bounds", .int 1]) (.tuple [.str "bounds", .int 1]) = some true := by simp [eqD, PyData.depth, PyData.depthAll, PyData.eqv, PyData.eqvAll]
  have ev3 : eqD (.tuple [.str "size", .int 2]) (.tuple [.str "size", .int 2]) = some true := by simp [eqD, PyData.depth, PyData.depthAll, PyData.eqv, PyData.eqvAll]
  unfold m_law
  rw [fnW_s]
  unfold b_law
  rw [seq_nx s1, seq_nx s2]
  simp [lS, two_a, two_b, two_c, two_d, ev, ev2, ev3, isNoneD]
end Dl
set_option Elab.async false
set_option linter.all false
set_option maxRecDepth 100000
/-! the end, printed by gen.py -/
namespace Dl
open PySem PySem.Spec PyProof.Rows L2
set_option maxHeartbeats 8000000 in
theorem fx_of {K : PySem.W.Frag} {h : Heap} {mg : Str → Option Value} (X : K.In h) (G : h.Ns mainGlobals mg)
  {a_FORM : Addr} {od_FORM : Option Addr} {n_FORM : Nat} {sl_FORM : Array (Option Value)} {tk_FORM_0 : Tok}
  {tk_MOST_KINDS : Tok}
  {tk_MOST_SIZE : Tok}
  {f__law_draws : Addr} {oc__law_draws : Value} {od__law_draws an__law_draws : Option Addr} {sl__law_draws : Array (Option Value)} {kV__law_draws dc__law_draws pm__law_draws cd__law_draws ct__law_draws : Value}
  {f__law_rules : Addr} {oc__law_rules : Value} {od__law_rules an__law_rules : Option Addr} {sl__law_rules : Array (Option Value)} {kV__law_rules dc__law_rules pm__law_rules cd__law_rules ct__law_rules : Value}
  {f__law_is_number : Addr} {oc__law_is_number : Value} {od__law_is_number an__law_is_number : Option Addr} {sl__law_is_number : Array (Option Value)} {kV__law_is_number dc__law_is_number pm__law_is_number cd__law_is_number ct__law_is_number : Value}
  {f__law_are_rules : Addr} {oc__law_are_rules : Value} {od__law_are_rules an__law_are_rules : Option Addr} {sl__law_are_rules : Array (Option Value)} {kV__law_are_rules dc__law_are_rules pm__law_are_rules cd__law_are_rules ct__law_are_rules : Value}
  {f_is_whole : Addr} {oc_is_whole : Value} {od_is_whole an_is_whole : Option Addr} {sl_is_whole : Array (Option Value)} {kV_is_whole dc_is_whole pm_is_whole cd_is_whole ct_is_whole : Value}
  {f__are_bounds : Addr} {oc__are_bounds : Value} {od__are_bounds an__are_bounds : Option Addr} {sl__are_bounds : Array (Option Value)} {kV__are_bounds dc__are_bounds pm__are_bounds cd__are_bounds ct__are_bounds : Value}
  {f__is_pair : Addr} {oc__is_pair : Value} {od__is_pair an__is_pair : Option Addr} {sl__is_pair : Array (Option Value)} {kV__is_pair dc__is_pair pm__is_pair cd__is_pair ct__is_pair : Value}
  {f_ascends : Addr} {oc_ascends : Value} {od_ascends an_ascends : Option Addr} {sl_ascends : Array (Option Value)} {kV_ascends dc_ascends pm_ascends cd_ascends ct_ascends : Value}
  {f_are_box_rules : Addr} {oc_are_box_rules : Value} {od_are_box_rules an_are_box_rules : Option Addr} {sl_are_box_rules : Array (Option Value)} {kV_are_box_rules dc_are_box_rules pm_are_box_rules cd_are_box_rules ct_are_box_rules : Value}
  {f_check_box_rules : Addr} {oc_check_box_rules : Value} {od_check_box_rules an_check_box_rules : Option Addr} {sl_check_box_rules : Array (Option Value)} {kV_check_box_rules dc_check_box_rules pm_check_box_rules cd_check_box_rules ct_check_box_rules : Value}
  {f_fault_in : Addr} {oc_fault_in : Value} {od_fault_in an_fault_in : Option Addr} {sl_fault_in : Array (Option Value)} {kV_fault_in dc_fault_in pm_fault_in cd_fault_in ct_fault_in : Value}
  {f_box_fault : Addr} {oc_box_fault : Value} {od_box_fault an_box_fault : Option Addr} {sl_box_fault : Array (Option Value)} {kV_box_fault dc_box_fault pm_box_fault cd_box_fault ct_box_fault : Value}
  {f_count_boxes : Addr} {oc_count_boxes : Value} {od_count_boxes an_count_boxes : Option Addr} {sl_count_boxes : Array (Option Value)} {kV_count_boxes dc_count_boxes pm_count_boxes cd_count_boxes ct_count_boxes : Value}
  {f_box_at : Addr} {oc_box_at : Value} {od_box_at an_box_at : Option Addr} {sl_box_at : Array (Option Value)} {kV_box_at dc_box_at pm_box_at cd_box_at ct_box_at : Value}
  {f__check_box : Addr} {oc__check_box : Value} {od__check_box an__check_box : Option Addr} {sl__check_box : Array (Option Value)} {kV__check_box dc__check_box pm__check_box cd__check_box ct__check_box : Value}
  {f_number_of_box : Addr} {oc_number_of_box : Value} {od_number_of_box an_number_of_box : Option Addr} {sl_number_of_box : Array (Option Value)} {kV_number_of_box dc_number_of_box pm_number_of_box cd_number_of_box ct_number_of_box : Value}
  {f_next_box : Addr} {oc_next_box : Value} {od_next_box an_next_box : Option Addr} {sl_next_box : Array (Option Value)} {kV_next_box dc_next_box pm_next_box cd_next_box ct_next_box : Value}
  {f_boxes_from : Addr} {oc_boxes_from : Value} {od_boxes_from an_boxes_from : Option Addr} {sl_boxes_from : Array (Option Value)} {kV_boxes_from dc_boxes_from pm_boxes_from cd_boxes_from ct_boxes_from : Value}
  {f_never_needed : Addr} {oc_never_needed : Value} {od_never_needed an_never_needed : Option Addr} {sl_never_needed : Array (Option Value)} {kV_never_needed dc_never_needed pm_never_needed cd_never_needed ct_never_needed : Value}
  {f__law_refused : Addr} {oc__law_refused : Value} {od__law_refused an__law_refused : Option Addr} {sl__law_refused : Array (Option Value)} {kV__law_refused dc__law_refused pm__law_refused cd__law_refused ct__law_refused : Value}
  {f__law_boxes : Addr} {oc__law_boxes : Value} {od__law_boxes an__law_boxes : Option Addr} {sl__law_boxes : Array (Option Value)} {kV__law_boxes dc__law_boxes pm__law_boxes cd__law_boxes ct__law_boxes : Value}
  {f__law_due : Addr} {oc__law_due : Value} {od__law_due an__law_due : Option Addr} {sl__law_due : Array (Option Value)} {kV__law_due dc__law_due pm__law_due cd__law_due ct__law_due : Value}
  {f_law : Addr} {oc_law : Value} {od_law an_law : Option Addr} {sl_law : Array (Option Value)} {kV_law dc_law pm_law cd_law ct_law : Value}
  {C0 : Addr} {C1 : Addr}
  (z_abs : PySem.W.nsIn K mainGlobals "abs" = some none)
  (z_all : PySem.W.nsIn K mainGlobals "all" = some none)
  (z_any : PySem.W.nsIn K mainGlobals "any" = some none)
  (z_bool : PySem.W.nsIn K mainGlobals "bool" = some none)
  (z_enumerate : PySem.W.nsIn K mainGlobals "enumerate" = some none)
  (z_int : PySem.W.nsIn K mainGlobals "int" = some none)
  (z_isinstance : PySem.W.nsIn K mainGlobals "isinstance" = some none)
  (z_len : PySem.W.nsIn K mainGlobals "len" = some none)
  (z_list : PySem.W.nsIn K mainGlobals "list" = some none)
  (z_min : PySem.W.nsIn K mainGlobals "min" = some none)
  (z_range : PySem.W.nsIn K mainGlobals "range" = some none)
  (z_set : PySem.W.nsIn K mainGlobals "set" = some none)
  (z_sorted : PySem.W.nsIn K mainGlobals "sorted" = some none)
  (z_sum : PySem.W.nsIn K mainGlobals "sum" = some none)
  (z_tuple : PySem.W.nsIn K mainGlobals "tuple" = some none)
  (z_zip : PySem.W.nsIn K mainGlobals "zip" = some none)
  (v_FORM : PySem.W.nsIn K mainGlobals "FORM" = some (some (.ref a_FORM)))
  (l_FORM : K.lookup a_FORM = some ⟨.type "tuple", od_FORM, .seq #[.str "form" tk_FORM_0] n_FORM, sl_FORM⟩)
  (v_MOST_KINDS : PySem.W.nsIn K mainGlobals "MOST_KINDS" = some (some (.int 6 tk_MOST_KINDS)))
  (v_MOST_SIZE : PySem.W.nsIn K mainGlobals "MOST_SIZE" = some (some (.int 12 tk_MOST_SIZE)))
  (a__law_draws : PySem.W.nsIn K mainGlobals "_law_draws" = some (some (.ref f__law_draws)))
  (l__law_draws : K.lookup f__law_draws = some ⟨oc__law_draws, od__law_draws, .func (PySem.W.fnOf "_law_draws" "_law_draws" (defArgs s__law_draws) (defBody s__law_draws) (defScope s__law_draws) .none kV__law_draws dc__law_draws pm__law_draws an__law_draws cd__law_draws ct__law_draws), sl__law_draws⟩)
  (c__law_draws : PySem.W.codeIn K cd__law_draws "_law_draws" = true) (k__law_draws : PySem.W.keepIn K (.ref f__law_draws) = true)
  (a__law_rules : PySem.W.nsIn K mainGlobals "_law_rules" = some (some (.ref f__law_rules)))
  (l__law_rules : K.lookup f__law_rules = some ⟨oc__law_rules, od__law_rules, .func (PySem.W.fnOf "_law_rules" "_law_rules" (defArgs s__law_rules) (defBody s__law_rules) (defScope s__law_rules) .none kV__law_rules dc__law_rules pm__law_rules an__law_rules cd__law_rules ct__law_rules), sl__law_rules⟩)
  (c__law_rules : PySem.W.codeIn K cd__law_rules "_law_rules" = true) (k__law_rules : PySem.W.keepIn K (.ref f__law_rules) = true)
  (a__law_is_number : PySem.W.nsIn K mainGlobals "_law_is_number" = some (some (.ref f__law_is_number)))
  (l__law_is_number : K.lookup f__law_is_number = some ⟨oc__law_is_number, od__law_is_number, .func (PySem.W.fnOf "_law_is_number" "_law_is_number" (defArgs s__law_is_number) (defBody s__law_is_number) (defScope s__law_is_number) .none kV__law_is_number dc__law_is_number pm__law_is_number an__law_is_number cd__law_is_number ct__law_is_number), sl__law_is_number⟩)
  (c__law_is_number : PySem.W.codeIn K cd__law_is_number "_law_is_number" = true) (k__law_is_number : PySem.W.keepIn K (.ref f__law_is_number) = true)
  (a__law_are_rules : PySem.W.nsIn K mainGlobals "_law_are_rules" = some (some (.ref f__law_are_rules)))
  (l__law_are_rules : K.lookup f__law_are_rules = some ⟨oc__law_are_rules, od__law_are_rules, .func (PySem.W.fnOf "_law_are_rules" "_law_are_rules" (defArgs s__law_are_rules) (defBody s__law_are_rules) (defScope s__law_are_rules) .none kV__law_are_rules dc__law_are_rules pm__law_are_rules an__law_are_rules cd__law_are_rules ct__law_are_rules), sl__law_are_rules⟩)
  (c__law_are_rules : PySem.W.codeIn K cd__law_are_rules "_law_are_rules" = true) (k__law_are_rules : PySem.W.keepIn K (.ref f__law_are_rules) = true)
  (a_is_whole : PySem.W.nsIn K mainGlobals "is_whole" = some (some (.ref f_is_whole)))
  (l_is_whole : K.lookup f_is_whole = some ⟨oc_is_whole, od_is_whole, .func (PySem.W.fnOf "is_whole" "is_whole" (defArgs s_is_whole) (defBody s_is_whole) (defScope s_is_whole) .none kV_is_whole dc_is_whole pm_is_whole an_is_whole cd_is_whole ct_is_whole), sl_is_whole⟩)
  (c_is_whole : PySem.W.codeIn K cd_is_whole "is_whole" = true) (k_is_whole : PySem.W.keepIn K (.ref f_is_whole) = true)
  (a__are_bounds : PySem.W.nsIn K mainGlobals "_are_bounds" = some (some (.ref f__are_bounds)))
  (l__are_bounds : K.lookup f__are_bounds = some ⟨oc__are_bounds, od__are_bounds, .func (PySem.W.fnOf "_are_bounds" "_are_bounds" (defArgs s__are_bounds) (defBody s__are_bounds) (defScope s__are_bounds) .none kV__are_bounds dc__are_bounds pm__are_bounds an__are_bounds cd__are_bounds ct__are_bounds), sl__are_bounds⟩)
  (c__are_bounds : PySem.W.codeIn K cd__are_bounds "_are_bounds" = true) (k__are_bounds : PySem.W.keepIn K (.ref f__are_bounds) = true)
  (a__is_pair : PySem.W.nsIn K mainGlobals "_is_pair" = some (some (.ref f__is_pair)))
  (l__is_pair : K.lookup f__is_pair = some ⟨oc__is_pair, od__is_pair, .func (PySem.W.fnOf "_is_pair" "_is_pair" (defArgs s__is_pair) (defBody s__is_pair) (defScope s__is_pair) .none kV__is_pair dc__is_pair pm__is_pair an__is_pair cd__is_pair ct__is_pair), sl__is_pair⟩)
  (c__is_pair : PySem.W.codeIn K cd__is_pair "_is_pair" = true) (k__is_pair : PySem.W.keepIn K (.ref f__is_pair) = true)
  (a_ascends : PySem.W.nsIn K mainGlobals "ascends" = some (some (.ref f_ascends)))
  (l_ascends : K.lookup f_ascends = some ⟨oc_ascends, od_ascends, .func (PySem.W.fnOf "ascends" "ascends" (defArgs s_ascends) (defBody s_ascends) (defScope s_ascends) .none kV_ascends dc_ascends pm_ascends an_ascends cd_ascends ct_ascends), sl_ascends⟩)
  (c_ascends : PySem.W.codeIn K cd_ascends "ascends" = true) (k_ascends : PySem.W.keepIn K (.ref f_ascends) = true)
  (a_are_box_rules : PySem.W.nsIn K mainGlobals "are_box_rules" = some (some (.ref f_are_box_rules)))
  (l_are_box_rules : K.lookup f_are_box_rules = some ⟨oc_are_box_rules, od_are_box_rules, .func (PySem.W.fnOf "are_box_rules" "are_box_rules" (defArgs s_are_box_rules) (defBody s_are_box_rules) (defScope s_are_box_rules) .none kV_are_box_rules dc_are_box_rules pm_are_box_rules an_are_box_rules cd_are_box_rules ct_are_box_rules), sl_are_box_rules⟩)
  (c_are_box_rules : PySem.W.codeIn K cd_are_box_rules "are_box_rules" = true) (k_are_box_rules : PySem.W.keepIn K (.ref f_are_box_rules) = true)
  (a_check_box_rules : PySem.W.nsIn K mainGlobals "check_box_rules" = some (some (.ref f_check_box_rules)))
  (l_check_box_rules : K.lookup f_check_box_rules = some ⟨oc_check_box_rules, od_check_box_rules, .func (PySem.W.fnOf "check_box_rules" "check_box_rules" (defArgs s_check_box_rules) (defBody s_check_box_rules) (defScope s_check_box_rules) .none kV_check_box_rules dc_check_box_rules pm_check_box_rules an_check_box_rules cd_check_box_rules ct_check_box_rules), sl_check_box_rules⟩)
  (c_check_box_rules : PySem.W.codeIn K cd_check_box_rules "check_box_rules" = true) (k_check_box_rules : PySem.W.keepIn K (.ref f_check_box_rules) = true)
  (a_fault_in : PySem.W.nsIn K mainGlobals "fault_in" = some (some (.ref f_fault_in)))
  (l_fault_in : K.lookup f_fault_in = some ⟨oc_fault_in, od_fault_in, .func (PySem.W.fnOf "fault_in" "fault_in" (defArgs s_fault_in) (defBody s_fault_in) (defScope s_fault_in) .none kV_fault_in dc_fault_in pm_fault_in an_fault_in cd_fault_in ct_fault_in), sl_fault_in⟩)
  (c_fault_in : PySem.W.codeIn K cd_fault_in "fault_in" = true) (k_fault_in : PySem.W.keepIn K (.ref f_fault_in) = true)
  (a_box_fault : PySem.W.nsIn K mainGlobals "box_fault" = some (some (.ref f_box_fault)))
  (l_box_fault : K.lookup f_box_fault = some ⟨oc_box_fault, od_box_fault, .func (PySem.W.fnOf "box_fault" "box_fault" (defArgs s_box_fault) (defBody s_box_fault) (defScope s_box_fault) .none kV_box_fault dc_box_fault pm_box_fault an_box_fault cd_box_fault ct_box_fault), sl_box_fault⟩)
  (c_box_fault : PySem.W.codeIn K cd_box_fault "box_fault" = true) (k_box_fault : PySem.W.keepIn K (.ref f_box_fault) = true)
  (a_count_boxes : PySem.W.nsIn K mainGlobals "count_boxes" = some (some (.ref f_count_boxes)))
  (l_count_boxes : K.lookup f_count_boxes = some ⟨oc_count_boxes, od_count_boxes, .func (PySem.W.fnOf "count_boxes" "count_boxes" (defArgs s_count_boxes) (defBody s_count_boxes) (defScope s_count_boxes) .none kV_count_boxes dc_count_boxes pm_count_boxes an_count_boxes cd_count_boxes ct_count_boxes), sl_count_boxes⟩)
  (c_count_boxes : PySem.W.codeIn K cd_count_boxes "count_boxes" = true) (k_count_boxes : PySem.W.keepIn K (.ref f_count_boxes) = true)
  (a_box_at : PySem.W.nsIn K mainGlobals "box_at" = some (some (.ref f_box_at)))
  (l_box_at : K.lookup f_box_at = some ⟨oc_box_at, od_box_at, .func (PySem.W.fnOf "box_at" "box_at" (defArgs s_box_at) (defBody s_box_at) (defScope s_box_at) .none kV_box_at dc_box_at pm_box_at an_box_at cd_box_at ct_box_at), sl_box_at⟩)
  (c_box_at : PySem.W.codeIn K cd_box_at "box_at" = true) (k_box_at : PySem.W.keepIn K (.ref f_box_at) = true)
  (a__check_box : PySem.W.nsIn K mainGlobals "_check_box" = some (some (.ref f__check_box)))
  (l__check_box : K.lookup f__check_box = some ⟨oc__check_box, od__check_box, .func (PySem.W.fnOf "_check_box" "_check_box" (defArgs s__check_box) (defBody s__check_box) (defScope s__check_box) .none kV__check_box dc__check_box pm__check_box an__check_box cd__check_box ct__check_box), sl__check_box⟩)
  (c__check_box : PySem.W.codeIn K cd__check_box "_check_box" = true) (k__check_box : PySem.W.keepIn K (.ref f__check_box) = true)
  (a_number_of_box : PySem.W.nsIn K mainGlobals "number_of_box" = some (some (.ref f_number_of_box)))
  (l_number_of_box : K.lookup f_number_of_box = some ⟨oc_number_of_box, od_number_of_box, .func (PySem.W.fnOf "number_of_box" "number_of_box" (defArgs s_number_of_box) (defBody s_number_of_box) (defScope s_number_of_box) .none kV_number_of_box dc_number_of_box pm_number_of_box an_number_of_box cd_number_of_box ct_number_of_box), sl_number_of_box⟩)
  (c_number_of_box : PySem.W.codeIn K cd_number_of_box "number_of_box" = true) (k_number_of_box : PySem.W.keepIn K (.ref f_number_of_box) = true)
  (a_next_box : PySem.W.nsIn K mainGlobals "next_box" = some (some (.ref f_next_box)))
  (l_next_box : K.lookup f_next_box = some ⟨oc_next_box, od_next_box, .func (PySem.W.fnOf "next_box" "next_box" (defArgs s_next_box) (defBody s_next_box) (defScope s_next_box) .none kV_next_box dc_next_box pm_next_box an_next_box cd_next_box ct_next_box), sl_next_box⟩)
  (c_next_box : PySem.W.codeIn K cd_next_box "next_box" = true) (k_next_box : PySem.W.keepIn K (.ref f_next_box) = true)
  (a_boxes_from : PySem.W.nsIn K mainGlobals "boxes_from" = some (some (.ref f_boxes_from)))
  (l_boxes_from : K.lookup f_boxes_from = some ⟨oc_boxes_from, od_boxes_from, .func (PySem.W.fnOf "boxes_from" "boxes_from" (defArgs s_boxes_from) (defBody s_boxes_from) (defScope s_boxes_from) .none kV_boxes_from dc_boxes_from pm_boxes_from an_boxes_from cd_boxes_from ct_boxes_from), sl_boxes_from⟩)
  (c_boxes_from : PySem.W.codeIn K cd_boxes_from "boxes_from" = true) (k_boxes_from : PySem.W.keepIn K (.ref f_boxes_from) = true)
  (a_never_needed : PySem.W.nsIn K mainGlobals "never_needed" = some (some (.ref f_never_needed)))
  (l_never_needed : K.lookup f_never_needed = some ⟨oc_never_needed, od_never_needed, .func (PySem.W.fnOf "never_needed" "never_needed" (defArgs s_never_needed) (defBody s_never_needed) (defScope s_never_needed) .none kV_never_needed dc_never_needed pm_never_needed an_never_needed cd_never_needed ct_never_needed), sl_never_needed⟩)
  (c_never_needed : PySem.W.codeIn K cd_never_needed "never_needed" = true) (k_never_needed : PySem.W.keepIn K (.ref f_never_needed) = true)
  (a__law_refused : PySem.W.nsIn K mainGlobals "_law_refused" = some (some (.ref f__law_refused)))
  (l__law_refused : K.lookup f__law_refused = some ⟨oc__law_refused, od__law_refused, .func (PySem.W.fnOf "_law_refused" "_law_refused" (defArgs s__law_refused) (defBody s__law_refused) (defScope s__law_refused) .none kV__law_refused dc__law_refused pm__law_refused an__law_refused cd__law_refused ct__law_refused), sl__law_refused⟩)
  (c__law_refused : PySem.W.codeIn K cd__law_refused "_law_refused" = true) (k__law_refused : PySem.W.keepIn K (.ref f__law_refused) = true)
  (a__law_boxes : PySem.W.nsIn K mainGlobals "_law_boxes" = some (some (.ref f__law_boxes)))
  (l__law_boxes : K.lookup f__law_boxes = some ⟨oc__law_boxes, od__law_boxes, .func (PySem.W.fnOf "_law_boxes" "_law_boxes" (defArgs s__law_boxes) (defBody s__law_boxes) (defScope s__law_boxes) .none kV__law_boxes dc__law_boxes pm__law_boxes an__law_boxes cd__law_boxes ct__law_boxes), sl__law_boxes⟩)
  (c__law_boxes : PySem.W.codeIn K cd__law_boxes "_law_boxes" = true) (k__law_boxes : PySem.W.keepIn K (.ref f__law_boxes) = true)
  (a__law_due : PySem.W.nsIn K mainGlobals "_law_due" = some (some (.ref f__law_due)))
  (l__law_due : K.lookup f__law_due = some ⟨oc__law_due, od__law_due, .func (PySem.W.fnOf "_law_due" "_law_due" (defArgs s__law_due) (defBody s__law_due) (defScope s__law_due) .none kV__law_due dc__law_due pm__law_due an__law_due cd__law_due ct__law_due), sl__law_due⟩)
  (c__law_due : PySem.W.codeIn K cd__law_due "_law_due" = true) (k__law_due : PySem.W.keepIn K (.ref f__law_due) = true)
  (a_law : PySem.W.nsIn K mainGlobals "law" = some (some (.ref f_law)))
  (l_law : K.lookup f_law = some ⟨oc_law, od_law, .func (PySem.W.fnOf "law" "law" (defArgs s_law) (defBody s_law) (defScope s_law) .none kV_law dc_law pm_law an_law cd_law ct_law), sl_law⟩)
  (c_law : PySem.W.codeIn K cd_law "law" = true) (k_law : PySem.W.keepIn K (.ref f_law) = true)
  (aC0 : PySem.W.nsIn K mainGlobals "BakeError" = some (some (.ref C0)))
  (bC0 : PySem.W.subIn K (.ref C0) (.type "BaseException") = some true) (tC0 : PySem.W.typeIn K (.ref C0) = some (.type "type"))
  (aC1 : PySem.W.nsIn K mainGlobals "BadBoxRules" = some (some (.ref C1)))
  (bC1 : PySem.W.subIn K (.ref C1) (.type "BaseException") = some true) (tC1 : PySem.W.typeIn K (.ref C1) = some (.type "type"))
  (xC1 : PySem.W.excIn K C1 [.type "ValueError", .type "Exception", .type "BaseException", .type "object"] "ValueError.__new__" = true) (kC1 : PySem.W.keepIn K (.ref C1) = true)
  (hC0 : PySem.W.hasDictIn K C0 = true)
  (s1_0 : PySem.W.subIn K (.ref C1) (.ref C0) = some true)
  (g1_1 : PySem.W.findIn K (.ref C1) "__getattribute__" = some (some (.builtin "BaseException.__getattribute__"))) (g2_1 : PySem.W.findIn K (.ref C1) "__getattr__" = some none) (g3_1 : PySem.W.hasDictIn K C1 = true) (g4_1 : PySem.W.findIn K (.ref C1) "__class__" = some (some (.builtin "object.__class__"))) (g5_1 : PySem.W.specialIn K (.builtin "object.__class__") "__get__" = some (some (.builtin "getset_descriptor.__get__"))) (g6_1 : PySem.W.takesIn K (.builtin "object.__class__") = some true) (g7_1 : PySem.W.mroIn K C1 (.type "object") = some true) : Fx K mg (ctL [C0, C1]) where
  b_abs := PySem.W.mg_none_of X G z_abs
  b_all := PySem.W.mg_none_of X G z_all
  b_any := PySem.W.mg_none_of X G z_any
  b_bool := PySem.W.mg_none_of X G z_bool
  b_enumerate := PySem.W.mg_none_of X G z_enumerate
  b_int := PySem.W.mg_none_of X G z_int
  b_isinstance := PySem.W.mg_none_of X G z_isinstance
  b_len := PySem.W.mg_none_of X G z_len
  b_list := PySem.W.mg_none_of X G z_list
  b_min := PySem.W.mg_none_of X G z_min
  b_range := PySem.W.mg_none_of X G z_range
  b_set := PySem.W.mg_none_of X G z_set
  b_sorted := PySem.W.mg_none_of X G z_sorted
  b_sum := PySem.W.mg_none_of X G z_sum
  b_tuple := PySem.W.mg_none_of X G z_tuple
  b_zip := PySem.W.mg_none_of X G z_zip
  g_FORM := ⟨.ref a_FORM, .ref a_FORM, PySem.W.mg_of X G v_FORM, rfl, fun _ _ => .tup (xs := [V.str "form"]) (.inr ⟨_, #[.str "form" tk_FORM_0], n_FORM, l_FORM, rfl, rfl, by (show 1 ≤ sizeLine); rw [sizeLine_eq]; decide, (.cons ⟨tk_FORM_0, rfl⟩ .nil)⟩) (.cons (.str _) .nil)⟩
  g_MOST_KINDS := ⟨.int 6, .int 6 tk_MOST_KINDS, PySem.W.mg_of X G v_MOST_KINDS, ⟨tk_MOST_KINDS, rfl⟩, fun _ _ => .int 6⟩
  g_MOST_SIZE := ⟨.int 12, .int 12 tk_MOST_SIZE, PySem.W.mg_of X G v_MOST_SIZE, ⟨tk_MOST_SIZE, rfl⟩, fun _ _ => .int 12⟩
  d__law_draws := ⟨f__law_draws, _, fun_mk (st := s__law_draws) l__law_draws c__law_draws k__law_draws, PySem.W.mg_of X G a__law_draws, (fun_mk (st := s__law_draws) l__law_draws c__law_draws k__law_draws).binds (ps := ["script", "many"]) fun _ _ _ _ _ _ us hl => match us, hl with | [_, _], _ => rfl⟩
  d__law_rules := ⟨f__law_rules, _, fun_mk (st := s__law_rules) l__law_rules c__law_rules k__law_rules, PySem.W.mg_of X G a__law_rules, (fun_mk (st := s__law_rules) l__law_rules c__law_rules k__law_rules).binds (ps := ["draws"]) fun _ _ _ _ _ _ us hl => match us, hl with | [_], _ => rfl⟩
  d__law_is_number := ⟨f__law_is_number, _, fun_mk (st := s__law_is_number) l__law_is_number c__law_is_number k__law_is_number, PySem.W.mg_of X G a__law_is_number, (fun_mk (st := s__law_is_number) l__law_is_number c__law_is_number k__law_is_number).binds (ps := ["value", "least", "most"]) fun _ _ _ _ _ _ us hl => match us, hl with | [_, _, _], _ => rfl⟩
  d__law_are_rules := ⟨f__law_are_rules, _, fun_mk (st := s__law_are_rules) l__law_are_rules c__law_are_rules k__law_are_rules, PySem.W.mg_of X G a__law_are_rules, (fun_mk (st := s__law_are_rules) l__law_are_rules c__law_are_rules k__law_are_rules).binds (ps := ["value"]) fun _ _ _ _ _ _ us hl => match us, hl with | [_], _ => rfl⟩
  d_is_whole := ⟨f_is_whole, _, fun_mk (st := s_is_whole) l_is_whole c_is_whole k_is_whole, PySem.W.mg_of X G a_is_whole, (fun_mk (st := s_is_whole) l_is_whole c_is_whole k_is_whole).binds (ps := ["value", "least", "most"]) fun _ _ _ _ _ _ us hl => match us, hl with | [_, _, _], _ => rfl⟩
  d__are_bounds := ⟨f__are_bounds, _, fun_mk (st := s__are_bounds) l__are_bounds c__are_bounds k__are_bounds, PySem.W.mg_of X G a__are_bounds, (fun_mk (st := s__are_bounds) l__are_bounds c__are_bounds k__are_bounds).binds (ps := ["value"]) fun _ _ _ _ _ _ us hl => match us, hl with | [_], _ => rfl⟩
  d__is_pair := ⟨f__is_pair, _, fun_mk (st := s__is_pair) l__is_pair c__is_pair k__is_pair, PySem.W.mg_of X G a__is_pair, (fun_mk (st := s__is_pair) l__is_pair c__is_pair k__is_pair).binds (ps := ["kinds", "value"]) fun _ _ _ _ _ _ us hl => match us, hl with | [_, _], _ => rfl⟩
  d_ascends := ⟨f_ascends, _, fun_mk (st := s_ascends) l_ascends c_ascends k_ascends, PySem.W.mg_of X G a_ascends, (fun_mk (st := s_ascends) l_ascends c_ascends k_ascends).binds (ps := ["values"]) fun _ _ _ _ _ _ us hl => match us, hl with | [_], _ => rfl⟩
  d_are_box_rules := ⟨f_are_box_rules, _, fun_mk (st := s_are_box_rules) l_are_box_rules c_are_box_rules k_are_box_rules, PySem.W.mg_of X G a_are_box_rules, (fun_mk (st := s_are_box_rules) l_are_box_rules c_are_box_rules k_are_box_rules).binds (ps := ["value"]) fun _ _ _ _ _ _ us hl => match us, hl with | [_], _ => rfl⟩
  d_check_box_rules := ⟨f_check_box_rules, _, fun_mk (st := s_check_box_rules) l_check_box_rules c_check_box_rules k_check_box_rules, PySem.W.mg_of X G a_check_box_rules, (fun_mk (st := s_check_box_rules) l_check_box_rules c_check_box_rules k_check_box_rules).binds (ps := ["rules"]) fun _ _ _ _ _ _ us hl => match us, hl with | [_], _ => rfl⟩
  d_fault_in := ⟨f_fault_in, _, fun_mk (st := s_fault_in) l_fault_in c_fault_in k_fault_in, PySem.W.mg_of X G a_fault_in, (fun_mk (st := s_fault_in) l_fault_in c_fault_in k_fault_in).binds (ps := ["rules", "box"]) fun _ _ _ _ _ _ us hl => match us, hl with | [_, _], _ => rfl⟩
  d_box_fault := ⟨f_box_fault, _, fun_mk (st := s_box_fault) l_box_fault c_box_fault k_box_fault, PySem.W.mg_of X G a_box_fault, (fun_mk (st := s_box_fault) l_box_fault c_box_fault k_box_fault).binds (ps := ["rules", "box"]) fun _ _ _ _ _ _ us hl => match us, hl with | [_, _], _ => rfl⟩
  d_count_boxes := ⟨f_count_boxes, _, fun_mk (st := s_count_boxes) l_count_boxes c_count_boxes k_count_boxes, PySem.W.mg_of X G a_count_boxes, (fun_mk (st := s_count_boxes) l_count_boxes c_count_boxes k_count_boxes).binds (ps := ["rules"]) fun _ _ _ _ _ _ us hl => match us, hl with | [_], _ => rfl⟩
  d_box_at := ⟨f_box_at, _, fun_mk (st := s_box_at) l_box_at c_box_at k_box_at, PySem.W.mg_of X G a_box_at, (fun_mk (st := s_box_at) l_box_at c_box_at k_box_at).binds (ps := ["rules", "number"]) fun _ _ _ _ _ _ us hl => match us, hl with | [_, _], _ => rfl⟩
  d__check_box := ⟨f__check_box, _, fun_mk (st := s__check_box) l__check_box c__check_box k__check_box, PySem.W.mg_of X G a__check_box, (fun_mk (st := s__check_box) l__check_box c__check_box k__check_box).binds (ps := ["rules", "box"]) fun _ _ _ _ _ _ us hl => match us, hl with | [_, _], _ => rfl⟩
  d_number_of_box := ⟨f_number_of_box, _, fun_mk (st := s_number_of_box) l_number_of_box c_number_of_box k_number_of_box, PySem.W.mg_of X G a_number_of_box, (fun_mk (st := s_number_of_box) l_number_of_box c_number_of_box k_number_of_box).binds (ps := ["rules", "box"]) fun _ _ _ _ _ _ us hl => match us, hl with | [_, _], _ => rfl⟩
  d_next_box := ⟨f_next_box, _, fun_mk (st := s_next_box) l_next_box c_next_box k_next_box, PySem.W.mg_of X G a_next_box, (fun_mk (st := s_next_box) l_next_box c_next_box k_next_box).binds (ps := ["rules", "box"]) fun _ _ _ _ _ _ us hl => match us, hl with | [_, _], _ => rfl⟩
  d_boxes_from := ⟨f_boxes_from, _, fun_mk (st := s_boxes_from) l_boxes_from c_boxes_from k_boxes_from, PySem.W.mg_of X G a_boxes_from, (fun_mk (st := s_boxes_from) l_boxes_from c_boxes_from k_boxes_from).binds (ps := ["rules", "number", "many"]) fun _ _ _ _ _ _ us hl => match us, hl with | [_, _, _], _ => rfl⟩
  d_never_needed := ⟨f_never_needed, _, fun_mk (st := s_never_needed) l_never_needed c_never_needed k_never_needed, PySem.W.mg_of X G a_never_needed, (fun_mk (st := s_never_needed) l_never_needed c_never_needed k_never_needed).binds (ps := ["rules"]) fun _ _ _ _ _ _ us hl => match us, hl with | [_], _ => rfl⟩
  d__law_refused := ⟨f__law_refused, _, fun_mk (st := s__law_refused) l__law_refused c__law_refused k__law_refused, PySem.W.mg_of X G a__law_refused, (fun_mk (st := s__law_refused) l__law_refused c__law_refused k__law_refused).binds (ps := ["way", "rules"]) fun _ _ _ _ _ _ us hl => match us, hl with | [_, _], _ => rfl⟩
  d__law_boxes := ⟨f__law_boxes, _, fun_mk (st := s__law_boxes) l__law_boxes c__law_boxes k__law_boxes, PySem.W.mg_of X G a__law_boxes, (fun_mk (st := s__law_boxes) l__law_boxes c__law_boxes k__law_boxes).binds (ps := ["rules"]) fun _ _ _ _ _ _ us hl => match us, hl with | [_], _ => rfl⟩
  d__law_due := ⟨f__law_due, _, fun_mk (st := s__law_due) l__law_due c__law_due k__law_due, PySem.W.mg_of X G a__law_due, (fun_mk (st := s__law_due) l__law_due c__law_due k__law_due).binds (ps := ["rules", "value"]) fun _ _ _ _ _ _ us hl => match us, hl with | [_, _], _ => rfl⟩
  d_law := ⟨f_law, _, fun_mk (st := s_law) l_law c_law k_law, PySem.W.mg_of X G a_law, (fun_mk (st := s_law) l_law c_law k_law).binds (ps := ["script"]) fun _ _ _ _ _ _ us hl => match us, hl with | [_], _ => rfl⟩
  x_BadBoxRules := ⟨⟨C1, rfl, xC1, PySem.W.mg_of X G aC1, kC1, bC1, tC1⟩⟩
  n_BadBoxRules := PySem.W.mg_of X G aC1
  n_BakeError := PySem.W.mg_of X G aC0
  p_BakeError := fun n b e => match n, e with | 0, e => by cases e | 1, e => by cases e; exact PySem.W.exm_ref bC0 hC0 tC0 s1_0 | _ + 2, e => by cases e
  i_BadBoxRules := fun n b e => match n, e with | 0, e => by cases e | 1, e => by cases e; exact ⟨C1, rfl, ⟨g1_1, g2_1, bC1, g3_1, g4_1, g5_1, g6_1, g7_1⟩, by (show (if (Value.ref C1 == Value.ref C1) = true then some true else _) = _); rw [if_pos (by simp)]⟩ | _ + 2, e => by cases e
def spLaw (K : PySem.W.Frag) : Sp := fun vs H Q _ => ∃ (a : Addr) (ns : List Int), vs = [.ref a] ∧ ((∃ o, H a = some (.frz o (.lst (ns.map V.int)))) ∨ ∀ H, SqL K H a (ns.map V.int)) ∧ ns.length ≤ 63 ∧ ∀ H', Q (.bl true) H'
theorem law_imp {P : Program} {w : World} {K : PySem.W.Frag} {mg : Str → Option Value} {base : Heap} {ct : CT} {f : Addr} {fd : FuncData} (h : FnOk P w K mg base (L2.CX P w) 8 f fd ["script"] (spW ct K ["script"].length (fnW N_law.length b_law))) : FnOk P w K mg base (L2.CX P w) 8 f fd ["script"] (spLaw K) :=
  h.imp fun vs H Q E ⟨a, ns, e, hs, hl, q⟩ => by
    subst e
    refine ⟨fun _ => False, [some (.r ns)], rfl, fun _ z => z.elim, .so (f := []) (.r hs) .nil, ?_⟩
    have e : fnW N_law.length b_law [some (.r ns)] = .ok (.bool true) := m_law_ok ns hl
    rw [e]
    intro v H' Fz' _ _ _ r
    cases r
    exact q H'
set_option maxHeartbeats 8000000 in
theorem all_mk {P : Program} {w : World} {fa : Addr} {K : PySem.W.Frag} {h : Heap} {mg : Str → Option Value} (X : K.In h) (G : h.Ns mainGlobals mg)
  {a_FORM : Addr} {od_FORM : Option Addr} {n_FORM : Nat} {sl_FORM : Array (Option Value)} {tk_FORM_0 : Tok}
  {tk_MOST_KINDS : Tok}
  {tk_MOST_SIZE : Tok}
  {f__law_draws : Addr} {oc__law_draws : Value} {od__law_draws an__law_draws : Option Addr} {sl__law_draws : Array (Option Value)} {kV__law_draws dc__law_draws pm__law_draws cd__law_draws ct__law_draws : Value}
  {f__law_rules : Addr} {oc__law_rules : Value} {od__law_rules an__law_rules : Option Addr} {sl__law_rules : Array (Option Value)} {kV__law_rules dc__law_rules pm__law_rules cd__law_rules ct__law_rules : Value}
  {f__law_is_number : Addr} {oc__law_is_number : Value} {od__law_is_number an__law_is_number : Option Addr} {sl__law_is_number : Array (Option Value)} {kV__law_is_number dc__law_is_number pm__law_is_number cd__law_is_number ct__law_is_number : Value}
  {f__law_are_rules : Addr} {oc__law_are_rules : Value} {od__law_are_rules an__law_are_rules : Option Addr} {sl__law_are_rules : Array (Option Value)} {kV__law_are_rules dc__law_are_rules pm__law_are_rules cd__law_are_rules ct__law_are_rules : Value}
  {f_is_whole : Addr} {oc_is_whole : Value} {od_is_whole an_is_whole : Option Addr} {sl_is_whole : Array (Option Value)} {kV_is_whole dc_is_whole pm_is_whole cd_is_whole ct_is_whole : Value}
  {f__are_bounds : Addr} {oc__are_bounds : Value} {od__are_bounds an__are_bounds : Option Addr} {sl__are_bounds : Array (Option Value)} {kV__are_bounds dc__are_bounds pm__are_bounds cd__are_bounds ct__are_bounds : Value}
  {f__is_pair : Addr} {oc__is_pair : Value} {od__is_pair an__is_pair : Option Addr} {sl__is_pair : Array (Option Value)} {kV__is_pair dc__is_pair pm__is_pair cd__is_pair ct__is_pair : Value}
  {f_ascends : Addr} {oc_ascends : Value} {od_ascends an_ascends : Option Addr} {sl_ascends : Array (Option Value)} {kV_ascends dc_ascends pm_ascends cd_ascends ct_ascends : Value}
  {f_are_box_rules : Addr} {oc_are_box_rules : Value} {od_are_box_rules an_are_box_rules : Option Addr} {sl_are_box_rules : Array (Option Value)} {kV_are_box_rules dc_are_box_rules pm_are_box_rules cd_are_box_rules ct_are_box_rules : Value}
  {f_check_box_rules : Addr} {oc_check_box_rules : Value} {od_check_box_rules an_check_box_rules : Option Addr} {sl_check_box_rules : Array (Option Value)} {kV_check_box_rules dc_check_box_rules pm_check_box_rules cd_check_box_rules ct_check_box_rules : Value}
  {f_fault_in : Addr} {oc_fault_in : Value} {od_fault_in an_fault_in : Option Addr} {sl_fault_in : Array (Option Value)} {kV_fault_in dc_fault_in pm_fault_in cd_fault_in ct_fault_in : Value}
  {f_box_fault : Addr} {oc_box_fault : Value} {od_box_fault an_box_fault : Option Addr} {sl_box_fault : Array (Option Value)} {kV_box_fault dc_box_fault pm_box_fault cd_box_fault ct_box_fault : Value}
  {f_count_boxes : Addr} {oc_count_boxes : Value} {od_count_boxes an_count_boxes : Option Addr} {sl_count_boxes : Array (Option Value)} {kV_count_boxes dc_count_boxes pm_count_boxes cd_count_boxes ct_count_boxes : Value}
  {f_box_at : Addr} {oc_box_at : Value} {od_box_at an_box_at : Option Addr} {sl_box_at : Array (Option Value)} {kV_box_at dc_box_at pm_box_at cd_box_at ct_box_at : Value}
  {f__check_box : Addr} {oc__check_box : Value} {od__check_box an__check_box : Option Addr} {sl__check_box : Array (Option Value)} {kV__check_box dc__check_box pm__check_box cd__check_box ct__check_box : Value}
  {f_number_of_box : Addr} {oc_number_of_box : Value} {od_number_of_box an_number_of_box : Option Addr} {sl_number_of_box : Array (Option Value)} {kV_number_of_box dc_number_of_box pm_number_of_box cd_number_of_box ct_number_of_box : Value}
  {f_next_box : Addr} {oc_next_box : Value} {od_next_box an_next_box : Option Addr} {sl_next_box : Array (Option Value)} {kV_next_box dc_next_box pm_next_box cd_next_box ct_next_box : Value}
  {f_boxes_from : Addr} {oc_boxes_from : Value} {od_boxes_from an_boxes_from : Option Addr} {sl_boxes_from : Array (Option Value)} {kV_boxes_from dc_boxes_from pm_boxes_from cd_boxes_from ct_boxes_from : Value}
  {f_never_needed : Addr} {oc_never_needed : Value} {od_never_needed an_never_needed : Option Addr} {sl_never_needed : Array (Option Value)} {kV_never_needed dc_never_needed pm_never_needed cd_never_needed ct_never_needed : Value}
  {f__law_refused : Addr} {oc__law_refused : Value} {od__law_refused an__law_refused : Option Addr} {sl__law_refused : Array (Option Value)} {kV__law_refused dc__law_refused pm__law_refused cd__law_refused ct__law_refused : Value}
  {f__law_boxes : Addr} {oc__law_boxes : Value} {od__law_boxes an__law_boxes : Option Addr} {sl__law_boxes : Array (Option Value)} {kV__law_boxes dc__law_boxes pm__law_boxes cd__law_boxes ct__law_boxes : Value}
  {f__law_due : Addr} {oc__law_due : Value} {od__law_due an__law_due : Option Addr} {sl__law_due : Array (Option Value)} {kV__law_due dc__law_due pm__law_due cd__law_due ct__law_due : Value}
  {f_law : Addr} {oc_law : Value} {od_law an_law : Option Addr} {sl_law : Array (Option Value)} {kV_law dc_law pm_law cd_law ct_law : Value}
  {C0 : Addr} {C1 : Addr}
  (z_abs : PySem.W.nsIn K mainGlobals "abs" = some none)
  (z_all : PySem.W.nsIn K mainGlobals "all" = some none)
  (z_any : PySem.W.nsIn K mainGlobals "any" = some none)
  (z_bool : PySem.W.nsIn K mainGlobals "bool" = some none)
  (z_enumerate : PySem.W.nsIn K mainGlobals "enumerate" = some none)
  (z_int : PySem.W.nsIn K mainGlobals "int" = some none)
  (z_isinstance : PySem.W.nsIn K mainGlobals "isinstance" = some none)
  (z_len : PySem.W.nsIn K mainGlobals "len" = some none)
  (z_list : PySem.W.nsIn K mainGlobals "list" = some none)
  (z_min : PySem.W.nsIn K mainGlobals "min" = some none)
  (z_range : PySem.W.nsIn K mainGlobals "range" = some none)
  (z_set : PySem.W.nsIn K mainGlobals "set" = some none)
  (z_sorted : PySem.W.nsIn K mainGlobals "sorted" = some none)
  (z_sum : PySem.W.nsIn K mainGlobals "sum" = some none)
  (z_tuple : PySem.W.nsIn K mainGlobals "tuple" = some none)
  (z_zip : PySem.W.nsIn K mainGlobals "zip" = some none)
  (v_FORM : PySem.W.nsIn K mainGlobals "FORM" = some (some (.ref a_FORM)))
  (l_FORM : K.lookup a_FORM = some ⟨.type "tuple", od_FORM, .seq #[.str "form" tk_FORM_0] n_FORM, sl_FORM⟩)
  (v_MOST_KINDS : PySem.W.nsIn K mainGlobals "MOST_KINDS" = some (some (.int 6 tk_MOST_KINDS)))
  (v_MOST_SIZE : PySem.W.nsIn K mainGlobals "MOST_SIZE" = some (some (.int 12 tk_MOST_SIZE)))
  (a__law_draws : PySem.W.nsIn K mainGlobals "_law_draws" = some (some (.ref f__law_draws)))
  (l__law_draws : K.lookup f__law_draws = some ⟨oc__law_draws, od__law_draws, .func (PySem.W.fnOf "_law_draws" "_law_draws" (defArgs s__law_draws) (defBody s__law_draws) (defScope s__law_draws) .none kV__law_draws dc__law_draws pm__law_draws an__law_draws cd__law_draws ct__law_draws), sl__law_draws⟩)
  (c__law_draws : PySem.W.codeIn K cd__law_draws "_law_draws" = true) (k__law_draws : PySem.W.keepIn K (.ref f__law_draws) = true)
  (a__law_rules : PySem.W.nsIn K mainGlobals "_law_rules" = some (some (.ref f__law_rules)))
  (l__law_rules : K.lookup f__law_rules = some ⟨oc__law_rules, od__law_rules, .func (PySem.W.fnOf "_law_rules" "_law_rules" (defArgs s__law_rules) (defBody s__law_rules) (defScope s__law_rules) .none kV__law_rules dc__law_rules pm__law_rules an__law_rules cd__law_rules ct__law_rules), sl__law_rules⟩)
  (c__law_rules : PySem.W.codeIn K cd__law_rules "_law_rules" = true) (k__law_rules : PySem.W.keepIn K (.ref f__law_rules) = true)
  (a__law_is_number : PySem.W.nsIn K mainGlobals "_law_is_number" = some (some (.ref f__law_is_number)))
  (l__law_is_number : K.lookup f__law_is_number = some ⟨oc__law_is_number, od__law_is_number, .func (PySem.W.fnOf "_law_is_number" "_law_is_number" (defArgs s__law_is_number) (defBody s__law_is_number) (defScope s__law_is_number) .none kV__law_is_number dc__law_is_number pm__law_is_number an__law_is_number cd__law_is_number ct__law_is_number), sl__law_is_number⟩)
  (c__law_is_number : PySem.W.codeIn K cd__law_is_number "_law_is_number" = true) (k__law_is_number : PySem.W.keepIn K (.ref f__law_is_number) = true)
  (a__law_are_rules : PySem.W.nsIn K mainGlobals "_law_are_rules" = some (some (.ref f__law_are_rules)))
  (l__law_are_rules : K.lookup f__law_are_rules = some ⟨oc__law_are_rules, od__law_are_rules, .func (PySem.W.fnOf "_law_are_rules" "_law_are_rules" (defArgs s__law_are_rules) (defBody s__law_are_rules) (defScope s__law_are_rules) .none kV__law_are_rules dc__law_are_rules pm__law_are_rules an__law_are_rules cd__law_are_rules ct__law_are_rules), sl__law_are_rules⟩)
  (c__law_are_rules : PySem.W.codeIn K cd__law_are_rules "_law_are_rules" = true) (k__law_are_rules : PySem.W.keepIn K (.ref f__law_are_rules) = true)
  (a_is_whole : PySem.W.nsIn K mainGlobals "is_whole" = some (some (.ref f_is_whole)))
  (l_is_whole : K.lookup f_is_whole = some ⟨oc_is_whole, od_is_whole, .func (PySem.W.fnOf "is_whole" "is_whole" (defArgs s_is_whole) (defBody s_is_whole) (defScope s_is_whole) .none kV_is_whole dc_is_whole pm_is_whole an_is_whole cd_is_whole ct_is_whole), sl_is_whole⟩)
  (c_is_whole : PySem.W.codeIn K cd_is_whole "is_whole" = true) (k_is_whole : PySem.W.keepIn K (.ref f_is_whole) = true)
  (a__are_bounds : PySem.W.nsIn K mainGlobals "_are_bounds" = some (some (.ref f__are_bounds)))
  (l__are_bounds : K.lookup f__are_bounds = some ⟨oc__are_bounds, od__are_bounds, .func (PySem.W.fnOf "_are_bounds" "_are_bounds" (defArgs s__are_bounds) (defBody s__are_bounds) (defScope s__are_bounds) .none kV__are_bounds dc__are_bounds pm__are_bounds an__are_bounds cd__are_bounds ct__are_bounds), sl__are_bounds⟩)
  (c__are_bounds : PySem.W.codeIn K cd__are_bounds "_are_bounds" = true) (k__are_bounds : PySem.W.keepIn K (.ref f__are_bounds) = true)
  (a__is_pair : PySem.W.nsIn K mainGlobals "_is_pair" = some (some (.ref f__is_pair)))
  (l__is_pair : K.lookup f__is_pair = some ⟨oc__is_pair, od__is_pair, .func (PySem.W.fnOf "_is_pair" "_is_pair" (defArgs s__is_pair) (defBody s__is_pair) (defScope s__is_pair) .none kV__is_pair dc__is_pair pm__is_pair an__is_pair cd__is_pair ct__is_pair), sl__is_pair⟩)
  (c__is_pair : PySem.W.codeIn K cd__is_pair "_is_pair" = true) (k__is_pair : PySem.W.keepIn K (.ref f__is_pair) = true)
  (a_ascends : PySem.W.nsIn K mainGlobals "ascends" = some (some (.ref f_ascends)))
  (l_ascends : K.lookup f_ascends = some ⟨oc_ascends, od_ascends, .func (PySem.W.fnOf "ascends" "ascends" (defArgs s_ascends) (defBody s_ascends) (defScope s_ascends) .none kV_ascends dc_ascends pm_ascends an_ascends cd_ascends ct_ascends), sl_ascends⟩)
  (c_ascends : PySem.W.codeIn K cd_ascends "ascends" = true) (k_ascends : PySem.W.keepIn K (.ref f_ascends) = true)
  (a_are_box_rules : PySem.W.nsIn K mainGlobals "are_box_rules" = some (some (.ref f_are_box_rules)))
  (l_are_box_rules : K.lookup f_are_box_rules = some ⟨oc_are_box_rules, od_are_box_rules, .func (PySem.W.fnOf "are_box_rules" "are_box_rules" (defArgs s_are_box_rules) (defBody s_are_box_rules) (defScope s_are_box_rules) .none kV_are_box_rules dc_are_box_rules pm_are_box_rules an_are_box_rules cd_are_box_rules ct_are_box_rules), sl_are_box_rules⟩)
  (c_are_box_rules : PySem.W.codeIn K cd_are_box_rules "are_box_rules" = true) (k_are_box_rules : PySem.W.keepIn K (.ref f_are_box_rules) = true)
  (a_check_box_rules : PySem.W.nsIn K mainGlobals "check_box_rules" = some (some (.ref f_check_box_rules)))
  (l_check_box_rules : K.lookup f_check_box_rules = some ⟨oc_check_box_rules, od_check_box_rules, .func (PySem.W.fnOf "check_box_rules" "check_box_rules" (defArgs s_check_box_rules) (defBody s_check_box_rules) (defScope s_check_box_rules) .none kV_check_box_rules dc_check_box_rules pm_check_box_rules an_check_box_rules cd_check_box_rules ct_check_box_rules), sl_check_box_rules⟩)
  (c_check_box_rules : PySem.W.codeIn K cd_check_box_rules "check_box_rules" = true) (k_check_box_rules : PySem.W.keepIn K (.ref f_check_box_rules) = true)
  (a_fault_in : PySem.W.nsIn K mainGlobals "fault_in" = some (some (.ref f_fault_in)))
  (l_fault_in : K.lookup f_fault_in = some ⟨oc_fault_in, od_fault_in, .func (PySem.W.fnOf "fault_in" "fault_in" (defArgs s_fault_in) (defBody s_fault_in) (defScope s_fault_in) .none kV_fault_in dc_fault_in pm_fault_in an_fault_in cd_fault_in ct_fault_in), sl_fault_in⟩)
  (c_fault_in : PySem.W.codeIn K cd_fault_in "fault_in" = true) (k_fault_in : PySem.W.keepIn K (.ref f_fault_in) = true)
  (a_box_fault : PySem.W.nsIn K mainGlobals "box_fault" = some (some (.ref f_box_fault)))
  (l_box_fault : K.lookup f_box_fault = some ⟨oc_box_fault, od_box_fault, .func (PySem.W.fnOf "box_fault" "box_fault" (defArgs s_box_fault) (defBody s_box_fault) (defScope s_box_fault) .none kV_box_fault dc_box_fault pm_box_fault an_box_fault cd_box_fault ct_box_fault), sl_box_fault⟩)
  (c_box_fault : PySem.W.codeIn K cd_box_fault "box_fault" = true) (k_box_fault : PySem.W.keepIn K (.ref f_box_fault) = true)
  (a_count_boxes : PySem.W.nsIn K mainGlobals "count_boxes" = some (some (.ref f_count_boxes)))
  (l_count_boxes : K.lookup f_count_boxes = some ⟨oc_count_boxes, od_count_boxes, .func (PySem.W.fnOf "count_boxes" "count_boxes" (defArgs s_count_boxes) (defBody s_count_boxes) (defScope s_count_boxes) .none kV_count_boxes dc_count_boxes pm_count_boxes an_count_boxes cd_count_boxes ct_count_boxes), sl_count_boxes⟩)
  (c_count_boxes : PySem.W.codeIn K cd_count_boxes "count_boxes" = true) (k_count_boxes : PySem.W.keepIn K (.ref f_count_boxes) = true)
  (a_box_at : PySem.W.nsIn K mainGlobals "box_at" = some (some (.ref f_box_at)))
  (l_box_at : K.lookup f_box_at = some ⟨oc_box_at, od_box_at, .func (PySem.W.fnOf "box_at" "box_at" (defArgs s_box_at) (defBody s_box_at) (defScope s_box_at) .none kV_box_at dc_box_at pm_box_at an_box_at cd_box_at ct_box_at), sl_box_at⟩)
  (c_box_at : PySem.W.codeIn K cd_box_at "box_at" = true) (k_box_at : PySem.W.keepIn K (.ref f_box_at) = true)
  (a__check_box : PySem.W.nsIn K mainGlobals "_check_box" = some (some (.ref f__check_box)))
  (l__check_box : K.lookup f__check_box = some ⟨oc__check_box, od__check_box, .func (PySem.W.fnOf "_check_box" "_check_box" (defArgs s__check_box) (defBody s__check_box) (defScope s__check_box) .none kV__check_box dc__check_box pm__check_box an__check_box cd__check_box ct__check_box), sl__check_box⟩)
  (c__check_box : PySem.W.codeIn K cd__check_box "_check_box" = true) (k__check_box : PySem.W.keepIn K (.ref f__check_box) = true)
  (a_number_of_box : PySem.W.nsIn K mainGlobals "number_of_box" = some (some (.ref f_number_of_box)))
  (l_number_of_box : K.lookup f_number_of_box = some ⟨oc_number_of_box, od_number_of_box, .func (PySem.W.fnOf "number_of_box" "number_of_box" (defArgs s_number_of_box) (defBody s_number_of_box) (defScope s_number_of_box) .none kV_number_of_box dc_number_of_box pm_number_of_box an_number_of_box cd_number_of_box ct_number_of_box), sl_number_of_box⟩)
  (c_number_of_box : PySem.W.codeIn K cd_number_of_box "number_of_box" = true) (k_number_of_box : PySem.W.keepIn K (.ref f_number_of_box) = true)
  (a_next_box : PySem.W.nsIn K mainGlobals "next_box" = some (some (.ref f_next_box)))
  (l_next_box : K.lookup f_next_box = some ⟨oc_next_box, od_next_box, .func (PySem.W.fnOf "next_box" "next_box" (defArgs s_next_box) (defBody s_next_box) (defScope s_next_box) .none kV_next_box dc_next_box pm_next_box an_next_box cd_next_box ct_next_box), sl_next_box⟩)
  (c_next_box : PySem.W.codeIn K cd_next_box "next_box" = true) (k_next_box : PySem.W.keepIn K (.ref f_next_box) = true)
  (a_boxes_from : PySem.W.nsIn K mainGlobals "boxes_from" = some (some (.ref f_boxes_from)))
  (l_boxes_from : K.lookup f_boxes_from = some ⟨oc_boxes_from, od_boxes_from, .func (PySem.W.fnOf "boxes_from" "boxes_from" (defArgs s_boxes_from) (defBody s_boxes_from) (defScope s_boxes_from) .none kV_boxes_from dc_boxes_from pm_boxes_from an_boxes_from cd_boxes_from ct_boxes_from), sl_boxes_from⟩)
  (c_boxes_from : PySem.W.codeIn K cd_boxes_from "boxes_from" = true) (k_boxes_from : PySem.W.keepIn K (.ref f_boxes_from) = true)
  (a_never_needed : PySem.W.nsIn K mainGlobals "never_needed" = some (some (.ref f_never_needed)))
  (l_never_needed : K.lookup f_never_needed = some ⟨oc_never_needed, od_never_needed, .func (PySem.W.fnOf "never_needed" "never_needed" (defArgs s_never_needed) (defBody s_never_needed) (defScope s_never_needed) .none kV_never_needed dc_never_needed pm_never_needed an_never_needed cd_never_needed ct_never_needed), sl_never_needed⟩)
  (c_never_needed : PySem.W.codeIn K cd_never_needed "never_needed" = true) (k_never_needed : PySem.W.keepIn K (.ref f_never_needed) = true)
  (a__law_refused : PySem.W.nsIn K mainGlobals "_law_refused" = some (some (.ref f__law_refused)))
  (l__law_refused : K.lookup f__law_refused = some ⟨oc__law_refused, od__law_refused, .func (PySem.W.fnOf "_law_refused" "_law_refused" (defArgs s__law_refused) (defBody s__law_refused) (defScope s__law_refused) .none kV__law_refused dc__law_refused pm__law_refused an__law_refused cd__law_refused ct__law_refused), sl__law_refused⟩)
  (c__law_refused : PySem.W.codeIn K cd__law_refused "_law_refused" = true) (k__law_refused : PySem.W.keepIn K (.ref f__law_refused) = true)
  (a__law_boxes : PySem.W.nsIn K mainGlobals "_law_boxes" = some (some (.ref f__law_boxes)))
  (l__law_boxes : K.lookup f__law_boxes = some ⟨oc__law_boxes, od__law_boxes, .func (PySem.W.fnOf "_law_boxes" "_law_boxes" (defArgs s__law_boxes) (defBody s__law_boxes) (defScope s__law_boxes) .none kV__law_boxes dc__law_boxes pm__law_boxes an__law_boxes cd__law_boxes ct__law_boxes), sl__law_boxes⟩)
  (c__law_boxes : PySem.W.codeIn K cd__law_boxes "_law_boxes" = true) (k__law_boxes : PySem.W.keepIn K (.ref f__law_boxes) = true)
  (a__law_due : PySem.W.nsIn K mainGlobals "_law_due" = some (some (.ref f__law_due)))
  (l__law_due : K.lookup f__law_due = some ⟨oc__law_due, od__law_due, .func (PySem.W.fnOf "_law_due" "_law_due" (defArgs s__law_due) (defBody s__law_due) (defScope s__law_due) .none kV__law_due dc__law_due pm__law_due an__law_due cd__law_due ct__law_due), sl__law_due⟩)
  (c__law_due : PySem.W.codeIn K cd__law_due "_law_due" = true) (k__law_due : PySem.W.keepIn K (.ref f__law_due) = true)
  (a_law : PySem.W.nsIn K mainGlobals "law" = some (some (.ref f_law)))
  (l_law : K.lookup f_law = some ⟨oc_law, od_law, .func (PySem.W.fnOf "law" "law" (defArgs s_law) (defBody s_law) (defScope s_law) .none kV_law dc_law pm_law an_law cd_law ct_law), sl_law⟩)
  (c_law : PySem.W.codeIn K cd_law "law" = true) (k_law : PySem.W.keepIn K (.ref f_law) = true)
  (aC0 : PySem.W.nsIn K mainGlobals "BakeError" = some (some (.ref C0)))
  (bC0 : PySem.W.subIn K (.ref C0) (.type "BaseException") = some true) (tC0 : PySem.W.typeIn K (.ref C0) = some (.type "type"))
  (aC1 : PySem.W.nsIn K mainGlobals "BadBoxRules" = some (some (.ref C1)))
  (bC1 : PySem.W.subIn K (.ref C1) (.type "BaseException") = some true) (tC1 : PySem.W.typeIn K (.ref C1) = some (.type "type"))
  (xC1 : PySem.W.excIn K C1 [.type "ValueError", .type "Exception", .type "BaseException", .type "object"] "ValueError.__new__" = true) (kC1 : PySem.W.keepIn K (.ref C1) = true)
  (hC0 : PySem.W.hasDictIn K C0 = true)
  (s1_0 : PySem.W.subIn K (.ref C1) (.ref C0) = some true)
  (g1_1 : PySem.W.findIn K (.ref C1) "__getattribute__" = some (some (.builtin "BaseException.__getattribute__"))) (g2_1 : PySem.W.findIn K (.ref C1) "__getattr__" = some none) (g3_1 : PySem.W.hasDictIn K C1 = true) (g4_1 : PySem.W.findIn K (.ref C1) "__class__" = some (some (.builtin "object.__class__"))) (g5_1 : PySem.W.specialIn K (.builtin "object.__class__") "__get__" = some (some (.builtin "getset_descriptor.__get__"))) (g6_1 : PySem.W.takesIn K (.builtin "object.__class__") = some true) (g7_1 : PySem.W.mroIn K C1 (.type "object") = some true) (hfa : mg "law" = some (.ref fa)) :
  ∃ fd : FuncData, (∀ (s : Shared) (v : Value), BindsTo s fd ⟨[v], []⟩ [("script", v)]) ∧ ∀ base : Heap, K.In base → base.Ns mainGlobals mg → FnOk P w K mg base (L2.CX P w) 8 fa fd ["script"] (spLaw K) := by
  have e := hfa.symm.trans (PySem.W.mg_of X G a_law)
  cases e
  have fx := fx_of X G (z_abs := z_abs) (z_all := z_all) (z_any := z_any) (z_bool := z_bool) (z_enumerate := z_enumerate) (z_int := z_int) (z_isinstance := z_isinstance) (z_len := z_len) (z_list := z_list) (z_min := z_min) (z_range := z_range) (z_set := z_set) (z_sorted := z_sorted) (z_sum := z_sum) (z_tuple := z_tuple) (z_zip := z_zip) (v_FORM := v_FORM) (l_FORM := l_FORM) (v_MOST_KINDS := v_MOST_KINDS) (v_MOST_SIZE := v_MOST_SIZE) (a__law_draws := a__law_draws) (l__law_draws := l__law_draws) (c__law_draws := c__law_draws) (k__law_draws := k__law_draws) (a__law_rules := a__law_rules) (l__law_rules := l__law_rules) (c__law_rules := c__law_rules) (k__law_rules := k__law_rules) (a__law_is_number := a__law_is_number) (l__law_is_number := l__law_is_number) (c__law_is_number := c__law_is_number) (k__law_is_number := k__law_is_number) (a__law_are_rules := a__law_are_rules) (l__law_are_rules := l__law_are_rules) (c__law_are_rules := c__law_are_rules) (k__law_are_rules := k__law_are_rules) (a_is_whole := a_is_whole) (l_is_whole := l_is_whole) (c_is_whole := c_is_whole) (k_is_whole := k_is_whole) (a__are_bounds := a__are_bounds) (l__are_bounds := l__are_bounds) (c__are_bounds := c__are_bounds) (k__are_bounds := k__are_bounds) (a__is_pair := a__is_pair) (l__is_pair := l__is_pair) (c__is_pair := c__is_pair) (k__is_pair := k__is_pair) (a_ascends := a_ascends) (l_ascends := l_ascends) (c_ascends := c_ascends) (k_ascends := k_ascends) (a_are_box_rules := a_are_box_rules) (l_are_box_rules := l_are_box_rules) (c_are_box_rules := c_are_box_rules) (k_are_box_rules := k_are_box_rules) (a_check_box_rules := a_check_box_rules) (l_check_box_rules := l_check_box_rules) (c_check_box_rules := c_check_box_rules) (k_check_box_rules := k_check_box_rules) (a_fault_in := a_fault_in) (l_fault_in := l_fault_in) (c_fault_in := c_fault_in) (k_fault_in := k_fault_in) (a_box_fault := a_box_fault) (l_box_fault := l_box_fault) (c_box_fault := c_box_fault) (k_box_fault := k_box_fault) (a_count_boxes := a_count_boxes) (l_count_boxes := l_count_boxes) (c_count_boxes := c_count_boxes) (k_count_boxes := k_count_boxes) (a_box_at := a_box_at) (l_box_at := l_box_at) (c_box_at := c_box_at) (k_box_at := k_box_at) (a__check_box := a__check_box) (l__check_box := l__check_box) (c__check_box := c__check_box) (k__check_box := k__check_box) (a_number_of_box := a_number_of_box) (l_number_of_box := l_number_of_box) (c_number_of_box := c_number_of_box) (k_number_of_box := k_number_of_box) (a_next_box := a_next_box) (l_next_box := l_next_box) (c_next_box := c_next_box) (k_next_box := k_next_box) (a_boxes_from := a_boxes_from) (l_boxes_from := l_boxes_from) (c_boxes_from := c_boxes_from) (k_boxes_from := k_boxes_from) (a_never_needed := a_never_needed) (l_never_needed := l_never_needed) (c_never_needed := c_never_needed) (k_never_needed := k_never_needed) (a__law_refused := a__law_refused) (l__law_refused := l__law_refused) (c__law_refused := c__law_refused) (k__law_refused := k__law_refused) (a__law_boxes := a__law_boxes) (l__law_boxes := l__law_boxes) (c__law_boxes := c__law_boxes) (k__law_boxes := k__law_boxes) (a__law_due := a__law_due) (l__law_due := l__law_due) (c__law_due := c__law_due) (k__law_due := k__law_due) (a_law := a_law) (l_law := l_law) (c_law := c_law) (k_law := k_law) (aC0 := aC0) (bC0 := bC0) (tC0 := tC0) (aC1 := aC1) (bC1 := bC1) (tC1 := tC1) (xC1 := xC1) (kC1 := kC1) (hC0 := hC0) (s1_0 := s1_0) (g1_1 := g1_1) (g2_1 := g2_1) (g3_1 := g3_1) (g4_1 := g4_1) (g5_1 := g5_1) (g6_1 := g6_1) (g7_1 := g7_1)
  exact ⟨_, fun s v => .of_eq rfl, fun base _ _ => law_imp (fn_law fx (fun_mk (st := s_law) l_law c_law k_law))⟩
theorem law_arg {K : PySem.W.Frag} {H : Hp} {a : Addr} {ns : List Int} (hl : ns.length ≤ 63) (hO : Only H) (hS : SqL K H a (ns.map V.int)) : spLaw K [.ref a] H (fun v _ => v = .bl true) fun _ _ _ => False := by
  refine ⟨a, ns, rfl, ?_, hl, fun _ => rfl⟩
  rcases hS with (h | h) | h
  · rcases hO a with z | ⟨o, xs, z⟩
    · rw [z] at h; cases h
    · rw [z] at h; cases h
  · exact .inl h
  · exact .inr fun _ => .inr h
theorem cx_none {P : Program} {w : World} {H : Hp} {s s1 : Shared} {e : Value} (h : L2.CX P w [] H s (fun _ _ _ => False) e s1) : False := by
  obtain ⟨_, _, _, _, _, _, _, _, _, _, _, _, z⟩ := h
  exact z.elim
theorem walk_law {l : PySem.W.OpenLaw} {k : Nat} {q : Program} {loose : List Str} {XP : (Str → Option Value) → Heap → Prop} {YP : World → Heap → Prop} {d : DefRec} {K : Params → PySem.W.Frag}
    (hn : l.most = some 63) (hd : d.params.defaults = []) (hr : Room k callerA) (hY : ∀ (w : World) (h : Heap), YP w h → (K w.params).In h)
    (F : ∀ (w : World) (mg : Str → Option Value) (fa : Addr) (h : Heap), (K w.params).In h → h.Ns mainGlobals mg → mg d.name = some (.ref fa) → ∃ fd : FuncData, (∀ (s : Shared) (v : Value), BindsTo s fd ⟨[v], []⟩ [("script", v)]) ∧
      ∀ base : Heap, (K w.params).In base → base.Ns mainGlobals mg → FnOk l.prog w (K w.params) mg base (L2.CX l.prog w) k fa fd ["script"] (spLaw (K w.params))) : PySem.W.WalkO q loose XP YP l.row.toRowW d [] (fun f vs => PySem.call f vs) :=
  L2.walk_of (K := K) (CX := fun w => L2.CX l.prog w) (sp := fun w => spLaw (K w.params)) hn (by rw [sizeLine_eq]; decide) hd hr hY F (fun w H a ns hl hO hS => law_arg hl hO hS) (fun w H s e s' h => cx_none h)
end Dl
set_option Elab.async false
set_option linter.all false
set_option maxRecDepth 100000
open PySem PySem.W PyProof.Rows
set_option maxHeartbeats 0 in
theorem PySem.Challenge.cw_bakewright_k49_rules_of_boxes_holds : PySem.Challenge.rw_bakewright_k49_rules_of_boxes.Holds := by
  w_on; o_law; k_head; (case hw => w_witness2)
  k_fill
  refine Dl.walk_law (l := PySem.Challenge.rw_bakewright_k49_rules_of_boxes) (k := 8) rfl rfl ⟨rfl, by decide, by decide⟩ (fun w h Y => PySem.W.kIn_of Y) ?F
  case F =>
    intro w mg fa h KX G hmg
    refine' Dl.all_mk KX G (z_abs := ?z_abs) (z_all := ?z_all) (z_any := ?z_any) (z_bool := ?z_bool) (z_enumerate := ?z_enumerate) (z_int := ?z_int) (z_isinstance := ?z_isinstance) (z_len := ?z_len) (z_list := ?z_list) (z_min := ?z_min) (z_range := ?z_range) (z_set := ?z_set) (z_sorted := ?z_sorted) (z_sum := ?z_sum) (z_tuple := ?z_tuple) (z_zip := ?z_zip) (v_FORM := ?v_FORM) (l_FORM := ?l_FORM) (v_MOST_KINDS := ?v_MOST_KINDS) (v_MOST_SIZE := ?v_MOST_SIZE) (a__law_draws := ?a__law_draws) (l__law_draws := ?l__law_draws) (c__law_draws := ?c__law_draws) (k__law_draws := ?k__law_draws) (a__law_rules := ?a__law_rules) (l__law_rules := ?l__law_rules) (c__law_rules := ?c__law_rules) (k__law_rules := ?k__law_rules) (a__law_is_number := ?a__law_is_number) (l__law_is_number := ?l__law_is_number) (c__law_is_number := ?c__law_is_number) (k__law_is_number := ?k__law_is_number) (a__law_are_rules := ?a__law_are_rules) (l__law_are_rules := ?l__law_are_rules) (c__law_are_rules := ?c__law_are_rules) (k__law_are_rules := ?k__law_are_rules) (a_is_whole := ?a_is_whole) (l_is_whole := ?l_is_whole) (c_is_whole := ?c_is_whole) (k_is_whole := ?k_is_whole) (a__are_bounds := ?a__are_bounds) (l__are_bounds := ?l__are_bounds) (c__are_bounds := ?c__are_bounds) (k__are_bounds := ?k__are_bounds) (a__is_pair := ?a__is_pair) (l__is_pair := ?l__is_pair) (c__is_pair := ?c__is_pair) (k__is_pair := ?k__is_pair) (a_ascends := ?a_ascends) (l_ascends := ?l_ascends) (c_ascends := ?c_ascends) (k_ascends := ?k_ascends) (a_are_box_rules := ?a_are_box_rules) (l_are_box_rules := ?l_are_box_rules) (c_are_box_rules := ?c_are_box_rules) (k_are_box_rules := ?k_are_box_rules) (a_check_box_rules := ?a_check_box_rules) (l_check_box_rules := ?l_check_box_rules) (c_check_box_rules := ?c_check_box_rules) (k_check_box_rules := ?k_check_box_rules) (a_fault_in := ?a_fault_in) (l_fault_in := ?l_fault_in) (c_fault_in := ?c_fault_in) (k_fault_in := ?k_fault_in) (a_box_fault := ?a_box_fault) (l_box_fault := ?l_box_fault) (c_box_fault := ?c_box_fault) (k_box_fault := ?k_box_fault) (a_count_boxes := ?a_count_boxes) (l_count_boxes := ?l_count_boxes) (c_count_boxes := ?c_count_boxes) (k_count_boxes := ?k_count_boxes) (a_box_at := ?a_box_at) (l_box_at := ?l_box_at) (c_box_at := ?c_box_at) (k_box_at := ?k_box_at) (a__check_box := ?a__check_box) (l__check_box := ?l__check_box) (c__check_box := ?c__check_box) (k__check_box := ?k__check_box) (a_number_of_box := ?a_number_of_box) (l_number_of_box := ?l_number_of_box) (c_number_of_box := ?c_number_of_box) (k_number_of_box := ?k_number_of_box) (a_next_box := ?a_next_box) (l_next_box := ?l_next_box) (c_next_box := ?c_next_box) (k_next_box := ?k_next_box) (a_boxes_from := ?a_boxes_from) (l_boxes_from := ?l_boxes_from) (c_boxes_from := ?c_boxes_from) (k_boxes_from := ?k_boxes_from) (a_never_needed := ?a_never_needed) (l_never_needed := ?l_never_needed) (c_never_needed := ?c_never_needed) (k_never_needed := ?k_never_needed) (a__law_refused := ?a__law_refused) (l__law_refused := ?l__law_refused) (c__law_refused := ?c__law_refused) (k__law_refused := ?k__law_refused) (a__law_boxes := ?a__law_boxes) (l__law_boxes := ?l__law_boxes) (c__law_boxes := ?c__law_boxes) (k__law_boxes := ?k__law_boxes) (a__law_due := ?a__law_due) (l__law_due := ?l__law_due) (c__law_due := ?c__law_due) (k__law_due := ?k__law_due) (a_law := ?a_law) (l_law := ?l_law) (c_law := ?c_law) (k_law := ?k_law) (aC0 := ?aC0) (bC0 := ?bC0) (tC0 := ?tC0) (aC1 := ?aC1) (bC1 := ?bC1) (tC1 := ?tC1) (xC1 := ?xC1) (kC1 := ?kC1) (hC0 := ?hC0) (s1_0 := ?s1_0) (g1_1 := ?g1_1) (g2_1 := ?g2_1) (g3_1 := ?g3_1) (g4_1 := ?g4_1) (g5_1 := ?g5_1) (g6_1 := ?g6_1) (g7_1 := ?g7_1) (hfa := hmg)
    (case z_abs => k_is)
    (case z_all => k_is)
    (case z_any => k_is)
    (case z_bool => k_is)
    (case z_enumerate => k_is)
    (case z_int => k_is)
    (case z_isinstance => k_is)
    (case z_len => k_is)
    (case z_list => k_is)
    (case z_min => k_is)
    (case z_range => k_is)
    (case z_set => k_is)
    (case z_sorted => k_is)
    (case z_sum => k_is)
    (case z_tuple => k_is)
    (case z_zip => k_is)
    (case v_FORM => k_is)
    (case l_FORM => k_is)
    (case v_MOST_KINDS => k_is)
    (case v_MOST_SIZE => k_is)
    (case a__law_draws => k_is)
    (case l__law_draws => k_is)
    (case c__law_draws => k_is)
    (case k__law_draws => k_is)
    (case a__law_rules => k_is)
    (case l__law_rules => k_is)
    (case c__law_rules => k_is)
    (case k__law_rules => k_is)
    (case a__law_is_number => k_is)
    (case l__law_is_number => k_is)
    (case c__law_is_number => k_is)
    (case k__law_is_number => k_is)
    (case a__law_are_rules => k_is)
    (case l__law_are_rules => k_is)
    (case c__law_are_rules => k_is)
    (case k__law_are_rules => k_is)
    (case a_is_whole => k_is)
    (case l_is_whole => k_is)
    (case c_is_whole => k_is)
    (case k_is_whole => k_is)
    (case a__are_bounds => k_is)
    (case l__are_bounds => k_is)
    (case c__are_bounds => k_is)
    (case k__are_bounds => k_is)
    (case a__is_pair => k_is)
    (case l__is_pair => k_is)
    (case c__is_pair => k_is)
    (case k__is_pair => k_is)
    (case a_ascends => k_is)
    (case l_ascends => k_is)
    (case c_ascends => k_is)
    (case k_ascends => k_is)
    (case a_are_box_rules => k_is)
    (case l_are_box_rules => k_is)
    (case c_are_box_rules => k_is)
    (case k_are_box_rules => k_is)
    (case a_check_box_rules => k_is)
    (case l_check_box_rules => k_is)
    (case c_check_box_rules => k_is)
    (case k_check_box_rules => k_is)
    (case a_fault_in => k_is)
    (case l_fault_in => k_is)
    (case c_fault_in => k_is)
    (case k_fault_in => k_is)
    (case a_box_fault => k_is)
    (case l_box_fault => k_is)
    (case c_box_fault => k_is)
    (case k_box_fault => k_is)
    (case a_count_boxes => k_is)
    (case l_count_boxes => k_is)
    (case c_count_boxes => k_is)
    (case k_count_boxes => k_is)
    (case a_box_at => k_is)
    (case l_box_at => k_is)
    (case c_box_at => k_is)
    (case k_box_at => k_is)
    (case a__check_box => k_is)
    (case l__check_box => k_is)
    (case c__check_box => k_is)
    (case k__check_box => k_is)
    (case a_number_of_box => k_is)
    (case l_number_of_box => k_is)
    (case c_number_of_box => k_is)
    (case k_number_of_box => k_is)
    (case a_next_box => k_is)
    (case l_next_box => k_is)
    (case c_next_box => k_is)
    (case k_next_box => k_is)
    (case a_boxes_from => k_is)
    (case l_boxes_from => k_is)
    (case c_boxes_from => k_is)
    (case k_boxes_from => k_is)
    (case a_never_needed => k_is)
    (case l_never_needed => k_is)
    (case c_never_needed => k_is)
    (case k_never_needed => k_is)
    (case a__law_refused => k_is)
    (case l__law_refused => k_is)
    (case c__law_refused => k_is)
    (case k__law_refused => k_is)
    (case a__law_boxes => k_is)
    (case l__law_boxes => k_is)
    (case c__law_boxes => k_is)
    (case k__law_boxes => k_is)
    (case a__law_due => k_is)
    (case l__law_due => k_is)
    (case c__law_due => k_is)
    (case k__law_due => k_is)
    (case a_law => k_is)
    (case l_law => k_is)
    (case c_law => k_is)
    (case k_law => k_is)
    (case aC0 => k_is)
    (case bC0 => k_is)
    (case tC0 => k_is)
    (case aC1 => k_is)
    (case bC1 => k_is)
    (case tC1 => k_is)
    (case xC1 => k_exc)
    (case kC1 => k_is)
    (case hC0 => k_is)
    (case s1_0 => k_is)
    (case g1_1 => k_is)
    (case g2_1 => k_is)
    (case g3_1 => k_is)
    (case g4_1 => k_is)
    (case g5_1 => k_is)
    (case g6_1 => k_is)
    (case g7_1 => k_is)