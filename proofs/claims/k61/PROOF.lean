import PyProof.Rows.All
import Wide.All
import OpenK.AllK
import Wide.FinOn
import HandS.ForMost
import HandS.ForExc
import HandS.TupAny
import HandS.Zip
import HandS.IsInst
import HandS.Style
import HandS.TupMul
import HandS.Deep
import HandS.SortInts
import HandS.TupLen
import HandS.SetKeys
import HandS.Conv
import HandS.FStr
import HandS.Text
import HandS.RaiseMore
import KE.KSortedM
import HandS.ExcOwn
import HandS.CallSlots
import HandS.TryOnly
import HandS.More
import HandS.Defaults
import HandS.HeadEnd
import HandS.HeadHook1
import HandS.HeadHook2
import HandS.HeadHook3
import HandS.Head0
import HandS.Head1
import HandS.Head2
import HandS.EndBits
import PySem.Challenge.RW_everyweave_k61_programs_are_written
import KE.KStateDown
import Lean
import Wide.Once
set_option Elab.async false
set_option linter.all false
set_option maxRecDepth 100000
/-! Ab1: data, store, what stands for them in the hand layer's heap -/
namespace Ab
open PySem L2

/-- data: tuples are written out (kt: one of the module's own constants); ref: a place of the store -/
inductive D where
  | non | bl (b : Bool) | int (i : Int) | str (s : Str) | tup (xs : List D) | kt (xs : List D) | ref (n : Nat)

/-- what stands at a place of the store. lk: a loop walks it (it may be read, not written) -/
inductive Ob where
  | nil
  | lst (xs : List D)
  | fro (xs : List D)
  | dk (lk : Bool) (kvs : List (Key × D))
  | dt (lk : Bool) (kvs : List (List Key × D))
  | ins (C : Nat) (fs : List (Str × D))

structure Sto where
  n : Nat
  g : Nat → Ob
def Sto.put (s : Sto) (r : Nat) (o : Ob) : Sto := ⟨s.n, fun q => if q = r then o else s.g q⟩
def Sto.new (s : Sto) (o : Ob) : Sto := ⟨s.n + 1, fun q => if q = s.n then o else s.g q⟩
abbrev Env := List (Option D)

inductive R (α : Type) where
  | ok (a : α) (s : Sto)
  | ex (c : Nat) (s : Sto)
  | bad
def R.bind {α β : Type} : R α → (α → Sto → R β) → R β
  | .ok a s, f => f a s
  | .ex c s, _ => .ex c s
  | .bad, _ => .bad
@[simp] theorem R.bind_ok {α β : Type} (a : α) (s : Sto) (f : α → Sto → R β) : (R.ok a s).bind f = f a s := rfl
@[simp] theorem R.bind_ex {α β : Type} (c : Nat) (s : Sto) (f : α → Sto → R β) : (R.ex c s : R α).bind f = .ex c s := rfl
@[simp] theorem R.bind_bad {α β : Type} (f : α → Sto → R β) : (R.bad : R α).bind f = .bad := rfl

/-! ### how data lie in the heap -/
/-- what the static part of a law is: its written fragment, the classes' addresses -/
structure St0 where
  K : PySem.W.Frag
  cls : Nat → Addr

def KTup (K : PySem.W.Frag) (a : Addr) (vs : List V) : Prop := SqT K (fun _ => none) a vs
theorem KTup.sqt {K : PySem.W.Frag} {H : Hp} {a : Addr} {vs : List V} (h : KTup K a vs) : SqT K H a vs := by
  rcases h with (h | ⟨o, h⟩) | h
  · cases h
  · cases h
  · exact .inr h
/-- a list that is only read (the script) -/
def FroAt (K : PySem.W.Frag) (H : Hp) (a : Addr) (vs : List V) : Prop := (∃ o, H a = some (.frz o (.lst vs))) ∨ SqL K (fun _ => none) a vs
theorem FroAt.sql {K : PySem.W.Frag} {H : Hp} {a : Addr} {vs : List V} (h : FroAt K H a vs) : SqL K H a vs := by
  rcases h with h | h
  · exact .inl (.inr h)
  · rcases h with (h | ⟨o, h⟩) | h
    · cases h
    · cases h
    · exact .inr h

mutual
inductive RV (K : PySem.W.Frag) (n : Nat) (φ : Nat → Addr) (H : Hp) : V → D → Prop
  | non : RV K n φ H .non .non
  | bl (b : Bool) : RV K n φ H (.bl b) (.bl b)
  | int (i : Int) : RV K n φ H (.int i) (.int i)
  | str (s : Str) : RV K n φ H (.str s) (.str s)
  | tup {a : Addr} {vs : List V} {ds : List D} : H a = some (.tup vs) → RVs K n φ H vs ds → RV K n φ H (.ref a) (.tup ds)
  | kt {a : Addr} {vs : List V} {ds : List D} : KTup K a vs → RVs K n φ H vs ds → RV K n φ H (.ref a) (.kt ds)
  | ref {r : Nat} : r < n → RV K n φ H (.ref (φ r)) (.ref r)
inductive RVs (K : PySem.W.Frag) (n : Nat) (φ : Nat → Addr) (H : Hp) : List V → List D → Prop
  | nil : RVs K n φ H [] []
  | cons {v : V} {vs : List V} {d : D} {ds : List D} : RV K n φ H v d → RVs K n φ H vs ds → RVs K n φ H (v :: vs) (d :: ds)
end

/-- a value map over keys -/
inductive RKs {κ : Type} (K : PySem.W.Frag) (n : Nat) (φ : Nat → Addr) (H : Hp) : List (κ × V) → List (κ × D) → Prop
  | nil : RKs K n φ H [] []
  | cons {k : κ} {v : V} {d : D} {vs : List (κ × V)} {ds : List (κ × D)} : RV K n φ H v d → RKs K n φ H vs ds → RKs K n φ H ((k, v) :: vs) ((k, d) :: ds)

def RO (S : St0) (n : Nat) (φ : Nat → Addr) (H : Hp) (a : Addr) : Ob → Prop
  | .nil => True
  | .lst ds => ∃ vs, H a = some (.lst vs) ∧ RVs S.K n φ H vs ds
  | .fro ds => ∃ vs, FroAt S.K H a vs ∧ RVs S.K n φ H vs ds
  | .dk lk ds => ∃ vs, (if lk then ∃ o, H a = some (.frz o (.dK vs)) else H a = some (.dK vs)) ∧ RKs S.K n φ H vs ds
  | .dt lk ds => ∃ vs, (if lk then ∃ o, H a = some (.frz o (.dT vs)) else H a = some (.dT vs)) ∧ RKs S.K n φ H vs ds
  | .ins C ds => ∃ dx vs, H a = some (.ins (S.cls C) dx vs) ∧ RKs S.K n φ H vs ds

/-- a place that may be written now -/
def Ob.mu : Ob → Bool
  | .lst _ => true
  | .dk lk _ => !lk
  | .dt lk _ => !lk
  | .ins _ _ => true
  | _ => false
/-- a place that may be written -/
def Ob.wr : Ob → Bool
  | .lst _ => true
  | .dk lk _ => true
  | .dt lk _ => true
  | .ins _ _ => true
  | _ => false

structure RS (S : St0) (φ : Nat → Addr) (H : Hp) (s : Sto) : Prop where
  ob : ∀ r, r < s.n → RO S s.n φ H (φ r) (s.g r)
  inj : ∀ r q, r < s.n → q < s.n → (s.g r).wr = true → (s.g q).wr = true → φ r = φ q → r = q

/-- the later (n', φ', H') knows the places and tuples that the earlier one knows -/
structure E0 (n : Nat) (φ : Nat → Addr) (H : Hp) (n' : Nat) (φ' : Nat → Addr) (H' : Hp) : Prop where
  le : n ≤ n'
  φ : ∀ r, r < n → φ' r = φ r
  tup : ∀ a vs, H a = some (.tup vs) → H' a = some (.tup vs)
/-- .. and what is locked stands -/
structure Ext (n : Nat) (φ : Nat → Addr) (H : Hp) (n' : Nat) (φ' : Nat → Addr) (H' : Hp) : Prop extends E0 n φ H n' φ' H' where
  frz : ∀ a o u, H a = some (.frz o u) → H' a = some (.frz o u)
theorem Ext.refl {n : Nat} {φ : Nat → Addr} {H : Hp} : Ext n φ H n φ H := ⟨⟨Nat.le_refl _, fun _ _ => rfl, fun _ _ h => h⟩, fun _ _ _ h => h⟩
theorem Ext.trans {n n' n'' : Nat} {φ φ' φ'' : Nat → Addr} {H H' H'' : Hp} (a : Ext n φ H n' φ' H') (b : Ext n' φ' H' n'' φ'' H'') : Ext n φ H n'' φ'' H'' :=
  ⟨⟨Nat.le_trans a.le b.le, fun r h => (b.φ r (Nat.lt_of_lt_of_le h a.le)).trans (a.φ r h), fun x vs h => b.tup x vs (a.tup x vs h)⟩, fun x o u h => b.frz x o u (a.frz x o u h)⟩

section
variable {K : PySem.W.Frag} {n n' : Nat} {φ φ' : Nat → Addr} {H H' : Hp}
mutual
theorem RV.ext0 (e : E0 n φ H n' φ' H') : ∀ {v : V} {d : D}, RV K n φ H v d → RV K n' φ' H' v d
  | _, _, .non => .non
  | _, _, .bl b => .bl b
  | _, _, .int i => .int i
  | _, _, .str s => .str s
  | _, _, .tup h hs => .tup (e.tup _ _ h) (RVs.ext0 e hs)
  | _, _, .kt h hs => .kt h (RVs.ext0 e hs)
  | _, _, .ref (r := r) h => by rw [← e.φ r h]; exact .ref (Nat.lt_of_lt_of_le h e.le)
theorem RVs.ext0 (e : E0 n φ H n' φ' H') : ∀ {vs : List V} {ds : List D}, RVs K n φ H vs ds → RVs K n' φ' H' vs ds
  | _, _, .nil => .nil
  | _, _, .cons h hs => .cons (RV.ext0 e h) (RVs.ext0 e hs)
end
theorem RKs.ext0 {κ : Type} (e : E0 n φ H n' φ' H') : ∀ {vs : List (κ × V)} {ds : List (κ × D)}, RKs K n φ H vs ds → RKs K n' φ' H' vs ds
  | _, _, .nil => .nil
  | _, _, .cons h hs => .cons (h.ext0 e) (RKs.ext0 e hs)
theorem RV.ext (e : Ext n φ H n' φ' H') {v : V} {d : D} (h : RV K n φ H v d) : RV K n' φ' H' v d := h.ext0 e.toE0
theorem RVs.ext (e : Ext n φ H n' φ' H') {vs : List V} {ds : List D} (h : RVs K n φ H vs ds) : RVs K n' φ' H' vs ds := h.ext0 e.toE0
theorem RKs.ext {κ : Type} (e : Ext n φ H n' φ' H') {vs : List (κ × V)} {ds : List (κ × D)} (h : RKs K n φ H vs ds) : RKs K n' φ' H' vs ds := h.ext0 e.toE0

theorem RVs.length {vs : List V} {ds : List D} (h : RVs K n φ H vs ds) : vs.length = ds.length := by
  induction ds generalizing vs with
  | nil => cases h; rfl
  | cons d ds ih => cases h with | cons a b => simp [ih b]
theorem RVs.get : ∀ {vs : List V} {ds : List D} {i : Nat} {d : D}, RVs K n φ H vs ds → ds[i]? = some d → ∃ v, vs[i]? = some v ∧ RV K n φ H v d
  | _, _, _, _, .nil, e => by simp at e
  | _, _, 0, _, .cons r _, e => by simp at e; subst e; exact ⟨_, rfl, r⟩
  | _, _, i + 1, _, .cons _ t, e => by
    obtain ⟨v, h1, h2⟩ := RVs.get (i := i) t (by simpa using e)
    exact ⟨v, by simpa using h1, h2⟩
theorem RVs.getV : ∀ {vs : List V} {ds : List D} {i : Nat} {v : V}, RVs K n φ H vs ds → vs[i]? = some v → ∃ d, ds[i]? = some d ∧ RV K n φ H v d
  | _, _, _, _, .nil, e => by simp at e
  | _, _, 0, _, .cons r _, e => by simp at e; subst e; exact ⟨_, rfl, r⟩
  | _, _, i + 1, _, .cons _ t, e => by
    obtain ⟨v, h1, h2⟩ := RVs.getV (i := i) t (by simpa using e)
    exact ⟨v, by simpa using h1, h2⟩
theorem RVs.append : ∀ {vs ws : List V} {ds es : List D}, RVs K n φ H vs ds → RVs K n φ H ws es → RVs K n φ H (vs ++ ws) (ds ++ es)
  | _, _, _, _, .nil, s => s
  | _, _, _, _, .cons r t, s => .cons r (RVs.append t s)
theorem RVs.set {v : V} {d : D} (r : RV K n φ H v d) : ∀ {vs : List V} {ds : List D} (i : Nat), RVs K n φ H vs ds → RVs K n φ H (vs.set i v) (ds.set i d)
  | _, _, _, .nil => .nil
  | _, _, 0, .cons _ t => .cons r t
  | _, _, i + 1, .cons q t => .cons q (RVs.set r i t)
theorem RVs.take : ∀ {vs : List V} {ds : List D} (m : Nat), RVs K n φ H vs ds → RVs K n φ H (vs.take m) (ds.take m)
  | _, _, 0, _ => .nil
  | _, _, _ + 1, .nil => .nil
  | _, _, m + 1, .cons r t => .cons r (RVs.take m t)
theorem RVs.drop : ∀ {vs : List V} {ds : List D} (m : Nat), RVs K n φ H vs ds → RVs K n φ H (vs.drop m) (ds.drop m)
  | _, _, 0, r => r
  | _, _, _ + 1, .nil => .nil
  | _, _, m + 1, .cons _ t => RVs.drop m t
theorem RVs.erase : ∀ {vs : List V} {ds : List D} (i : Nat), RVs K n φ H vs ds → RVs K n φ H (vs.eraseIdx i) (ds.eraseIdx i)
  | _, _, _, .nil => .nil
  | _, _, 0, .cons _ t => t
  | _, _, i + 1, .cons r t => .cons r (RVs.erase i t)
theorem RVs.dropLast {vs : List V} {ds : List D} (h : RVs K n φ H vs ds) : RVs K n φ H vs.dropLast ds.dropLast := by
  rw [List.dropLast_eq_take, List.dropLast_eq_take, h.length]
  exact h.take _
theorem RVs.reverse : ∀ {vs : List V} {ds : List D}, RVs K n φ H vs ds → RVs K n φ H vs.reverse ds.reverse
  | _, _, .nil => .nil
  | _, _, .cons r t => by rw [List.reverse_cons, List.reverse_cons]; exact (RVs.reverse t).append (.cons r .nil)
def tupOf : D → Option (List D)
  | .tup xs => some xs
  | .kt xs => some xs
  | _ => none
theorem RV.tupD {v : V} {d : D} {xs : List D} (r : RV K n φ H v d) (h : tupOf d = some xs) : ∃ a vs, v = .ref a ∧ SqT K H a vs ∧ RVs K n φ H vs xs := by
  cases r with
  | tup t rs => cases h; exact ⟨_, _, rfl, .of t, rs⟩
  | kt t rs => cases h; exact ⟨_, _, rfl, t.sqt, rs⟩
  | _ => cases h
/-- ints stand for ints -/
theorem RVs.ints : ∀ {vs : List V} {ns : List Int}, RVs K n φ H vs (ns.map D.int) → vs = ns.map V.int
  | vs, [], h => by cases h; rfl
  | vs, m :: ns, h => by
    cases h with
    | cons a b => cases a; rw [RVs.ints b]; rfl
theorem RVs.strs : ∀ {vs : List V} {ns : List Str}, RVs K n φ H vs (ns.map D.str) → vs = ns.map V.str
  | vs, [], h => by cases h; rfl
  | vs, m :: ns, h => by
    cases h with
    | cons a b => cases a; rw [RVs.strs b]; rfl
theorem RVs.ofInts : ∀ (ns : List Int), RVs K n φ H (ns.map V.int) (ns.map D.int)
  | [] => .nil
  | _ :: ns => .cons (.int _) (RVs.ofInts ns)
theorem RVs.ofStrs : ∀ (ns : List Str), RVs K n φ H (ns.map V.str) (ns.map D.str)
  | [] => .nil
  | _ :: ns => .cons (.str _) (RVs.ofStrs ns)
end

/-! ### the store's steps -/
section
variable {S : St0} {φ : Nat → Addr} {H : Hp} {s : Sto}
theorem RO.ext {n n' : Nat} {φ φ' : Nat → Addr} {H H' : Hp} {a : Addr} {o : Ob} (e : E0 n φ H n' φ' H') (hk : ∀ u, H a = some u → H' a = some u) (h : RO S n φ H a o) : RO S n' φ' H' a o := by
  cases o with
  | nil => trivial
  | lst ds => obtain ⟨vs, h1, h2⟩ := h; exact ⟨vs, hk _ h1, h2.ext0 e⟩
  | fro ds =>
    obtain ⟨vs, h1, h2⟩ := h
    refine ⟨vs, ?_, h2.ext0 e⟩
    rcases h1 with ⟨o, h1⟩ | h1
    · exact .inl ⟨o, hk _ h1⟩
    · exact .inr h1
  | dk lk ds =>
    obtain ⟨vs, h1, h2⟩ := h
    refine ⟨vs, ?_, h2.ext0 e⟩
    cases lk with
    | true => obtain ⟨o, h1⟩ := h1; exact ⟨o, hk _ h1⟩
    | false => exact hk _ h1
  | dt lk ds =>
    obtain ⟨vs, h1, h2⟩ := h
    refine ⟨vs, ?_, h2.ext0 e⟩
    cases lk with
    | true => obtain ⟨o, h1⟩ := h1; exact ⟨o, hk _ h1⟩
    | false => exact hk _ h1
  | ins C ds => obtain ⟨dx, vs, h1, h2⟩ := h; exact ⟨dx, vs, hk _ h1, h2.ext0 e⟩

/-- what a written place holds is tracked, and no tuple; a list that is only read is something else -/
theorem RO.here {n : Nat} {a : Addr} {o : Ob} (h : RO S n φ H a o) (w : o.wr = true) : ∃ u, H a = some u ∧ (∀ vs, u ≠ .tup vs) ∧ ∀ ob vs, u ≠ .frz ob (.lst vs) := by
  cases o with
  | lst ds => obtain ⟨vs, h1, h2⟩ := h; exact ⟨_, h1, fun _ z => HO.noConfusion z, fun _ _ z => HO.noConfusion z⟩
  | dk lk ds =>
    obtain ⟨vs, h1, h2⟩ := h
    cases lk with
    | true => obtain ⟨o, h1⟩ := h1; exact ⟨_, h1, fun _ z => HO.noConfusion z, by intro _ _ z; injection z with _ z; cases z⟩
    | false => exact ⟨_, h1, fun _ z => HO.noConfusion z, fun _ _ z => HO.noConfusion z⟩
  | dt lk ds =>
    obtain ⟨vs, h1, h2⟩ := h
    cases lk with
    | true => obtain ⟨o, h1⟩ := h1; exact ⟨_, h1, fun _ z => HO.noConfusion z, by intro _ _ z; injection z with _ z; cases z⟩
    | false => exact ⟨_, h1, fun _ z => HO.noConfusion z, fun _ _ z => HO.noConfusion z⟩
  | ins C ds => obtain ⟨dx, vs, h1, h2⟩ := h; exact ⟨_, h1, fun _ z => HO.noConfusion z, fun _ _ z => HO.noConfusion z⟩
  | nil => cases w
  | fro ds => cases w

theorem RO.mu {n : Nat} {a : Addr} {o : Ob} (h : RO S n φ H a o) (w : o.mu = true) : ∃ u, H a = some u ∧ (∀ vs, u ≠ .tup vs) ∧ ∀ ob x, u ≠ .frz ob x := by
  cases o with
  | lst ds => obtain ⟨vs, h1, h2⟩ := h; exact ⟨_, h1, fun _ z => HO.noConfusion z, fun _ _ z => HO.noConfusion z⟩
  | dk lk ds =>
    obtain ⟨vs, h1, h2⟩ := h
    cases lk with
    | true => cases w
    | false => exact ⟨_, h1, fun _ z => HO.noConfusion z, fun _ _ z => HO.noConfusion z⟩
  | dt lk ds =>
    obtain ⟨vs, h1, h2⟩ := h
    cases lk with
    | true => cases w
    | false => exact ⟨_, h1, fun _ z => HO.noConfusion z, fun _ _ z => HO.noConfusion z⟩
  | ins C ds => obtain ⟨dx, vs, h1, h2⟩ := h; exact ⟨_, h1, fun _ z => HO.noConfusion z, fun _ _ z => HO.noConfusion z⟩
  | nil => cases w
  | fro ds => cases w
theorem Ob.mu_wr {o : Ob} (h : o.mu = true) : o.wr = true := by
  cases o with
  | dk lk _ => rfl
  | dt lk _ => rfl
  | lst _ => rfl
  | ins _ _ => rfl
  | _ => cases h

theorem ext_new {n : Nat} {φ : Nat → Addr} {H : Hp} {p : Addr} {u : HO} (hp : H p = none) : Ext n φ H n φ (upd H p u) :=
  ⟨⟨Nat.le_refl _, fun _ _ => rfl, fun a vs h => by rw [upd_ne (ne_of_none h hp)]; exact h⟩, fun a o v h => by rw [upd_ne (ne_of_none h hp)]; exact h⟩
theorem keep_new {H : Hp} {p : Addr} {u : HO} (hp : H p = none) (a : Addr) : ∀ v, H a = some v → upd H p u a = some v := fun v h => by
  rw [upd_ne (ne_of_none h hp)]; exact h
/-- a new thing that is no place of the store (a tuple) -/
theorem RS.side (R : RS S φ H s) {p : Addr} {u : HO} (hp : H p = none) : RS S φ (upd H p u) s :=
  ⟨fun r hr => RO.ext (ext_new hp).toE0 (keep_new hp _) (R.ob r hr), R.inj⟩
/-- a new place -/
theorem ext_alloc {φ : Nat → Addr} {H : Hp} {n : Nat} {p : Addr} {u : HO} (hp : H p = none) : Ext n φ H (n + 1) (fun q => if q = n then p else φ q) (upd H p u) :=
  ⟨⟨Nat.le_succ _, fun r hr => if_neg (Nat.ne_of_lt hr), (ext_new (n := n) (φ := φ) hp).tup⟩, (ext_new (n := n) (φ := φ) hp).frz⟩
theorem RS.alloc (R : RS S φ H s) {p : Addr} {u : HO} {o : Ob} (hp : H p = none) (ho : RO S (s.n + 1) (fun q => if q = s.n then p else φ q) (upd H p u) p o) :
    RS S (fun q => if q = s.n then p else φ q) (upd H p u) (s.new o) := by
  refine ⟨fun r hr => ?_, fun r q hr hq wr wq e => ?_⟩
  · by_cases h : r = s.n
    · subst h
      simpa [Sto.new] using ho
    · have hr' : r < s.n := by have : r < s.n + 1 := hr; omega
      have := RO.ext (ext_alloc (n := s.n) (φ := φ) (u := u) hp).toE0 (keep_new hp _) (R.ob r hr')
      simpa [Sto.new, h] using this
  · have hr2 : r < s.n + 1 := hr
    have hq2 : q < s.n + 1 := hq
    by_cases h : r = s.n
    · by_cases h' : q = s.n
      · rw [h, h']
      · simp only [if_pos h, if_neg h'] at e
        have hq' : q < s.n := by omega
        have wq' : (s.g q).wr = true := by simpa [Sto.new, h'] using wq
        obtain ⟨u, z, _⟩ := RO.here (R.ob q hq') wq'
        rw [← e, hp] at z; cases z
    · by_cases h' : q = s.n
      · simp only [if_neg h, if_pos h'] at e
        have hr' : r < s.n := by omega
        have wr' : (s.g r).wr = true := by simpa [Sto.new, h] using wr
        obtain ⟨u, z, _⟩ := RO.here (R.ob r hr') wr'
        rw [e, hp] at z; cases z
      · simp only [if_neg h, if_neg h'] at e
        exact R.inj r q (by omega) (by omega) (by simpa [Sto.new, h] using wr) (by simpa [Sto.new, h'] using wq) e
/-- a place is written -/
theorem RS.e0_upd (R : RS S φ H s) {r : Nat} {u : HO} (hr : r < s.n) (w : (s.g r).wr = true) : E0 s.n φ H s.n φ (upd H (φ r) u) := by
  obtain ⟨v, h1, h2, _⟩ := RO.here (R.ob r hr) w
  refine ⟨Nat.le_refl _, fun _ _ => rfl, fun a vs h => ?_⟩
  rw [upd_ne]
  · exact h
  · intro e
    subst e
    rw [h1] at h
    exact h2 vs (Option.some.inj h)
theorem RS.ext_upd (R : RS S φ H s) {r : Nat} {u : HO} (hr : r < s.n) (w : (s.g r).mu = true) : Ext s.n φ H s.n φ (upd H (φ r) u) := by
  obtain ⟨v, h1, h2, h3⟩ := RO.mu (R.ob r hr) w
  refine ⟨R.e0_upd hr (Ob.mu_wr w), fun a o x h => ?_⟩
  rw [upd_ne]
  · exact h
  · intro e
    subst e
    rw [h1] at h
    exact h3 o x (Option.some.inj h)
theorem RS.updw (R : RS S φ H s) {r : Nat} {u : HO} {o : Ob} (hr : r < s.n) (w : (s.g r).wr = true) (ho : RO S s.n φ (L2.upd H (φ r) u) (φ r) o) :
    RS S φ (L2.upd H (φ r) u) (s.put r o) := by
  obtain ⟨v, h1, h2, h3⟩ := RO.here (R.ob r hr) w
  refine ⟨fun q hq => ?_, fun a b ha hb wa wb e => ?_⟩
  · by_cases h : q = r
    · subst h
      simpa [Sto.put] using ho
    · have hq' : q < s.n := hq
      have g : RO S s.n φ H (φ q) (s.g q) := R.ob q hq'
      have e1 : (s.put r o).g q = s.g q := if_neg h
      rw [e1]
      show RO S s.n φ _ (φ q) (s.g q)
      by_cases wq : (s.g q).wr = true
      · refine RO.ext (R.e0_upd hr w) (fun x hx => ?_) g
        rw [upd_ne]
        · exact hx
        · exact fun e => h (R.inj q r hq' hr wq w e)
      · cases hg : s.g q with
        | nil => trivial
        | fro ds =>
          rw [hg] at g
          obtain ⟨vs, k1, k2⟩ := g
          refine ⟨vs, ?_, k2.ext0 (R.e0_upd hr w)⟩
          rcases k1 with ⟨ob, k1⟩ | k1
          · refine .inl ⟨ob, ?_⟩
            rw [upd_ne]
            · exact k1
            · intro e
              rw [e, h1] at k1
              exact h3 ob vs (Option.some.inj k1)
          · exact .inr k1
        | lst _ => rw [hg] at wq; exact absurd rfl wq
        | dk _ _ => rw [hg] at wq; exact absurd rfl wq
        | dt _ _ => rw [hg] at wq; exact absurd rfl wq
        | ins _ _ => rw [hg] at wq; exact absurd rfl wq
  · by_cases ha' : a = r
    · by_cases hb' : b = r
      · rw [ha', hb']
      · exact R.inj a b ha hb (by rw [ha']; exact w) (by simpa [Sto.put, hb'] using wb) e
    · by_cases hb' : b = r
      · exact R.inj a b ha hb (by simpa [Sto.put, ha'] using wa) (by rw [hb']; exact w) e
      · exact R.inj a b ha hb (by simpa [Sto.put, ha'] using wa) (by simpa [Sto.put, hb'] using wb) e
theorem RS.upd (R : RS S φ H s) {r : Nat} {u : HO} {o : Ob} (hr : r < s.n) (w : (s.g r).mu = true) (ho : RO S s.n φ (L2.upd H (φ r) u) (φ r) o) :
    RS S φ (L2.upd H (φ r) u) (s.put r o) := R.updw hr (Ob.mu_wr w) ho
end

/-! ### results -/
section
variable (S : St0)
/-- σ's slots are what the environment says -/
def RE (n : Nat) (φ : Nat → Addr) (H : Hp) (ρ : Env) (σ : St) : Prop := ρ.length = σ.length ∧ ∀ (i : Nat) (d : D), ρ[i]? = some (some d) → ∃ v, σ[i]? = some (some v) ∧ RV S.K n φ H v d
/-- what is wanted of a result, at the state (s₀, φ₀, H₀) -/
def Res (W : WX) (σ : St) (s₀ : Sto) (φ₀ : Nat → Addr) (H₀ : Hp) (r : R D) (Q : VK) : Prop :=
  match r with
  | .ok d s => ∀ φ H v, Ext s₀.n φ₀ H₀ s.n φ H → RS S φ H s → RV S.K s.n φ H v d → Q v H
  | .ex c s => ∀ φ H, Ext s₀.n φ₀ H₀ s.n φ H → RS S φ H s → W (.ref (S.cls c)) none σ H
  | .bad => False
def ResB (W : WX) (σ : St) (s₀ : Sto) (φ₀ : Nat → Addr) (H₀ : Hp) (r : R Bool) (Q : Bool → Hp → Prop) : Prop :=
  match r with
  | .ok b s => ∀ φ H, Ext s₀.n φ₀ H₀ s.n φ H → RS S φ H s → Q b H
  | .ex c s => ∀ φ H, Ext s₀.n φ₀ H₀ s.n φ H → RS S φ H s → W (.ref (S.cls c)) none σ H
  | .bad => False
def ResL (W : WX) (σ : St) (s₀ : Sto) (φ₀ : Nat → Addr) (H₀ : Hp) (r : R (List D)) (Q : List V → Hp → Prop) : Prop :=
  match r with
  | .ok ds s => ∀ φ H vs, Ext s₀.n φ₀ H₀ s.n φ H → RS S φ H s → RVs S.K s.n φ H vs ds → Q vs H
  | .ex c s => ∀ φ H, Ext s₀.n φ₀ H₀ s.n φ H → RS S φ H s → W (.ref (S.cls c)) none σ H
  | .bad => False

/-- the reading of an expression whose meaning is m -/
def tE (W : WX) (m : Env → Sto → R D) : TE := fun σ H Q => ∃ φ ρ s, RE S s.n φ H ρ σ ∧ RS S φ H s ∧ Res S W σ s φ H (m ρ s) Q
def tT (W : WX) (m : Env → Sto → R Bool) : TT := fun σ H Q => ∃ φ ρ s, RE S s.n φ H ρ σ ∧ RS S φ H s ∧ ResB S W σ s φ H (m ρ s) Q
def tL (W : WX) (m : Env → Sto → R (List D)) : TA := fun σ H Q => ∃ φ ρ s, RE S s.n φ H ρ σ ∧ RS S φ H s ∧ ResL S W σ s φ H (m ρ s) Q
end

section
variable {S : St0} {W : WX} {σ : St} {s₀ s₁ : Sto} {φ₀ φ₁ : Nat → Addr} {H₀ H₁ : Hp}
theorem RE.ext {n n' : Nat} {φ φ' : Nat → Addr} {H H' : Hp} {ρ : Env} (h : RE S n φ H ρ σ) (e : Ext n φ H n' φ' H') : RE S n' φ' H' ρ σ :=
  ⟨h.1, fun i d hi => let ⟨v, h1, h2⟩ := h.2 i d hi; ⟨v, h1, h2.ext e⟩⟩
theorem RE.set {n : Nat} {φ : Nat → Addr} {H : Hp} {ρ : Env} {v : V} {d : D} (h : RE S n φ H ρ σ) (i : Nat) (r : RV S.K n φ H v d) : RE S n φ H (ρ.set i (some d)) (σ.set i (some v)) := by
  refine ⟨by simpa using h.1, fun j d' hj => ?_⟩
  by_cases e : i = j
  · subst e
    by_cases hl : i < ρ.length
    · rw [List.getElem?_set_self hl] at hj
      cases hj
      exact ⟨v, List.getElem?_set_self (by rw [← h.1]; exact hl), r⟩
    · rw [List.getElem?_eq_none (by simpa using hl)] at hj; cases hj
  · rw [List.getElem?_set_ne e] at hj ⊢
    exact h.2 j d' hj
theorem Res.mono {r : R D} {Q Q' : VK} (h : Res S W σ s₀ φ₀ H₀ r Q) (hq : ∀ v H, Q v H → Q' v H) : Res S W σ s₀ φ₀ H₀ r Q' := by
  cases r with
  | ok d s => exact fun φ H v e rs rv => hq v H (h φ H v e rs rv)
  | ex c s => exact h
  | bad => exact h
theorem Res.ext {r : R D} {Q : VK} (e : Ext s₀.n φ₀ H₀ s₁.n φ₁ H₁) (h : Res S W σ s₀ φ₀ H₀ r Q) : Res S W σ s₁ φ₁ H₁ r Q := by
  cases r with
  | ok d s => exact fun φ H v e' rs rv => h φ H v (e.trans e') rs rv
  | ex c s => exact fun φ H e' rs => h φ H (e.trans e') rs
  | bad => exact h
theorem ResB.ext {r : R Bool} {Q : Bool → Hp → Prop} (e : Ext s₀.n φ₀ H₀ s₁.n φ₁ H₁) (h : ResB S W σ s₀ φ₀ H₀ r Q) : ResB S W σ s₁ φ₁ H₁ r Q := by
  cases r with
  | ok d s => exact fun φ H e' rs => h φ H (e.trans e') rs
  | ex c s => exact fun φ H e' rs => h φ H (e.trans e') rs
  | bad => exact h
theorem ResL.ext {r : R (List D)} {Q : List V → Hp → Prop} (e : Ext s₀.n φ₀ H₀ s₁.n φ₁ H₁) (h : ResL S W σ s₀ φ₀ H₀ r Q) : ResL S W σ s₁ φ₁ H₁ r Q := by
  cases r with
  | ok d s => exact fun φ H v e' rs rv => h φ H v (e.trans e') rs rv
  | ex c s => exact fun φ H e' rs => h φ H (e.trans e') rs
  | bad => exact h

/-- after a first part: a value d in the state (s, φ, H), and the rest f d s -/
theorem Res.bind {r : R D} {f : D → Sto → R D} {Q : VK} (h : Res S W σ s₀ φ₀ H₀ (r.bind f) Q) :
    Res S W σ s₀ φ₀ H₀ r fun v H => ∃ φ d s, Ext s₀.n φ₀ H₀ s.n φ H ∧ RS S φ H s ∧ RV S.K s.n φ H v d ∧ Res S W σ s φ H (f d s) Q := by
  cases r with
  | ok d s => exact fun φ H v e rs rv => ⟨φ, d, s, e, rs, rv, Res.ext e h⟩
  | ex c s => exact h
  | bad => exact h
theorem Res.bindB {r : R D} {f : D → Sto → R Bool} {Q : Bool → Hp → Prop} (h : ResB S W σ s₀ φ₀ H₀ (r.bind f) Q) :
    Res S W σ s₀ φ₀ H₀ r fun v H => ∃ φ d s, Ext s₀.n φ₀ H₀ s.n φ H ∧ RS S φ H s ∧ RV S.K s.n φ H v d ∧ ResB S W σ s φ H (f d s) Q := by
  cases r with
  | ok d s => exact fun φ H v e rs rv => ⟨φ, d, s, e, rs, rv, ResB.ext e h⟩
  | ex c s => exact h
  | bad => exact h
theorem Res.bindL {r : R D} {f : D → Sto → R (List D)} {Q : List V → Hp → Prop} (h : ResL S W σ s₀ φ₀ H₀ (r.bind f) Q) :
    Res S W σ s₀ φ₀ H₀ r fun v H => ∃ φ d s, Ext s₀.n φ₀ H₀ s.n φ H ∧ RS S φ H s ∧ RV S.K s.n φ H v d ∧ ResL S W σ s φ H (f d s) Q := by
  cases r with
  | ok d s => exact fun φ H v e rs rv => ⟨φ, d, s, e, rs, rv, ResL.ext e h⟩
  | ex c s => exact h
  | bad => exact h
theorem ResB.bind {r : R Bool} {f : Bool → Sto → R D} {Q : VK} (h : Res S W σ s₀ φ₀ H₀ (r.bind f) Q) :
    ResB S W σ s₀ φ₀ H₀ r fun b H => ∃ φ s, Ext s₀.n φ₀ H₀ s.n φ H ∧ RS S φ H s ∧ Res S W σ s φ H (f b s) Q := by
  cases r with
  | ok d s => exact fun φ H e rs => ⟨φ, s, e, rs, Res.ext e h⟩
  | ex c s => exact h
  | bad => exact h
theorem ResB.bindB {r : R Bool} {f : Bool → Sto → R Bool} {Q : Bool → Hp → Prop} (h : ResB S W σ s₀ φ₀ H₀ (r.bind f) Q) :
    ResB S W σ s₀ φ₀ H₀ r fun b H => ∃ φ s, Ext s₀.n φ₀ H₀ s.n φ H ∧ RS S φ H s ∧ ResB S W σ s φ H (f b s) Q := by
  cases r with
  | ok d s => exact fun φ H e rs => ⟨φ, s, e, rs, ResB.ext e h⟩
  | ex c s => exact h
  | bad => exact h
theorem ResL.bind {r : R (List D)} {f : List D → Sto → R D} {Q : VK} (h : Res S W σ s₀ φ₀ H₀ (r.bind f) Q) :
    ResL S W σ s₀ φ₀ H₀ r fun vs H => ∃ φ ds s, Ext s₀.n φ₀ H₀ s.n φ H ∧ RS S φ H s ∧ RVs S.K s.n φ H vs ds ∧ Res S W σ s φ H (f ds s) Q := by
  cases r with
  | ok d s => exact fun φ H v e rs rv => ⟨φ, d, s, e, rs, rv, Res.ext e h⟩
  | ex c s => exact h
  | bad => exact h
theorem ResL.bindL {r : R (List D)} {f : List D → Sto → R (List D)} {Q : List V → Hp → Prop} (h : ResL S W σ s₀ φ₀ H₀ (r.bind f) Q) :
    ResL S W σ s₀ φ₀ H₀ r fun vs H => ∃ φ ds s, Ext s₀.n φ₀ H₀ s.n φ H ∧ RS S φ H s ∧ RVs S.K s.n φ H vs ds ∧ ResL S W σ s φ H (f ds s) Q := by
  cases r with
  | ok d s => exact fun φ H v e rs rv => ⟨φ, d, s, e, rs, rv, ResL.ext e h⟩
  | ex c s => exact h
  | bad => exact h
/-- a value is at hand -/
theorem Res.ok_here {d : D} {Q : VK} {H : Hp} {φ : Nat → Addr} {s : Sto} {v : V} (h : Res S W σ s₀ φ₀ H₀ (.ok d s) Q) (e : Ext s₀.n φ₀ H₀ s.n φ H) (rs : RS S φ H s) (rv : RV S.K s.n φ H v d) : Q v H := h φ H v e rs rv
end

/-! ### weakening of the judgements -/
section
variable {X : Cx} {e : Expr}
theorem pe_imp {t t' : TE} (h : PE X e t) (i : ∀ σ H Q, t' σ H Q → t σ H Q) : PE X e t' := ⟨fun pins s σ H Q I q => h.run pins s σ H Q I (i σ H Q q)⟩
theorem pt_imp {t t' : TT} (h : PT X e t) (i : ∀ σ H Q, t' σ H Q → t σ H Q) : PT X e t' := ⟨fun pins s σ H Q I q => h.run pins s σ H Q I (i σ H Q q)⟩
theorem pw_imp {t t' : TT} (h : PW X e t) (i : ∀ σ H Q, t' σ H Q → t σ H Q) : PW X e t' := ⟨fun wh pins s σ H Q I q => h.run wh pins s σ H Q I (i σ H Q q)⟩
theorem pa_imp {es : List Expr} {t t' : TA} (h : PA X es t) (i : ∀ σ H Q, t' σ H Q → t σ H Q) : PA X es t' := ⟨fun pos pins s σ H Q I q => h.run pos pins s σ H Q I (i σ H Q q)⟩
theorem ps_imp {st : Stmt} {t t' : TS} (h : PS X st t) (i : ∀ D σ H, t' D σ H → t D σ H) : PS X st t' := ⟨fun pins s σ H D I q => h.run pins s σ H D I (i D σ H q)⟩
theorem pss_imp {st : List Stmt} {t t' : TS} (h : PSs X st t) (i : ∀ D σ H, t' D σ H → t D σ H) : PSs X st t' := ⟨fun pins s σ H D I q => h.run pins s σ H D I (i D σ H q)⟩
end
end Ab
set_option Elab.async false
set_option linter.all false
set_option maxRecDepth 100000
set_option maxHeartbeats 1000000
/-! Ab2: operators, comparisons, truth, items, slices -/
namespace Ab
open PySem L2

abbrev O := Option (D × Sto)
def R.ofO : O → R D
  | some (d, s) => .ok d s
  | none => .bad
@[simp] theorem R.ofO_some (d : D) (s : Sto) : R.ofO (some (d, s)) = .ok d s := rfl
@[simp] theorem R.ofO_none : R.ofO none = .bad := rfl
def ResO (S : St0) (s₀ : Sto) (φ₀ : Nat → Addr) (H₀ : Hp) (r : O) (Q : VK) : Prop :=
  match r with
  | some (d, s) => ∀ φ H v, Ext s₀.n φ₀ H₀ s.n φ H → RS S φ H s → RV S.K s.n φ H v d → Q v H
  | none => False
section
variable {S : St0} {W : WX} {σ : St} {s₀ : Sto} {φ₀ : Nat → Addr} {H₀ : Hp}
theorem ResO.of {r : O} {Q : VK} (h : Res S W σ s₀ φ₀ H₀ (.ofO r) Q) : ResO S s₀ φ₀ H₀ r Q := by
  cases r with
  | none => exact h
  | some p => exact h
end

/-! ### + - * // % ** -/
inductive BO where
  | add | sub | mul | fdiv | mod | pow
  deriving DecidableEq
def BO.ast : BO → Operator
  | .add => .Add | .sub => .Sub | .mul => .Mult | .fdiv => .FloorDiv | .mod => .Mod | .pow => .Pow
def lstOf (s : Sto) (r : Nat) : Option (List D) := match s.g r with
  | .lst xs => some xs
  | _ => none
/-- a list that may be read -/
def rdOf (s : Sto) (r : Nat) : Option (List D) := match s.g r with
  | .lst xs => some xs
  | .fro xs => some xs
  | _ => none
def small64 (i : Int) : Bool := decide (-(2 ^ 64) < i) && decide (i < 2 ^ 64)
def opB : BO → D → D → Sto → O
  | .add, .int i, .int j, s => some (.int (i + j), s)
  | .add, .str x, .str y, s => if x.length + y.length ≤ sizeLine then some (.str (x ++ y), s) else none
  | .add, .tup xs, .tup ys, s => if xs.length + ys.length ≤ sizeLine then some (.tup (xs ++ ys), s) else none
  | .add, .ref a, .ref b, s => (lstOf s a).bind fun xs => (lstOf s b).bind fun ys => if xs.length + ys.length ≤ sizeLine then some (.ref s.n, s.new (.lst (xs ++ ys))) else none
  | .sub, .int i, .int j, s => some (.int (i - j), s)
  | .mul, .int i, .int j, s => if (small64 i || small64 j) = true then some (.int (i * j), s) else none
  | .mul, .tup xs, .int k, s => if (!xs.isEmpty && decide (2 ≤ k) && decide (k ≤ 1000) && decide (xs.length ≤ 1000)) = true then some (.tup (List.replicate k.toNat xs).flatten, s) else none
  | .fdiv, .int i, .int j, s => if 0 < j ∧ j < 1073741824 then some (.int (i / j), s) else none
  | .mod, .int i, .int j, s => if 0 < j then some (.int (i % j), s) else none
  | .pow, .int i, .int j, s => if 0 ≤ j ∧ j ≤ 1000000 ∧ i.natAbs < 2 ^ 64 then some (.int (i ^ j.toNat), s) else none
  | _, _, _, _ => none

/-- the reading of an operation by data -/
def rOp (S : St0) (f : D → D → Sto → O) : R2 := fun x y H Q => ∃ φ s d e, RS S φ H s ∧ RV S.K s.n φ H x d ∧ RV S.K s.n φ H y e ∧ ResO S s φ H (f d e s) Q
def rUn (S : St0) (f : D → Sto → O) : V → Hp → VK → Prop := fun x H Q => ∃ φ s d, RS S φ H s ∧ RV S.K s.n φ H x d ∧ ResO S s φ H (f d s) Q
section
variable {S : St0} {φ : Nat → Addr} {H : Hp} {s : Sto} {n : Nat} {K : PySem.W.Frag}
theorem lst_at {r : Nat} {xs : List D} (R : RS S φ H s) (hr : r < s.n) (h : lstOf s r = some xs) : ∃ vs, H (φ r) = some (.lst vs) ∧ RVs S.K s.n φ H vs xs ∧ s.g r = .lst xs := by
  have g := R.ob r hr
  unfold lstOf at h
  cases e : s.g r with
  | lst ys =>
    rw [e] at g h
    cases h
    obtain ⟨vs, h1, h2⟩ := g
    exact ⟨vs, h1, h2, rfl⟩
  | _ => rw [e] at h; cases h
theorem rd_at {r : Nat} {xs : List D} (R : RS S φ H s) (hr : r < s.n) (h : rdOf s r = some xs) : ∃ vs, SqL S.K H (φ r) vs ∧ RVs S.K s.n φ H vs xs := by
  have g := R.ob r hr
  unfold rdOf at h
  cases e : s.g r with
  | lst ys =>
    rw [e] at g h
    cases h
    obtain ⟨vs, h1, h2⟩ := g
    exact ⟨vs, .of h1, h2⟩
  | fro ys =>
    rw [e] at g h
    cases h
    obtain ⟨vs, h1, h2⟩ := g
    exact ⟨vs, h1.sql, h2⟩
  | _ => rw [e] at h; cases h
/-- a new tuple -/
theorem new_tup {vs : List V} {ds : List D} {Q : VK} (R : RS S φ H s) (rv : RVs S.K s.n φ H vs ds) (h : ResO S s φ H (some (.tup ds, s)) Q) : ∀ p, H p = none → Q (.ref p) (upd H p (.tup vs)) := fun p hp =>
  h φ _ _ (ext_new hp) (R.side hp) (.tup upd_same (rv.ext (ext_new hp)))
/-- a new list -/
theorem new_lst {vs : List V} {ds : List D} {Q : VK} (R : RS S φ H s) (rv : RVs S.K s.n φ H vs ds) (h : ResO S s φ H (some (.ref s.n, s.new (.lst ds))) Q) : ∀ p, H p = none → Q (.ref p) (upd H p (.lst vs)) := fun p hp => by
  have e : Ext s.n φ H (s.n + 1) (fun q => if q = s.n then p else φ q) (upd H p (.lst vs)) := ext_alloc hp
  have q := h _ _ (.ref p) e (R.alloc hp ⟨vs, upd_same, rv.ext e⟩)
  refine q ?_
  have := RV.ref (K := S.K) (n := s.n + 1) (φ := fun q => if q = s.n then p else φ q) (H := upd H p (.lst vs)) (r := s.n) (Nat.lt_succ_self _)
  simp only [if_true] at this
  exact this
theorem nil_iff {vs : List V} {ds : List D} (h : RVs K n φ H vs ds) : vs = [] ↔ ds = [] := by
  cases h <;> simp
theorem RVs.rep {vs : List V} {ds : List D} (h : RVs K n φ H vs ds) : ∀ k : Nat, RVs K n φ H (List.replicate k vs).flatten (List.replicate k ds).flatten
  | 0 => .nil
  | k + 1 => by
    rw [List.replicate_succ, List.replicate_succ, List.flatten_cons, List.flatten_cons]
    exact h.append (RVs.rep h k)
theorem small64_ok {i j : Int} (h : (small64 i || small64 j) = true) : CMul i j := by
  simpa [small64, CMul] using h
end
section
variable {X : Cx} {S : St0}
theorem cat_case {a b : Nat} {pins : List (Addr × Obj)} {st : Shared} {σ : St} {H : Hp} {x y : V} {v u : Value} {Q : VK} {φ : Nat → Addr} {s : Sto} (R : RS S φ H s) (rd : RV S.K s.n φ H x (.ref a)) (re : RV S.K s.n φ H y (.ref b))
    (I : Inv X pins σ H st) (rx : RelV x v) (ry : RelV y u) (h : ResO S s φ H ((lstOf s a).bind fun xs => (lstOf s b).bind fun ys => if xs.length + ys.length ≤ sizeLine then some (.ref s.n, s.new (.lst (xs ++ ys))) else none) Q) :
    wpAny (model X.prog X.w) X.A (binaryOp .Add v u) (EP X pins σ Q) X.xe st := by
  cases rd with | ref ha => cases re with | ref hb =>
  cases e1 : lstOf s a with
  | none => rw [e1] at h; exact h.elim
  | some xs =>
    cases e2 : lstOf s b with
    | none => rw [e1, e2] at h; exact h.elim
    | some ys =>
      rw [e1, e2] at h
      obtain ⟨vs, h1, h2, _⟩ := lst_at R ha e1
      obtain ⟨ws, k1, k2, _⟩ := lst_at R hb e2
      have h' : ResO S s φ H (if xs.length + ys.length ≤ sizeLine then some (.ref s.n, s.new (.lst (xs ++ ys))) else none) Q := h
      split at h'
      · rename_i hz
        exact op_cat pins st σ H _ _ v u Q I rx ry ⟨_, _, _, _, rfl, rfl, h1, k1, by rw [h2.length, k2.length]; exact hz, new_lst R (h2.append k2) h'⟩
      · exact h'.elim
theorem op_sound (hK : X.K = S.K) (o : BO) : OpR X (binaryOp o.ast) (rOp S (opB o)) := by
  rintro pins st σ H x y v u Q I rx ry ⟨φ, s, d, e, R, rd, re, h⟩
  unfold opB at h
  split at h
  · cases rd; cases re
    exact op_add pins st σ H _ _ v u Q I rx ry ⟨_, _, rfl, rfl, h φ H _ .refl R (.int _)⟩
  · cases rd; cases re
    split at h
    · rename_i hz
      exact op_add_str pins st σ H _ _ v u Q I rx ry ⟨_, _, rfl, rfl, hz, h φ H _ .refl R (.str _)⟩
    · exact h.elim
  · cases rd with | tup t1 r1 => cases re with | tup t2 r2 =>
    split at h
    · rename_i hz
      refine op_catA pins st σ H _ _ v u Q I rx ry ⟨_, _, _, _, rfl, rfl, hK ▸ .of t1, hK ▸ .of t2, by rw [r1.length, r2.length]; exact hz, fun e => ?_, fun _ e => ?_, fun _ _ => new_tup R (r1.append r2) h⟩
      · have e' := (nil_iff r1).mp e
        subst e'
        exact h φ H _ .refl R (.tup t2 r2)
      · have e' := (nil_iff r2).mp e
        subst e'
        rw [List.append_nil] at h
        exact h φ H _ .refl R (.tup t1 r1)
    · exact h.elim
  · exact cat_case R rd re I rx ry h
  · cases rd; cases re
    exact op_sub pins st σ H _ _ v u Q I rx ry ⟨_, _, rfl, rfl, h φ H _ .refl R (.int _)⟩
  · cases rd; cases re
    split at h
    · rename_i hz
      exact op_mul pins st σ H _ _ v u Q I rx ry ⟨_, _, rfl, rfl, small64_ok hz, h φ H _ .refl R (.int _)⟩
    · exact h.elim
  · cases rd with | tup t1 r1 =>
    cases re
    split at h
    · rename_i hz
      simp only [Bool.and_eq_true, Bool.not_eq_true', decide_eq_true_eq] at hz
      obtain ⟨⟨⟨z1, z2⟩, z3⟩, z4⟩ := hz
      refine op_repT pins st σ H _ _ v u Q I rx ry ⟨_, _, _, rfl, rfl, hK ▸ .of t1, fun e => ?_, z2, z3, by rw [r1.length]; exact z4, new_tup R (r1.rep _) h⟩
      rw [(nil_iff r1).mp e] at z1
      cases z1
    · exact h.elim
  · cases rd; cases re
    split at h
    · rename_i hz
      exact op_fdiv pins st σ H _ _ v u Q I rx ry ⟨_, _, rfl, rfl, hz, h φ H _ .refl R (.int _)⟩
    · exact h.elim
  · cases rd; cases re
    split at h
    · rename_i hz
      exact op_mod pins st σ H _ _ v u Q I rx ry ⟨_, _, rfl, rfl, hz, h φ H _ .refl R (.int _)⟩
    · exact h.elim
  · cases rd; cases re
    split at h
    · rename_i hz
      exact op_pow pins st σ H _ _ v u Q I rx ry ⟨_, _, rfl, rfl, hz, h φ H _ .refl R (.int _)⟩
    · exact h.elim
  · exact h.elim
def opN : D → Sto → O
  | .int i, s => some (.int (-i), s)
  | _, _ => none
theorem neg_sound : UnR X (unaryOp .USub) (rUn S opN) := by
  rintro pins st σ H x v Q I rx ⟨φ, s, d, R, rd, h⟩
  unfold opN at h
  split at h
  · cases rd
    exact un_neg pins st σ H _ v Q I rx ⟨_, rfl, h φ H _ .refl R (.int _)⟩
  · exact h.elim
/-- x op= y (+, - of ints; + of texts; += of lists) -/
def ipB : BO → D → D → Sto → O
  | .add, .int i, .int j, s => some (.int (i + j), s)
  | .sub, .int i, .int j, s => some (.int (i - j), s)
  | _, _, _, _ => none
theorem ip_sound (o : BO) : OpR X (inplaceOp o.ast) (rOp S (ipB o)) := by
  rintro pins st σ H x y v u Q I rx ry ⟨φ, s, d, e, R, rd, re, h⟩
  unfold ipB at h
  split at h
  · cases rd; cases re
    exact iop_add pins st σ H _ _ v u Q I rx ry ⟨_, _, rfl, rfl, h φ H _ .refl R (.int _)⟩
  · cases rd; cases re
    exact iop_sub pins st σ H _ _ v u Q I rx ry ⟨_, _, rfl, rfl, h φ H _ .refl R (.int _)⟩
  · exact h.elim
end

/-! ### data as PyData -/
def optAll {α β : Type} (f : α → Option β) : List α → Option (List β)
  | [] => some []
  | x :: xs => (f x).bind fun y => (optAll f xs).map fun ys => y :: ys
def toP : Nat → Sto → D → Option PyData
  | 0, _, _ => none
  | f + 1, s, d => match d with
    | .non => some .none
    | .bl b => some (.bool b)
    | .int i => some (.int i)
    | .str x => if PyData.strOk x = true then some (.str x) else none
    | .tup xs => (optAll (toP f s) xs).map .tuple
    | .kt xs => (optAll (toP f s) xs).map .tuple
    | .ref r => (rdOf s r).bind fun xs => (optAll (toP f s) xs).map .list
theorem toP_ref (f : Nat) (s : Sto) (r : Nat) : toP (f + 1) s (.ref r) = (rdOf s r).bind fun xs => (optAll (toP f s) xs).map .list := rfl
section
variable {S : St0} {φ : Nat → Addr} {H : Hp} {s : Sto}
theorem optAll_dp {f : D → Option PyData} (hf : ∀ d p v, f d = some p → RV S.K s.n φ H v d → Dp S.K H v p) : ∀ {xs : List D} {ps : List PyData} {vs : List V}, optAll f xs = some ps → RVs S.K s.n φ H vs xs → DpAll S.K H vs ps
  | [], ps, vs, h, r => by cases r; cases h; exact .nil
  | x :: xs, ps, vs, h, r => by
    cases r with | cons a b =>
    unfold optAll at h
    cases e1 : f x with
    | none => rw [e1] at h; cases h
    | some p =>
      cases e2 : optAll f xs with
      | none => rw [e1, e2] at h; cases h
      | some qs =>
        rw [e1, e2] at h
        cases h
        exact .cons (hf x p _ e1 a) (optAll_dp hf e2 b)
theorem toP_dp (R : RS S φ H s) : ∀ (f : Nat) (d : D) (p : PyData) (v : V), toP f s d = some p → RV S.K s.n φ H v d → Dp S.K H v p
  | 0, _, _, _, h, _ => by cases h
  | f + 1, d, p, v, h, r => by
    cases r with
    | non => cases h; exact .non
    | bl b => cases h; exact .bl b
    | int i => cases h; exact .int i
    | str x =>
      simp only [toP] at h
      split at h
      · cases h; exact .str x
      · cases h
    | @tup a vs ds t rs =>
      simp only [toP] at h
      cases e : optAll (toP f s) ds with
      | none => rw [e] at h; cases h
      | some ps => rw [e] at h; cases h; exact .tup (.of t) (optAll_dp (toP_dp R f) e rs)
    | @kt a vs ds t rs =>
      simp only [toP] at h
      cases e : optAll (toP f s) ds with
      | none => rw [e] at h; cases h
      | some ps => rw [e] at h; cases h; exact .tup t.sqt (optAll_dp (toP_dp R f) e rs)
    | @ref r hr =>
      simp only [toP] at h
      cases e0 : rdOf s r with
      | none => rw [e0] at h; cases h
      | some ds =>
        obtain ⟨vs, h1, h2⟩ := rd_at R hr e0
        rw [e0] at h
        simp only [Option.bind_some] at h
        cases e : optAll (toP f s) ds with
        | none => rw [e] at h; cases h
        | some ps => rw [e] at h; cases h; exact .lst h1 (optAll_dp (toP_dp R f) e h2)
theorem optAll_sh {f : D → Option PyData} {n : Nat} (hf : ∀ d p, f d = some p → p.canLay0 = true ∧ p.depth ≤ n) : ∀ {xs : List D} {ps : List PyData}, optAll f xs = some ps → PyData.canLayAll0 ps = true ∧ PyData.depthAll ps ≤ n
  | [], ps, h => by cases h; simp [PyData.canLayAll0, PyData.depthAll]
  | x :: xs, ps, h => by
    unfold optAll at h
    cases e1 : f x with
    | none => rw [e1] at h; cases h
    | some p =>
      cases e2 : optAll f xs with
      | none => rw [e1, e2] at h; cases h
      | some qs =>
        rw [e1, e2] at h
        cases h
        obtain ⟨a, b⟩ := hf x p e1
        obtain ⟨c, d⟩ := optAll_sh hf e2
        simp only [PyData.canLayAll0, PyData.depthAll, a, c, Bool.and_self, true_and]
        exact Nat.max_le.mpr ⟨b, d⟩
theorem toP_sh : ∀ (f : Nat) (d : D) (p : PyData), toP f s d = some p → p.canLay0 = true ∧ p.depth ≤ f
  | 0, _, _, h => by cases h
  | f + 1, d, p, h => by
    cases d with
    | non => cases h; simp [PyData.canLay0, PyData.depth]
    | bl b => cases h; simp [PyData.canLay0, PyData.depth]
    | int i => cases h; simp [PyData.canLay0, PyData.depth]
    | str x =>
      simp only [toP] at h
      split at h
      · rename_i hx
        cases h
        simp [PyData.canLay0, PyData.depth, hx]
      · cases h
    | tup ds =>
      simp only [toP] at h
      cases e : optAll (toP f s) ds with
      | none => rw [e] at h; cases h
      | some ps =>
        rw [e] at h; cases h
        obtain ⟨a, b⟩ := optAll_sh (toP_sh f) e
        simp only [PyData.canLay0, PyData.depth, a, true_and]
        omega
    | kt ds =>
      simp only [toP] at h
      cases e : optAll (toP f s) ds with
      | none => rw [e] at h; cases h
      | some ps =>
        rw [e] at h; cases h
        obtain ⟨a, b⟩ := optAll_sh (toP_sh f) e
        simp only [PyData.canLay0, PyData.depth, a, true_and]
        omega
    | ref r =>
      simp only [toP] at h
      cases e0 : rdOf s r with
      | none => rw [e0] at h; cases h
      | some ds =>
        rw [e0] at h
        simp only [Option.bind_some] at h
        cases e : optAll (toP f s) ds with
        | none => rw [e] at h; cases h
        | some ps =>
          rw [e] at h; cases h
          obtain ⟨a, b⟩ := optAll_sh (toP_sh f) e
          simp only [PyData.canLay0, PyData.depth, a, true_and]
          omega
theorem toP_shaped {d : D} {p : PyData} {f : Nat} (hf : f ≤ 64) (h : toP f s d = some p) : SeqAt.shaped p = true := by
  obtain ⟨a, b⟩ := toP_sh f d p h
  unfold SeqAt.shaped
  rw [a, Bool.true_and]
  exact decide_eq_true (Nat.le_trans b hf)
end

/-! ### comparisons -/
inductive CO where
  | eq | ne | lt | le | gt | ge | is | isn | inn | nin
  deriving DecidableEq
def CO.ast : CO → CmpOp
  | .eq => .Eq | .ne => .NotEq | .lt => .Lt | .le => .LtE | .gt => .Gt | .ge => .GtE | .is => .Is | .isn => .IsNot | .inn => .In | .nin => .NotIn
/-- == of flat data -/
def eqF : D → D → Bool
  | .non, .non => true
  | .bl a, .bl b => a == b
  | .bl a, .int b => (if a then 1 else 0) == b
  | .int a, .bl b => a == (if b then 1 else 0)
  | .int a, .int b => a == b
  | .str a, .str b => a == b
  | _, _ => false
def flatD : D → Bool
  | .non => true
  | .bl _ => true
  | .int _ => true
  | .str _ => true
  | _ => false
/-- the pairs that the hand layer's == of scalars serves -/
def scalD : D → D → Bool
  | .non, .non => true | .non, .int _ => true | .int _, .non => true | .non, .bl _ => true | .bl _, .non => true | .non, .str _ => true | .str _, .non => true
  | .int _, .int _ => true | .bl _, .bl _ => true | .str _, .str _ => true
  | .int _, .str _ => true | .str _, .int _ => true | .bl _, .str _ => true | .str _, .bl _ => true
  | _, _ => false
def eqO (d e : D) (s : Sto) : Option Bool :=
  if scalD d e = true then some (eqF d e) else (toP 12 s d).bind fun p => (toP 12 s e).map fun q => PyData.eqv p q
def keyO : D → Option Key
  | .int i => some (.inl i)
  | .str x => some (.inr x)
  | _ => none
def keysO : D → Option (List Key)
  | .tup xs => optAll keyO xs
  | _ => none
def getG {κ : Type} [DecidableEq κ] (kvs : List (κ × D)) (k : κ) : Option D := (kvs.find? fun kv => decide (kv.1 = k)).map (·.2)
def putG {κ : Type} [DecidableEq κ] (kvs : List (κ × D)) (k : κ) (v : D) : List (κ × D) :=
  if (kvs.any fun kv => decide (kv.1 = k)) = true then kvs.map (fun kv => if kv.1 = k then (kv.1, v) else kv) else kvs ++ [(k, v)]
/-- what a dict at r holds at the key d -/
def dgetO (s : Sto) (r : Nat) (d : D) : Option (Option D) := match s.g r with
  | .dk _ kvs => (keyO d).map fun k => getG kvs k
  | .dt _ kvs => (keysO d).map fun k => getG kvs k
  | _ => none
def inO (d e : D) (s : Sto) : Option Bool := match e with
  | .tup ys => if (flatD d && ys.all flatD) = true then some (ys.any fun y => eqF y d) else none
  | .kt ys => if (flatD d && ys.all flatD) = true then some (ys.any fun y => eqF y d) else none
  | .ref r => match rdOf s r with
    | some ys => if (flatD d && ys.all flatD) = true then some (ys.any fun y => eqF y d)
      else (toP 12 s d).bind fun p => (optAll (toP 12 s) ys).map fun qs => qs.any fun q => PyData.eqv q p
    | none => (dgetO s r d).map (·.isSome)
  | .str y => match d with
    | .str x => some (!(Builtin.Str.occurrences y x 0 y.length 1).isEmpty)
    | _ => none
  | _ => none
def isO (d e : D) : Option Bool := match d, e with
  | .non, .non => some true
  | d, .non => some (match d with | .non => true | _ => false)
  | .bl a, .bl b => some (decide (a = b))
  | _, _ => none
def opC (o : CO) (d e : D) (s : Sto) : O := match o with
  | .eq => (eqO d e s).map fun b => (.bl b, s)
  | .ne => (eqO d e s).map fun b => (.bl (!b), s)
  | .lt => match d, e with
    | .int i, .int j => some (.bl (decide (i < j)), s)
    | _, _ => none
  | .le => match d, e with
    | .int i, .int j => some (.bl (decide (i ≤ j)), s)
    | _, _ => none
  | .gt => match d, e with
    | .int i, .int j => some (.bl (decide (j < i)), s)
    | _, _ => none
  | .ge => match d, e with
    | .int i, .int j => some (.bl (decide (j ≤ i)), s)
    | _, _ => none
  | .is => (isO d e).map fun b => (.bl b, s)
  | .isn => (isO d e).map fun b => (.bl (!b), s)
  | .inn => (inO d e s).map fun b => (.bl b, s)
  | .nin => (inO d e s).map fun b => (.bl (!b), s)

section
variable {S : St0} {φ : Nat → Addr} {H : Hp} {s : Sto} {K : PySem.W.Frag} {n : Nat}
theorem flat_rv {v : V} {d : D} (r : RV K n φ H v d) (h : flatD d = true) : flatV v = true := by
  cases r <;> first | rfl | cases h
theorem eqF_rv {v w : V} {d e : D} (r : RV K n φ H v d) (q : RV K n φ H w e) (hd : flatD d = true) (he : flatD e = true) : eqV v w = eqF d e := by
  cases r <;> cases q <;> first | rfl | cases hd | cases he
theorem any_rv {v : V} {d : D} (r : RV K n φ H v d) (hd : flatD d = true) : ∀ {vs : List V} {ds : List D}, RVs K n φ H vs ds → ds.all flatD = true → inV v vs = ds.any fun y => eqF y d
  | _, _, .nil, _ => rfl
  | _, _, .cons a b, h => by
    rw [List.all_cons, Bool.and_eq_true] at h
    show (eqV _ v || inV v _) = _
    rw [List.any_cons, eqF_rv a r h.1 hd, any_rv r hd b h.2]
theorem all_rv : ∀ {vs : List V} {ds : List D}, RVs K n φ H vs ds → ds.all flatD = true → vs.all flatV = true
  | _, _, .nil, _ => rfl
  | _, _, .cons a b, h => by
    rw [List.all_cons, Bool.and_eq_true] at h
    rw [List.all_cons, flat_rv a h.1, all_rv b h.2]
    rfl
theorem key_rv {v : V} {d : D} {k : Key} (r : RV K n φ H v d) (h : keyO d = some k) : v = kV k := by
  cases r <;> cases h <;> rfl
theorem keys_rv : ∀ {vs : List V} {ds : List D} {ks : List Key}, RVs K n φ H vs ds → optAll keyO ds = some ks → vs = ks.map kV
  | _, [], ks, .nil, h => by cases h; rfl
  | _, d :: ds, ks, .cons a b, h => by
    unfold optAll at h
    cases e1 : keyO d with
    | none => rw [e1] at h; cases h
    | some k =>
      cases e2 : optAll keyO ds with
      | none => rw [e1, e2] at h; cases h
      | some ks' =>
        rw [e1, e2] at h
        cases h
        rw [key_rv a e1, keys_rv b e2]
        rfl
theorem RKs.find {κ : Type} [DecidableEq κ] (k : κ) : ∀ {vs : List (κ × V)} {ds : List (κ × D)}, RKs K n φ H vs ds → (valV vs k = none ∧ getG ds k = none) ∨ ∃ v d, valV vs k = some v ∧ getG ds k = some d ∧ RV K n φ H v d
  | _, _, .nil => .inl ⟨rfl, rfl⟩
  | _, _, .cons (k := k') (v := v) (d := d) a b => by
    by_cases h : k' = k
    · exact .inr ⟨v, d, by simp [valV, List.find?_cons, h], by simp [getG, List.find?_cons, h], a⟩
    · rcases RKs.find k b with ⟨h1, h2⟩ | ⟨v', d', h1, h2, h3⟩
      · exact .inl ⟨by simpa [valV, List.find?_cons, h] using h1, by simpa [getG, List.find?_cons, h] using h2⟩
      · exact .inr ⟨v', d', by simpa [valV, List.find?_cons, h] using h1, by simpa [getG, List.find?_cons, h] using h2, h3⟩
theorem RKs.any {κ : Type} [DecidableEq κ] (k : κ) : ∀ {vs : List (κ × V)} {ds : List (κ × D)}, RKs K n φ H vs ds → (vs.any fun kv => decide (kv.1 = k)) = ds.any fun kv => decide (kv.1 = k)
  | _, _, .nil => rfl
  | _, _, .cons a b => by rw [List.any_cons, List.any_cons, RKs.any k b]
theorem RKs.repl {κ : Type} [DecidableEq κ] (k : κ) {v : V} {d : D} (r : RV K n φ H v d) : ∀ {vs : List (κ × V)} {ds : List (κ × D)}, RKs K n φ H vs ds → RKs K n φ H (vs.map fun kv => if kv.1 = k then (kv.1, v) else kv) (ds.map fun kv => if kv.1 = k then (kv.1, d) else kv)
  | _, _, .nil => .nil
  | _, _, .cons (k := k') a b => by
    rw [List.map_cons, List.map_cons]
    by_cases h : k' = k
    · simp only [h, if_true]
      exact .cons r (RKs.repl k r b)
    · simp only [h, if_false]
      exact .cons a (RKs.repl k r b)
theorem RKs.append {κ : Type} : ∀ {vs ws : List (κ × V)} {ds es : List (κ × D)}, RKs K n φ H vs ds → RKs K n φ H ws es → RKs K n φ H (vs ++ ws) (ds ++ es)
  | _, _, _, _, .nil, s => s
  | _, _, _, _, .cons r t, s => .cons r (RKs.append t s)
theorem RKs.put {κ : Type} [DecidableEq κ] (k : κ) {v : V} {d : D} (r : RV K n φ H v d) {vs : List (κ × V)} {ds : List (κ × D)} (h : RKs K n φ H vs ds) : RKs K n φ H (putK vs k v) (putG ds k d) := by
  unfold putK putG
  rw [h.any k]
  split
  · exact h.repl k r
  · exact h.append (.cons r .nil)
theorem RKs.length {κ : Type} : ∀ {vs : List (κ × V)} {ds : List (κ × D)}, RKs K n φ H vs ds → vs.length = ds.length
  | _, _, .nil => rfl
  | _, _, .cons a b => by simp [RKs.length b]
theorem keysO_tup {v : V} {d : D} {ks : List Key} (r : RV K n φ H v d) (h : keysO d = some ks) : ∃ a, v = .ref a ∧ H a = some (.tup (ks.map kV)) := by
  cases r with
  | tup t rs => exact ⟨_, rfl, by rw [← keys_rv rs h]; exact t⟩
  | _ => cases h
/-- a dict's look-up -/
theorem dget_at {r : Nat} {v : V} {d : D} {o : Option D} (R : RS S φ H s) (hr : r < s.n) (rv : RV S.K s.n φ H v d) (h : dgetO s r d = some o) :
    ∃ o', DGet H (φ r) v o' ∧ ((o = none ∧ o' = none) ∨ ∃ x y, o = some x ∧ o' = some y ∧ RV S.K s.n φ H y x) := by
  have g := R.ob r hr
  unfold dgetO at h
  cases e : s.g r with
  | dk lk kvs =>
    rw [e] at g h
    obtain ⟨vs, h1, h2⟩ := g
    cases ek : keyO d with
    | none => rw [ek] at h; cases h
    | some k =>
      rw [ek] at h
      cases h
      have hrd : Rd H (φ r) (.dK vs) := by
        cases lk with
        | true => obtain ⟨o, h1⟩ := h1; exact .inr ⟨o, h1⟩
        | false => exact .inl h1
      refine ⟨valV vs k, .inl ⟨vs, k, hrd, key_rv rv ek, rfl⟩, ?_⟩
      rcases h2.find k with ⟨a, b⟩ | ⟨y, x, a, b, c⟩
      · exact .inl ⟨b, a⟩
      · exact .inr ⟨x, y, b, a, c⟩
  | dt lk kvs =>
    rw [e] at g h
    obtain ⟨vs, h1, h2⟩ := g
    cases ek : keysO d with
    | none => rw [ek] at h; cases h
    | some k =>
      rw [ek] at h
      cases h
      obtain ⟨a, e1, t⟩ := keysO_tup rv ek
      have hrd : Rd H (φ r) (.dT vs) := by
        cases lk with
        | true => obtain ⟨o, h1⟩ := h1; exact .inr ⟨o, h1⟩
        | false => exact .inl h1
      refine ⟨valV vs k, .inr ⟨vs, k, a, hrd, e1, t, rfl⟩, ?_⟩
      rcases h2.find k with ⟨a, b⟩ | ⟨y, x, a, b, c⟩
      · exact .inl ⟨b, a⟩
      · exact .inr ⟨x, y, b, a, c⟩
  | _ => rw [e] at h; cases h
end

section
variable {X : Cx} {S : St0}
theorem in_sound (hK : X.K = S.K) (hu : X.A.units + 65 < cLine) (neg : Bool) : OpR X (compareOp (if neg then .NotIn else .In)) (rOp S fun d e s => (inO d e s).map fun b => (.bl (if neg then !b else b), s)) := by
  rintro pins st σ H x y v u Q I rx ry ⟨φ, s, d, e, R, rd, re, h⟩
  cases ein : inO d e s with
  | none => simp only [ein] at h; exact h.elim
  | some b =>
    simp only [ein, Option.map_some] at h
    have q := h φ H _ .refl R (.bl (if neg then !b else b))
    have seqc : ∀ {p : Addr} {vs : List V} {ys : List D}, y = .ref p → (SqL S.K H p vs ∨ SqT S.K H p vs) → RVs S.K s.n φ H vs ys → (flatD d && ys.all flatD) = true → (ys.any fun z => eqF z d) = b →
        wpAny (model X.prog X.w) X.A (compareOp (if neg then .NotIn else .In) v u) (EP X pins σ Q) X.xe st := fun {p vs ys} ey hp rvs hf hb => by
      rw [Bool.and_eq_true] at hf
      have hin : inV x vs = b := (any_rv rd hf.1 rvs hf.2).trans hb
      cases neg with
      | false => exact op_in_seq pins st σ H x y v u Q I rx ry ⟨p, vs, ey, hK ▸ hp, flat_rv rd hf.1, all_rv rvs hf.2, by rw [hin]; exact q⟩
      | true => exact op_notIn_seq pins st σ H x y v u Q I rx ry ⟨p, vs, ey, hK ▸ hp, flat_rv rd hf.1, all_rv rvs hf.2, by rw [hin]; exact q⟩
    unfold inO at ein
    cases e with
    | tup ys =>
      simp only at ein
      split at ein
      · rename_i hf
        cases re with | tup t rs => exact seqc rfl (.inr (.of t)) rs hf (Option.some.inj ein)
      · cases ein
    | kt ys =>
      simp only at ein
      split at ein
      · rename_i hf
        cases re with | kt t rs => exact seqc rfl (.inr t.sqt) rs hf (Option.some.inj ein)
      · cases ein
    | str ys =>
      cases d with
      | str xs =>
        simp only at ein
        cases Option.some.inj ein
        cases re; cases rd
        cases neg with
        | false => exact op_in_str pins st σ H _ _ v u Q I rx ry ⟨_, _, rfl, rfl, q⟩
        | true => exact op_notin_str pins st σ H _ _ v u Q I rx ry ⟨_, _, rfl, rfl, q⟩
      | _ => cases ein
    | ref r =>
      cases re with | ref hr =>
      simp only at ein
      cases er : rdOf s r with
      | some ys =>
        rw [er] at ein
        simp only at ein
        obtain ⟨vs, h1, h2⟩ := rd_at R hr er
        split at ein
        · rename_i hf
          exact seqc rfl (.inl h1) h2 hf (Option.some.inj ein)
        · cases e1 : toP 12 s d with
          | none => rw [e1] at ein; cases ein
          | some p =>
            cases e2 : optAll (toP 12 s) ys with
            | none => rw [e1, e2] at ein; cases ein
            | some qs =>
              rw [e1, e2] at ein
              have hb : (qs.any fun q => PyData.eqv q p) = b := Option.some.inj ein
              have d1 := toP_dp R 12 d p x e1 rd
              have d2 : Dp S.K H (.ref (φ r)) (.list qs) := .lst h1 (optAll_dp (toP_dp R 12) e2 h2)
              have s1 : SeqAt.shaped p = true := toP_shaped (by decide) e1
              have s2 : SeqAt.shaped (.list qs) = true := toP_shaped (f := 13) (s := s) (d := .ref r) (by decide) (by rw [show (13 : Nat) = 12 + 1 from rfl, toP_ref, er]; show (optAll (toP 12 s) ys).map _ = _; rw [e2]; rfl)
              cases neg with
              | false => exact op_inD hu pins st σ H _ _ v u Q I rx ry ⟨p, qs, hK ▸ d1, hK ▸ d2, s1, s2, by rw [hb]; exact q⟩
              | true => exact op_notInD hu pins st σ H _ _ v u Q I rx ry ⟨p, qs, hK ▸ d1, hK ▸ d2, s1, s2, by rw [hb]; exact q⟩
      | none =>
        rw [er] at ein
        simp only at ein
        cases eg : dgetO s r d with
        | none => rw [eg] at ein; cases ein
        | some o =>
          rw [eg] at ein
          have hb : o.isSome = b := Option.some.inj ein
          obtain ⟨o', g, ho⟩ := dget_at R hr rd eg
          have hb' : o'.isSome = b := by
            rcases ho with ⟨a, c⟩ | ⟨_, _, a, c, _⟩
            · rw [← hb, a, c]; rfl
            · rw [← hb, a, c]; rfl
          cases (show u = Value.ref (φ r) from ry)
          cases neg with
          | false => exact d_in (by omega) I g rx fun s' I' => ⟨_, H, I', by rw [hb']; rfl, q⟩
          | true => exact d_notIn (by omega) I g rx fun s' I' => ⟨_, H, I', by rw [hb']; rfl, q⟩
    | _ => cases ein

theorem scal_rv {K : PySem.W.Frag} {n : Nat} {φ : Nat → Addr} {H : Hp} {x y : V} {d e : D} (r : RV K n φ H x d) (q : RV K n φ H y e) (h : scalD d e = true) : scal x y = true ∧ decide (x = y) = eqF d e := by
  cases r <;> cases q <;> first | (cases h; done) | (refine ⟨rfl, ?_⟩; simp only [eqF]; first | exact dec_int | exact dec_bl | exact dec_str; done) | exact ⟨rfl, by simp [eqF]⟩
theorem eq_sound (hK : X.K = S.K) (hu : X.A.units + 65 < cLine) (neg : Bool) : OpR X (compareOp (if neg then .NotEq else .Eq)) (rOp S fun d e s => (eqO d e s).map fun b => (.bl (if neg then !b else b), s)) := by
  rintro pins st σ H x y v u Q I rx ry ⟨φ, s, d, e, R, rd, re, h⟩
  cases ein : eqO d e s with
  | none => simp only [ein] at h; exact h.elim
  | some b =>
    simp only [ein, Option.map_some] at h
    have q := h φ H _ .refl R (.bl (if neg then !b else b))
    unfold eqO at ein
    split at ein
    · rename_i hs
      obtain ⟨h1, h2⟩ := scal_rv rd re hs
      have hb : eqF d e = b := Option.some.inj ein
      cases neg with
      | false => exact op_eq pins st σ H x y v u Q I rx ry ⟨h1, by rw [h2, hb]; exact q⟩
      | true => exact op_ne pins st σ H x y v u Q I rx ry ⟨h1, by rw [h2, hb]; exact q⟩
    · cases e1 : toP 12 s d with
      | none => rw [e1] at ein; cases ein
      | some p =>
        cases e2 : toP 12 s e with
        | none => rw [e1, e2] at ein; cases ein
        | some p2 =>
          rw [e1, e2] at ein
          have hb : PyData.eqv p p2 = b := Option.some.inj ein
          have d1 := toP_dp R 12 d p x e1 rd
          have d2 := toP_dp R 12 e p2 y e2 re
          have s1 : SeqAt.shaped p = true := toP_shaped (by decide) e1
          have s2 : SeqAt.shaped p2 = true := toP_shaped (by decide) e2
          cases neg with
          | false => exact op_eqD (by omega) pins st σ H x y v u Q I rx ry ⟨p, p2, hK ▸ d1, hK ▸ d2, s1, s2, by rw [hb]; exact q⟩
          | true => exact op_neD (by omega) pins st σ H x y v u Q I rx ry ⟨p, p2, hK ▸ d1, hK ▸ d2, s1, s2, by rw [hb]; exact q⟩
theorem is_sound (neg : Bool) : OpR X (compareOp (if neg then .IsNot else .Is)) (rOp S fun d e s => (isO d e).map fun b => (.bl (if neg then !b else b), s)) := by
  rintro pins st σ H x y v u Q I rx ry ⟨φ, s, d, e, R, rd, re, h⟩
  cases ein : isO d e with
  | none => simp only [ein] at h; exact h.elim
  | some b =>
    simp only [ein, Option.map_some] at h
    have q := h φ H _ .refl R (.bl (if neg then !b else b))
    have nn : y = .non → decide (x = .non) = b → wpAny (model X.prog X.w) X.A (compareOp (if neg then .IsNot else .Is) v u) (EP X pins σ Q) X.xe st := fun ey hb => by
      cases neg with
      | false => exact op_isN pins st σ H x y v u Q I rx ry ⟨ey, by rw [hb]; exact q⟩
      | true => exact op_notN pins st σ H x y v u Q I rx ry ⟨ey, by rw [hb]; exact q⟩
    cases re with
    | non => cases rd <;> exact nn rfl (by cases ein <;> rfl)
    | bl c =>
      cases rd with
      | bl a =>
        have hb : decide (a = c) = b := Option.some.inj ein
        cases neg with
        | false => exact op_isBl pins st σ H _ _ v u Q I rx ry ⟨a, c, rfl, rfl, by rw [hb]; exact q⟩
        | true => exact op_notBl pins st σ H _ _ v u Q I rx ry ⟨a, c, rfl, rfl, by rw [hb]; exact q⟩
      | _ => cases ein
    | _ => cases rd <;> cases ein
theorem cmp_sound (hK : X.K = S.K) (hu : X.A.units + 65 < cLine) (o : CO) : OpR X (compareOp o.ast) (rOp S (opC o)) := by
  have int : ∀ {op : CmpOp} {g : Int → Int → Bool} (hr : OpR X (compareOp op) (rI0 fun i j => .bl (g i j))) (f : D → D → Sto → O) (hf : ∀ d e s, f d e s = match d, e with | .int i, .int j => some (.bl (g i j), s) | _, _ => none), OpR X (compareOp op) (rOp S f) := by
    intro op g hr f hf pins st σ H x y v u Q I rx ry h
    obtain ⟨φ, s, d, e, R, rd, re, h⟩ := h
    rw [hf] at h
    split at h
    · cases rd; cases re
      exact hr pins st σ H _ _ v u Q I rx ry ⟨_, _, rfl, rfl, h φ H _ .refl R (.bl _)⟩
    · exact h.elim
  cases o with
  | eq => exact eq_sound hK hu false
  | ne => exact eq_sound hK hu true
  | lt => exact int op_lt _ fun d e s => rfl
  | le => exact int op_le _ fun d e s => rfl
  | gt => exact int op_gt _ fun d e s => rfl
  | ge => exact int op_ge _ fun d e s => rfl
  | is => exact is_sound false
  | isn => exact is_sound true
  | inn => exact in_sound hK hu false
  | nin => exact in_sound hK hu true
end

/-! ### truth -/
def truO (d : D) (s : Sto) : Option Bool := match d with
  | .non => some false
  | .bl b => some b
  | .int i => some (i != 0)
  | .str x => if x.length ≤ sizeLine then some ((x.length : Int) != 0) else none
  | .tup xs => some (!xs.isEmpty)
  | .kt xs => some (!xs.isEmpty)
  | .ref r => match s.g r with
    | .lst xs => some (!xs.isEmpty)
    | .fro xs => some (!xs.isEmpty)
    | .dk false kvs => some (!kvs.isEmpty)
    | _ => none
theorem empty_rv {K : PySem.W.Frag} {n : Nat} {φ : Nat → Addr} {H : Hp} {vs : List V} {ds : List D} (h : RVs K n φ H vs ds) : (!vs.isEmpty) = !ds.isEmpty := by
  cases h <;> rfl
theorem tru_at {S : St0} {φ : Nat → Addr} {H : Hp} {s : Sto} {v : V} {d : D} {b : Bool} (R : RS S φ H s) (r : RV S.K s.n φ H v d) (h : truO d s = some b) : TruV S.K v H b := by
  cases r with
  | non => cases h; rfl
  | bl b => cases h; rfl
  | int i => cases h; rfl
  | str x =>
    simp only [truO] at h
    split at h
    · rename_i hz; cases h; exact ⟨hz, rfl⟩
    · cases h
  | tup t rs => cases h; exact .inr (.inl ⟨_, .of t, (empty_rv rs).symm⟩)
  | kt t rs => cases h; exact .inr (.inl ⟨_, t.sqt, (empty_rv rs).symm⟩)
  | @ref r hr =>
    have g := R.ob r hr
    simp only [truO] at h
    cases e : s.g r with
    | lst xs => rw [e] at g h; cases h; obtain ⟨vs, h1, h2⟩ := g; exact .inl ⟨vs, .of h1, (empty_rv h2).symm⟩
    | fro xs => rw [e] at g h; cases h; obtain ⟨vs, h1, h2⟩ := g; exact .inl ⟨vs, h1.sql, (empty_rv h2).symm⟩
    | dk lk kvs =>
      rw [e] at g h
      cases lk with
      | true => cases h
      | false =>
        cases h
        obtain ⟨vs, h1, h2⟩ := g
        refine .inr (.inr ⟨vs, h1, ?_⟩)
        cases h2 <;> rfl
    | _ => rw [e] at h; cases h
end Ab
set_option Elab.async false
set_option linter.all false
set_option maxRecDepth 100000
set_option maxHeartbeats 1000000
/-! Ab3: items, slices, stores, methods and functions of the built-in types -/
namespace Ab
open PySem L2

/-! ### items -/
def ixO (d e : D) (s : Sto) : O := match tupOf d with
  | some xs => match e with
    | .int i => (atI xs i).map fun x => (x, s)
    | _ => none
  | none => match d with
    | .str z => match e with
      | .int i => if z.length ≤ sizeLine then (atI z.cps.toList i).map fun c => (.str ⟨#[c]⟩, s) else none
      | _ => none
    | .ref r => match rdOf s r with
      | some xs => match e with
        | .int i => (atI xs i).map fun x => (x, s)
        | _ => none
      | none => match dgetO s r e with
        | some (some x) => some (x, s)
        | _ => none
    | _ => none
section
variable {K : PySem.W.Frag} {n : Nat} {φ : Nat → Addr} {H : Hp}
theorem atI_rv {vs : List V} {ds : List D} {i : Int} {d : D} (h : RVs K n φ H vs ds) (e : atI ds i = some d) : ∃ v, atI vs i = some v ∧ RV K n φ H v d := by
  unfold atI at e ⊢
  rw [h.length]
  cases hi : ixN ds.length i with
  | none => rw [hi] at e; cases e
  | some j =>
    rw [hi] at e
    obtain ⟨v, h1, h2⟩ := h.get (i := j) (d := d) e
    exact ⟨v, h1, h2⟩
end
section
variable {X : Cx} {S : St0}
theorem ix_dict (hu : X.A.units + 1 < cLine) : IxR X (fun x y H Q => ∃ a v, x = .ref a ∧ DGet H a y (some v) ∧ Q v H) := by
  intro value slice pins s σ H x y v u Q I rx ry h hs
  obtain ⟨a, w, rfl, g, q⟩ := h
  cases (show v = Value.ref a from rx)
  exact PyProof.Rows.tail_any (dict_typeIs I g) PySem.F.slot_dict_getitem.lookup (d_getItem hu I g ry fun w' s' I' rw' => ⟨w, H, I', rw', q⟩) hs
theorem ix_sound (hK : X.K = S.K) (hu : X.A.units + 1 < cLine) : IxR X (rOp S ixO) := by
  intro value slice pins st σ H x y v u Q I rx ry h hs
  obtain ⟨φ, s, d, e, R, rd, re, h⟩ := h
  unfold ixO at h
  cases ht : tupOf d with
  | some xs =>
    rw [ht] at h
    obtain ⟨a, vs, ex, hq, rvs⟩ := rd.tupD ht
    cases re with
    | int i =>
      simp only at h
      cases ea : atI xs i with
      | none => rw [ea] at h; exact h.elim
      | some z =>
        rw [ea] at h
        obtain ⟨w, h1, h2⟩ := atI_rv rvs ea
        exact ix_tup value slice pins st σ H x _ v u Q I rx ry ⟨a, vs, i, w, ex, rfl, hK ▸ hq, h1, h φ H _ .refl R h2⟩ hs
    | _ => exact h.elim
  | none =>
    rw [ht] at h
    cases rd with
    | str z =>
      cases re with
      | int i =>
        simp only at h
        split at h
        · rename_i hz
          cases ea : atI z.cps.toList i with
          | none => rw [ea] at h; exact h.elim
          | some c =>
            rw [ea] at h
            exact ix_str value slice pins st σ H _ _ v u Q I rx ry ⟨z, i, c, rfl, rfl, hz, ea, h φ H _ .refl R (.str _)⟩ hs
        · exact h.elim
      | _ => exact h.elim
    | @ref r hr =>
      simp only at h
      cases er : rdOf s r with
      | some xs =>
        rw [er] at h
        obtain ⟨vs, hq, rvs⟩ := rd_at R hr er
        cases re with
        | int i =>
          simp only at h
          cases ea : atI xs i with
          | none => rw [ea] at h; exact h.elim
          | some z =>
            rw [ea] at h
            obtain ⟨w, h1, h2⟩ := atI_rv rvs ea
            exact ix_list value slice pins st σ H _ _ v u Q I rx ry ⟨φ r, vs, i, w, rfl, rfl, hK ▸ hq, h1, h φ H _ .refl R h2⟩ hs
        | _ => exact h.elim
      | none =>
        rw [er] at h
        simp only at h
        cases eg : dgetO s r e with
        | none => rw [eg] at h; exact h.elim
        | some o =>
          rw [eg] at h
          obtain ⟨o', g, ho⟩ := dget_at R hr re eg
          cases o with
          | none => exact h.elim
          | some z =>
            rcases ho with ⟨a, _⟩ | ⟨x', y', a, b, c⟩
            · cases a
            · cases a
              rw [b] at g
              exact ix_dict hu value slice pins st σ H _ _ v u Q I rx ry ⟨φ r, y', rfl, g, h φ H _ .refl R c⟩ hs
    | _ => first | exact h.elim | cases ht
end

/-! ### slices -/
def cutD (xs : List D) (lo hi : Option Int) : List D := (xs.drop (HT.sIx xs.length 0 lo)).take (HT.sIx xs.length xs.length hi - HT.sIx xs.length 0 lo)
def slO (d : D) (lo hi : Option Int) (s : Sto) : O := match d with
  | .tup xs => some (.tup (cutD xs lo hi), s)
  | .str z => if z.length ≤ sizeLine then some (.str (cutS z lo hi), s) else none
  | .ref r => (rdOf s r).bind fun xs => some (.ref s.n, s.new (.lst (cutD xs lo hi)))
  | _ => none
def rSlG (S : St0) : V → Option Int → Option Int → Hp → VK → Prop := fun x lo hi H Q => ∃ φ s d, RS S φ H s ∧ RV S.K s.n φ H x d ∧ ResO S s φ H (slO d lo hi s) Q
theorem cut_rv {K : PySem.W.Frag} {n : Nat} {φ : Nat → Addr} {H : Hp} {vs : List V} {ds : List D} (h : RVs K n φ H vs ds) (lo hi : Option Int) : RVs K n φ H (cutV vs lo hi) (cutD ds lo hi) := by
  unfold cutV cutD
  rw [h.length]
  exact (h.drop _).take _
section
variable {X : Cx} {S : St0}
theorem sl_sound (hK : X.K = S.K) : SlR X (rSlG S) := by
  intro pins st σ H x v vl vu lo hi sl Q I rx hs pl pu h
  obtain ⟨φ, s, d, R, rd, h⟩ := h
  cases rd with
  | @tup a vs ds t rs =>
    refine sl_tupA pins st σ H _ v vl vu lo hi sl Q I rx hs pl pu ⟨a, vs, rfl, hK ▸ .of t, fun hw => ?_, fun _ => new_tup R (cut_rv rs lo hi) h⟩
    have e : cutD ds lo hi = ds := by
      rw [rs.length] at hw
      unfold cutD
      rw [hw.1, hw.2, List.drop_zero, Nat.sub_zero, List.take_length]
    have h' : ResO S s φ H (some (.tup (cutD ds lo hi), s)) Q := h
    rw [e] at h'
    exact h' φ H _ .refl R (.tup t rs)
  | str z =>
    simp only [slO] at h
    split at h
    · rename_i hz
      exact sl_str pins st σ H _ v vl vu lo hi sl Q I rx hs pl pu ⟨z, rfl, hz, h φ H _ .refl R (.str _)⟩
    · exact h.elim
  | @ref r hr =>
    simp only [slO] at h
    cases er : rdOf s r with
    | none => rw [er] at h; exact h.elim
    | some xs =>
      rw [er] at h
      obtain ⟨vs, hq, rvs⟩ := rd_at R hr er
      exact sl_list pins st σ H _ v vl vu lo hi sl Q I rx hs pl pu ⟨_, vs, rfl, hK ▸ hq, new_lst R (cut_rv rvs lo hi) h⟩
  | _ => exact h.elim
end

/-! ### o[i] = v -/
def setO (o i v : D) (s : Sto) : Option Sto := match o with
  | .ref r => match s.g r with
    | .lst xs => match i with
      | .int k => (ixN xs.length k).map fun j => s.put r (.lst (xs.set j v))
      | _ => none
    | .dk false kvs => (keyO i).bind fun k => if kvs.length < sizeLine then some (s.put r (.dk false (putG kvs k v))) else none
    | .dt false kvs => (keysO i).bind fun k => if kvs.length < sizeLine then some (s.put r (.dt false (putG kvs k v))) else none
    | _ => none
  | _ => none
/-- what is wanted of a state alone -/
def ResS (S : St0) (s₀ : Sto) (φ₀ : Nat → Addr) (H₀ : Hp) (r : Option Sto) (Q : Hp → Prop) : Prop :=
  match r with
  | some s => ∀ φ H, Ext s₀.n φ₀ H₀ s.n φ H → RS S φ H s → Q H
  | none => False
def rSetG (S : St0) : TSet := fun o i v H Q => ∃ φ s d e x, RS S φ H s ∧ RV S.K s.n φ H o d ∧ RV S.K s.n φ H i e ∧ RV S.K s.n φ H v x ∧ ResS S s φ H (setO d e x s) Q
section
variable {X : Cx} {S : St0}
theorem set_sound (hu : X.A.units + 1 < cLine) : PSet X (rSetG S) := by
  intro pins st σ H o i v ov iv u Q I ro ri rv h
  obtain ⟨φ, s, d, e, x, R, rd, re, rx, h⟩ := h
  cases rd with
  | @ref r hr =>
    have g := R.ob r hr
    simp only [setO] at h
    cases eg : s.g r with
    | lst xs =>
      rw [eg] at g h
      simp only at h
      obtain ⟨vs, h1, h2⟩ := g
      cases re with
      | int k =>
        simp only at h
        cases ei : ixN xs.length k with
        | none => rw [ei] at h; exact h.elim
        | some j =>
          rw [ei] at h
          have w : (s.g r).mu = true := by rw [eg]; rfl
          refine set_list pins st σ H _ _ v ov iv u Q I ro ri rv ⟨φ r, vs, k, j, rfl, rfl, h1, by rw [h2.length]; exact ei, ?_⟩
          have ex := R.ext_upd (u := .lst (vs.set j v)) hr w
          exact h φ _ ex (R.upd hr w ⟨_, upd_same, (RVs.set (rx.ext ex) j (h2.ext ex))⟩)
      | _ => exact h.elim
    | dk lk kvs =>
      rw [eg] at g h
      cases lk with
      | true => exact h.elim
      | false =>
        simp only at h
        obtain ⟨vs, h1, h2⟩ := g
        have h1 : H (φ r) = some (.dK vs) := h1
        cases ek : keyO e with
        | none => rw [ek] at h; exact h.elim
        | some k =>
          rw [ek] at h
          simp only [Option.bind_some] at h
          split at h
          · rename_i hz
            have w : (s.g r).mu = true := by rw [eg]; rfl
            cases (show ov = Value.ref (φ r) from ro)
            have ek' := key_rv re ek
            have ex := R.ext_upd (u := .dK (putK vs k v)) hr w
            refine d_setItem hu I (.inl ⟨vs, k, h1, ek', by rw [h2.length]; exact hz, rfl⟩) ri rv fun s' I' => ⟨_, I', h φ _ ex (R.upd hr w ⟨_, upd_same, RKs.put k (rx.ext ex) (h2.ext ex)⟩)⟩
          · exact h.elim
    | dt lk kvs =>
      rw [eg] at g h
      cases lk with
      | true => exact h.elim
      | false =>
        simp only at h
        obtain ⟨vs, h1, h2⟩ := g
        have h1 : H (φ r) = some (.dT vs) := h1
        cases ek : keysO e with
        | none => rw [ek] at h; exact h.elim
        | some k =>
          rw [ek] at h
          simp only [Option.bind_some] at h
          split at h
          · rename_i hz
            have w : (s.g r).mu = true := by rw [eg]; rfl
            cases (show ov = Value.ref (φ r) from ro)
            obtain ⟨b, e1, e2⟩ := keysO_tup re ek
            have ex := R.ext_upd (u := .dT (putK vs k v)) hr w
            refine d_setItem hu I (.inr ⟨vs, k, b, h1, e1, e2, by rw [h2.length]; exact hz, rfl⟩) ri rv fun s' I' => ⟨_, I', h φ _ ex (R.upd hr w ⟨_, upd_same, RKs.put k (rx.ext ex) (h2.ext ex)⟩)⟩
          · exact h.elim
    | _ => rw [eg] at h; exact h.elim
  | _ => exact h.elim
end

/-! ### methods of the built-in types -/
inductive BM where
  | append | pop0 | pop1 | extend | get1 | get2 | setd | join | split
  deriving DecidableEq
def BM.name : BM → Str
  | .append => "append" | .pop0 => "pop" | .pop1 => "pop" | .extend => "extend" | .get1 => "get" | .get2 => "get" | .setd => "setdefault" | .join => "join" | .split => "split"
def BM.args : BM → Nat
  | .append => 1 | .pop0 => 0 | .pop1 => 1 | .extend => 1 | .get1 => 1 | .get2 => 2 | .setd => 2 | .join => 1 | .split => 1
def BM.ty : BM → String
  | .append => "list" | .pop0 => "list" | .pop1 => "list" | .extend => "list" | .get1 => "dict" | .get2 => "dict" | .setd => "dict" | .join => "str" | .split => "str"
def BM.id : BM → String
  | .append => "list.append" | .pop0 => "list.pop" | .pop1 => "list.pop" | .extend => "list.extend" | .get1 => "dict.get" | .get2 => "dict.get" | .setd => "dict.setdefault" | .join => "str.join" | .split => "str.split"
theorem BM.pa (m : BM) : PlainAttrs m.ty := by cases m <;> first | exact PySem.F.plainAttrs_list | exact PySem.F.plainAttrs_dict | exact PySem.F.plainAttrs_str
theorem BM.slot (m : BM) : Slot m.ty m.name m.id := by
  cases m with
  | append => exact PySem.F.slot_list_append
  | pop0 => exact PySem.F.slot_list_pop
  | pop1 => exact PySem.F.slot_list_pop
  | extend => exact PySem.F.slot_list_extend
  | get1 => exact PySem.F.slot_dict_get
  | get2 => exact PySem.F.slot_dict_get
  | setd => exact PySem.F.slot_dict_setdefault
  | join => exact PySem.F.slot_str_join
  | split => exact PySem.F.slot_str_split
theorem BM.hty (m : BM) : typeOf (.builtin m.id) = pure (.type "method_descriptor") := by
  cases m with
  | append => exact PySem.F.type_list_append
  | pop0 => exact PySem.F.type_list_pop
  | pop1 => exact PySem.F.type_list_pop
  | extend => exact PySem.F.type_list_extend
  | get1 => exact PySem.F.type_dict_get
  | get2 => exact PySem.F.type_dict_get
  | setd => exact PySem.F.type_dict_setdefault
  | join => exact PySem.F.type_str_join
  | split => exact PySem.F.type_str_split
/-- the receiver is of the method's type -/
def tyO (m : BM) (d : D) (s : Sto) : Bool := match m.ty, d with
  | "str", .str _ => true
  | "list", .ref r => match s.g r with
    | .lst _ => true
    | _ => false
  | "dict", .ref r => match s.g r with
    | .dk false _ => true
    | .dt false _ => true
    | _ => false
  | _, _ => false
def strsO : List D → Option (List Str) := optAll fun d => match d with
  | .str x => some x
  | _ => none
def intsO : List D → Option (List Int) := optAll fun d => match d with
  | .int i => some i
  | _ => none
def blsO : List D → Option (List Bool) := optAll fun d => match d with
  | .bl b => some b
  | _ => none
/-- a sequence that may be read: a list or a tuple -/
def sqOf (d : D) (s : Sto) : Option (List D) := match d with
  | .ref r => rdOf s r
  | d => tupOf d
def mO (m : BM) (d : D) (xs : List D) (s : Sto) : O := match m, d, xs with
  | .append, .ref r, [x] => (lstOf s r).bind fun ys => if ys.length < sizeLine then some (.non, s.put r (.lst (ys ++ [x]))) else none
  | .pop0, .ref r, [] => (lstOf s r).bind fun ys => (ys[ys.length - 1]?).map fun y => (y, s.put r (.lst ys.dropLast))
  | .pop1, .ref r, [.int i] => (lstOf s r).bind fun ys => if 0 ≤ i ∧ i < 2 ^ 62 then (ys[i.toNat]?).map fun y => (y, s.put r (.lst (ys.eraseIdx i.toNat))) else none
  | .extend, .ref r, [.ref q] => (lstOf s r).bind fun ys => (lstOf s q).bind fun zs => if ys.length + zs.length ≤ sizeLine then some (.non, s.put r (.lst (ys ++ zs))) else none
  | .get1, .ref r, [k] => (dgetO s r k).map fun o => (o.getD .non, s)
  | .get2, .ref r, [k, x] => (dgetO s r k).map fun o => (o.getD x, s)
  | .setd, .ref r, [k, x] => match s.g r with
    | .dk false kvs => (keyO k).bind fun k => if kvs.length < sizeLine then (match getG kvs k with
      | some v => some (v, s)
      | none => some (x, s.put r (.dk false (putG kvs k x)))) else none
    | _ => none
  | .join, .str a, [e] => (sqOf e s).bind fun ys => (strsO ys).bind fun zs => if (zs.map (·.length)).sum + zs.length * a.length ≤ 16777216 then some (.str (Txt.join a zs), s) else none
  | .split, .str a, [.str b] => if (b.length == 0) = false ∧ a.length + 2 ≤ sizeLine then some (.ref s.n, s.new (.lst ((Txt.split a b).map .str))) else none
  | _, _, _ => none
def rMt (S : St0) (m : BM) : V → List V → Hp → VK → Prop := fun x xs H Q => ∃ φ s d ds, RS S φ H s ∧ RV S.K s.n φ H x d ∧ RVs S.K s.n φ H xs ds ∧ ResO S s φ H (mO m d ds s) Q
section
variable {K : PySem.W.Frag} {n : Nat} {φ : Nat → Addr} {H : Hp}
theorem strs_rv : ∀ {vs : List V} {ds : List D} {zs : List Str}, RVs K n φ H vs ds → strsO ds = some zs → vs = zs.map V.str
  | _, [], zs, .nil, h => by cases h; rfl
  | _, d :: ds, zs, .cons a b, h => by
    unfold strsO optAll at h
    cases a with
    | str x =>
      cases e2 : strsO ds with
      | none => unfold strsO at e2; rw [e2] at h; cases h
      | some ys =>
        have e3 := strs_rv b e2
        unfold strsO at e2; rw [e2] at h
        cases h
        rw [e3]; rfl
    | _ => cases h
theorem ints_rv : ∀ {vs : List V} {ds : List D} {zs : List Int}, RVs K n φ H vs ds → intsO ds = some zs → vs = zs.map V.int
  | _, [], zs, .nil, h => by cases h; rfl
  | _, d :: ds, zs, .cons a b, h => by
    unfold intsO optAll at h
    cases a with
    | int x =>
      cases e2 : intsO ds with
      | none => unfold intsO at e2; rw [e2] at h; cases h
      | some ys =>
        have e3 := ints_rv b e2
        unfold intsO at e2; rw [e2] at h
        cases h
        rw [e3]; rfl
    | _ => cases h
theorem bls_rv : ∀ {vs : List V} {ds : List D} {zs : List Bool}, RVs K n φ H vs ds → blsO ds = some zs → vs = zs.map V.bl
  | _, [], zs, .nil, h => by cases h; rfl
  | _, d :: ds, zs, .cons a b, h => by
    unfold blsO optAll at h
    cases a with
    | bl x =>
      cases e2 : blsO ds with
      | none => unfold blsO at e2; rw [e2] at h; cases h
      | some ys =>
        have e3 := bls_rv b e2
        unfold blsO at e2; rw [e2] at h
        cases h
        rw [e3]; rfl
    | _ => cases h
theorem sq_at {S : St0} {s : Sto} {v : V} {d : D} {xs : List D} (R : RS S φ H s) (r : RV S.K s.n φ H v d) (h : sqOf d s = some xs) : ∃ a vs, v = .ref a ∧ (SqL S.K H a vs ∨ SqT S.K H a vs) ∧ RVs S.K s.n φ H vs xs := by
  cases r with
  | ref hr =>
    obtain ⟨vs, h1, h2⟩ := rd_at R hr h
    exact ⟨_, vs, rfl, .inl h1, h2⟩
  | tup t rs => cases h; exact ⟨_, _, rfl, .inr (.of t), rs⟩
  | kt t rs => cases h; exact ⟨_, _, rfl, .inr t.sqt, rs⟩
  | _ => cases h
end
section
variable {X : Cx} {S : St0}
theorem ty_at {φ : Nat → Addr} {H : Hp} {s : Sto} {m : BM} {v : V} {d : D} (R : RS S φ H s) (r : RV S.K s.n φ H v d) (h : tyO m d s = true) : tyV S.K m.ty v H := by
  unfold tyO at h
  split at h
  · rename_i e; cases r; exact e
  · rename_i r' e
    cases r with | ref hr =>
    have g := R.ob r' hr
    cases eg : s.g r' with
    | lst xs => rw [eg] at g; obtain ⟨vs, h1, _⟩ := g; rw [e]; exact .inl ⟨rfl, vs, .of h1⟩
    | _ => rw [eg] at h; cases h
  · rename_i r' e
    cases r with | ref hr =>
    have g := R.ob r' hr
    cases eg : s.g r' with
    | dk lk xs =>
      rw [eg] at g h
      cases lk with
      | true => cases h
      | false => obtain ⟨vs, h1, _⟩ := g; rw [e]; exact .inr (.inr (.inl ⟨rfl, .inl ⟨vs, h1⟩⟩))
    | dt lk xs =>
      rw [eg] at g h
      cases lk with
      | true => cases h
      | false => obtain ⟨vs, h1, _⟩ := g; rw [e]; exact .inr (.inr (.inl ⟨rfl, .inr ⟨vs, h1⟩⟩))
    | _ => rw [eg] at h; cases h
  · cases h
/-- a list is written, then something comes back -/
theorem put_lst {φ : Nat → Addr} {H : Hp} {s : Sto} {r : Nat} {xs : List D} {vs : List V} {d : D} {v : V} {Q : VK} (R : RS S φ H s) (hr : r < s.n) (w : (s.g r).mu = true) (rs : RVs S.K s.n φ H vs xs) (rv : RV S.K s.n φ H v d)
    (h : ResO S s φ H (some (d, s.put r (.lst xs))) Q) : Q v (upd H (φ r) (.lst vs)) := by
  have ex := R.ext_upd (u := .lst vs) hr w
  exact h φ _ _ ex (R.upd hr w ⟨_, upd_same, rs.ext ex⟩) (rv.ext ex)
theorem mt_get (hu : X.A.units + 1 < cLine) : MtR X "dict.get" (fun x xs H Q => ∃ a o, x = .ref a ∧ ((∃ y, xs = [y] ∧ DGet H a y o ∧ Q (o.getD .non) H) ∨ ∃ y z, xs = [y, z] ∧ DGet H a y o ∧ Q (o.getD z) H)) := by
  intro pins s σ H x xs v us Q I rx rs h
  obtain ⟨a, o, rfl, h⟩ := h
  cases (show v = Value.ref a from rx)
  rcases h with ⟨y, rfl, g, q⟩ | ⟨y, z, rfl, g, q⟩
  · obtain ⟨u, rfl, ry⟩ := vals1 rs
    exact d_get1 hu I g ry fun w' s' I' rw' => ⟨_, H, I', rw', q⟩
  · obtain ⟨u, w, rfl, ry, rz⟩ := vals2 rs
    exact d_get2 hu I g ry rz fun w' s' I' rw' => ⟨_, H, I', rw', q⟩
theorem getD_rv {K : PySem.W.Frag} {n : Nat} {φ : Nat → Addr} {H : Hp} {o : Option D} {o' : Option V} {x : D} {v : V} (h : (o = none ∧ o' = none) ∨ ∃ x y, o = some x ∧ o' = some y ∧ RV K n φ H y x) (r : RV K n φ H v x) : RV K n φ H (o'.getD v) (o.getD x) := by
  rcases h with ⟨rfl, rfl⟩ | ⟨_, _, rfl, rfl, h⟩
  · exact r
  · exact h
theorem mt_sound (hK : X.K = S.K) (hu : X.A.units + 1 < cLine) (m : BM) : MtR X m.id (rMt S m) := by
  intro pins st σ H x xs v us Q I rx rus h
  obtain ⟨φ, s, d, ds, R, rd, rds, h⟩ := h
  cases m with
  | append =>
    cases rd with
    | @ref r hr =>
      cases rds with
      | nil => exact h.elim
      | cons ra rb =>
        cases rb with
        | cons _ _ => exact h.elim
        | nil =>
          simp only [mO] at h
          cases e : lstOf s r with
          | none => rw [e] at h; exact h.elim
          | some ys =>
            rw [e] at h
            simp only [Option.bind_some] at h
            obtain ⟨vs, h1, h2, h3⟩ := lst_at R hr e
            split at h
            · rename_i hz
              exact mt_append pins st σ H _ _ v us Q I rx rus ⟨_, vs, _, rfl, rfl, h1, by rw [h2.length]; exact hz, put_lst R hr (by rw [h3]; rfl) (h2.append (.cons ra .nil)) .non h⟩
            · exact h.elim
    | _ => exact h.elim
  | pop0 =>
    cases rd with
    | @ref r hr =>
      cases rds with
      | cons _ _ => exact h.elim
      | nil =>
        simp only [mO] at h
        cases e : lstOf s r with
        | none => rw [e] at h; exact h.elim
        | some ys =>
          rw [e] at h
          simp only [Option.bind_some] at h
          obtain ⟨vs, h1, h2, h3⟩ := lst_at R hr e
          cases ey : ys[ys.length - 1]? with
          | none => rw [ey] at h; exact h.elim
          | some y =>
            rw [ey] at h
            obtain ⟨w, k1, k2⟩ := h2.get ey
            exact mt_pop pins st σ H _ _ v us Q I rx rus ⟨_, vs, w, rfl, rfl, h1, by rw [h2.length]; exact k1, put_lst R hr (by rw [h3]; rfl) h2.dropLast k2 h⟩
    | _ => exact h.elim
  | pop1 =>
    cases rd with
    | @ref r hr =>
      cases rds with
      | nil => exact h.elim
      | cons ra rb =>
        cases rb with
        | cons _ _ => cases ra <;> exact h.elim
        | nil =>
          cases ra with
          | int i =>
            simp only [mO] at h
            cases e : lstOf s r with
            | none => rw [e] at h; exact h.elim
            | some ys =>
              rw [e] at h
              simp only [Option.bind_some] at h
              obtain ⟨vs, h1, h2, h3⟩ := lst_at R hr e
              split at h
              · rename_i hz
                cases ey : ys[i.toNat]? with
                | none => rw [ey] at h; exact h.elim
                | some y =>
                  rw [ey] at h
                  obtain ⟨w, k1, k2⟩ := h2.get ey
                  have hl : i.toNat < ys.length := (List.getElem?_eq_some_iff.mp ey).1
                  exact mt_popAt pins st σ H _ _ v us Q I rx rus ⟨_, vs, i, i.toNat, w, rfl, rfl, h1, by omega, by omega, seqIndex_of hz.1 (by rw [h2.length]; omega), k1, put_lst R hr (by rw [h3]; rfl) (h2.erase _) k2 h⟩
              · exact h.elim
          | _ => exact h.elim
    | _ => exact h.elim
  | extend =>
    cases rd with
    | @ref r hr =>
      cases rds with
      | nil => exact h.elim
      | cons ra rb =>
        cases rb with
        | cons _ _ => cases ra <;> exact h.elim
        | nil =>
          cases ra with
          | @ref q hq =>
            simp only [mO] at h
            cases e : lstOf s r with
            | none => rw [e] at h; exact h.elim
            | some ys =>
              cases e2 : lstOf s q with
              | none => rw [e, e2] at h; exact h.elim
              | some zs =>
                rw [e, e2] at h
                simp only [Option.bind_some] at h
                obtain ⟨vs, h1, h2, h3⟩ := lst_at R hr e
                obtain ⟨ws, k1, k2, k3⟩ := lst_at R hq e2
                split at h
                · rename_i hz
                  exact mt_extend pins st σ H _ _ v us Q I rx rus ⟨_, _, vs, ws, rfl, rfl, h1, k1, by rw [h2.length, k2.length]; exact hz, put_lst R hr (by rw [h3]; rfl) (h2.append k2) .non h⟩
                · exact h.elim
          | _ => exact h.elim
    | _ => exact h.elim
  | get1 =>
    cases rd with
    | @ref r hr =>
      cases rds with
      | nil => exact h.elim
      | cons ra rb =>
        cases rb with
        | cons _ _ => exact h.elim
        | nil =>
          simp only [mO] at h
          cases e : dgetO s r _ with
          | none => rw [e] at h; exact h.elim
          | some o =>
            rw [e] at h
            obtain ⟨o', g, ho⟩ := dget_at R hr ra e
            exact mt_get hu pins st σ H _ _ v us Q I rx rus ⟨_, o', rfl, .inl ⟨_, rfl, g, h φ H _ .refl R (getD_rv ho .non)⟩⟩
    | _ => exact h.elim
  | get2 =>
    cases rd with
    | @ref r hr =>
      cases rds with
      | nil => exact h.elim
      | cons ra rb =>
        cases rb with
        | nil => exact h.elim
        | cons rc rb =>
          cases rb with
          | cons _ _ => exact h.elim
          | nil =>
            simp only [mO] at h
            cases e : dgetO s r _ with
            | none => rw [e] at h; exact h.elim
            | some o =>
              rw [e] at h
              obtain ⟨o', g, ho⟩ := dget_at R hr ra e
              exact mt_get hu pins st σ H _ _ v us Q I rx rus ⟨_, o', rfl, .inr ⟨_, _, rfl, g, h φ H _ .refl R (getD_rv ho rc)⟩⟩
    | _ => exact h.elim
  | setd =>
    cases rd with
    | @ref r hr =>
      cases rds with
      | nil => exact h.elim
      | cons ra rb =>
        cases rb with
        | nil => exact h.elim
        | cons rc rb =>
          cases rb with
          | cons _ _ => exact h.elim
          | nil =>
            have g := R.ob r hr
            simp only [mO] at h
            cases eg : s.g r with
            | dk lk kvs =>
              rw [eg] at g h
              cases lk with
              | true => exact h.elim
              | false =>
                simp only at h
                obtain ⟨vs, h1, h2⟩ := g
                have h1 : H (φ r) = some (.dK vs) := h1
                have w : (s.g r).mu = true := by rw [eg]; rfl
                cases (show v = Value.ref (φ r) from rx)
                obtain ⟨u1, u2, rfl, r1, r2⟩ := vals2 rus
                revert h
                cases ek : keyO _ with
                | none => exact fun h => h.elim
                | some k =>
                  intro h
                  simp only [Option.bind_some] at h
                  split at h
                  · rename_i hz
                    have ek' := key_rv ra ek
                    subst ek'
                    refine d_setd I h1 r1 r2 (by rw [h2.length]; exact hz) (fun y hy w' s' I' rw' => ⟨y, H, I', rw', ?_⟩) fun hy w' s' I' rw' => ⟨_, _, I', rw', ?_⟩
                    · rcases h2.find k with ⟨a, b⟩ | ⟨y', x', a, b, c⟩
                      · rw [hy] at a; cases a
                      · rw [hy] at a; cases a
                        rw [b] at h
                        exact h φ H _ .refl R c
                    · rcases h2.find k with ⟨a, b⟩ | ⟨y', x', a, b, c⟩
                      · rw [b] at h
                        exact h φ _ _ (R.ext_upd hr w) (R.upd hr w ⟨_, upd_same, RKs.put k (rc.ext (R.ext_upd hr w)) (h2.ext (R.ext_upd hr w))⟩) (rc.ext (R.ext_upd hr w))
                      · rw [hy] at a; cases a
                  · exact h.elim
            | _ => rw [eg] at h; exact h.elim
    | _ => exact h.elim
  | join =>
    cases rd with
    | str a =>
      cases rds with
      | nil => exact h.elim
      | cons ra rb =>
        cases rb with
        | cons _ _ => exact h.elim
        | nil =>
          simp only [mO] at h
          revert h
          cases e : sqOf _ s with
          | none => exact fun h => h.elim
          | some ys =>
            intro h
            simp only [Option.bind_some] at h
            cases e2 : strsO ys with
            | none => rw [e2] at h; exact h.elim
            | some zs =>
              rw [e2] at h
              simp only [Option.bind_some] at h
              split at h
              · rename_i hz
                obtain ⟨b, vs, ev, hq, rvs⟩ := sq_at R ra e
                have := strs_rv rvs e2
                subst this
                exact mt_join pins st σ H _ _ v us Q I rx rus ⟨a, b, zs, rfl, by rw [ev], hK ▸ hq, hz, h φ H _ .refl R (.str _)⟩
              · exact h.elim
    | _ => exact h.elim
  | split =>
    cases rd with
    | str a =>
      cases rds with
      | nil => exact h.elim
      | cons ra rb =>
        cases rb with
        | cons _ _ => cases ra <;> exact h.elim
        | nil =>
          cases ra with
          | str b =>
            simp only [mO] at h
            split at h
            · rename_i hz
              refine mt_split pins st σ H _ _ v us Q I rx rus ⟨a, b, rfl, rfl, hz.1, hz.2, ?_⟩
              have e : ((Txt.split a b).map V.str) = ((Txt.split a b).map V.str) := rfl
              exact new_lst R (RVs.ofStrs _) h
            · exact h.elim
          | _ => exact h.elim
    | _ => exact h.elim
end

/-! ### functions of the built-ins -/
inductive BF where
  | len | int | str | list | tuple | sorted | all | sum | max | min | dict
  deriving DecidableEq
def BF.name : BF → Str
  | .len => "len" | .int => "int" | .str => "str" | .list => "list" | .tuple => "tuple" | .sorted => "sorted" | .all => "all" | .sum => "sum" | .max => "max" | .min => "min" | .dict => "dict"
def BF.val : BF → Value
  | .len => .builtin "len" | .int => .type "int" | .str => .type "str" | .list => .type "list" | .tuple => .type "tuple" | .sorted => .builtin "sorted" | .all => .builtin "all" | .sum => .builtin "sum" | .max => .builtin "max" | .min => .builtin "min" | .dict => .type "dict"
theorem BF.boot (f : BF) : bootBuiltins f.name = some f.val := by cases f <;> decide +kernel
/-- insertion -/
def ins (x : Int) : List Int → List Int
  | [] => [x]
  | y :: ys => if x ≤ y then x :: y :: ys else y :: ins x ys
def isort : List Int → List Int
  | [] => []
  | x :: xs => ins x (isort xs)
theorem ins_perm (x : Int) : ∀ ys : List Int, (ins x ys).Perm (x :: ys)
  | [] => .refl _
  | y :: ys => by
    unfold ins
    split
    · exact .refl _
    · exact ((ins_perm x ys).cons y).trans (.swap x y ys)
theorem isort_perm : ∀ xs : List Int, (isort xs).Perm xs
  | [] => .refl _
  | x :: xs => (ins_perm x _).trans ((isort_perm xs).cons x)
theorem ins_sorted (x : Int) : ∀ ys : List Int, ys.Pairwise (· ≤ ·) → (ins x ys).Pairwise (· ≤ ·)
  | [], _ => by simp [ins]
  | y :: ys, h => by
    rw [List.pairwise_cons] at h
    unfold ins
    split
    · rename_i hxy
      rw [List.pairwise_cons, List.pairwise_cons]
      refine ⟨fun z hz => ?_, h.1, h.2⟩
      rcases List.mem_cons.mp hz with rfl | hz
      · exact hxy
      · exact Int.le_trans hxy (h.1 z hz)
    · rename_i hxy
      rw [List.pairwise_cons]
      refine ⟨fun z hz => ?_, ins_sorted x ys h.2⟩
      rcases List.mem_cons.mp ((ins_perm x ys).mem_iff.mp hz) with rfl | hz
      · omega
      · exact h.1 z hz
theorem isort_sorted : ∀ xs : List Int, (isort xs).Pairwise (· ≤ ·)
  | [] => List.Pairwise.nil
  | x :: xs => ins_sorted x _ (isort_sorted xs)
theorem isort_eq {xs ys : List Int} (h : ys.Perm xs) (s : ys.Pairwise (· ≤ ·)) : ys = isort xs := PySem.W.ksm_same (h.trans (isort_perm xs).symm) s (isort_sorted xs)
def dkey : Key → D
  | .inl i => .int i
  | .inr x => .str x
def fO (f : BF) (xs : List D) (s : Sto) : O := match f, xs with
  | .len, [d] => match d with
    | .str z => if z.length ≤ sizeLine then some (.int z.length, s) else none
    | .tup ys => some (.int ys.length, s)
    | .kt ys => some (.int ys.length, s)
    | .ref r => match s.g r with
      | .lst ys => some (.int ys.length, s)
      | .fro ys => some (.int ys.length, s)
      | .dk false ys => some (.int ys.length, s)
      | .dt false ys => some (.int ys.length, s)
      | _ => none
    | _ => none
  | .int, [.int i] => some (.int i, s)
  | .int, [.bl b] => some (.int (if b then 1 else 0), s)
  | .int, [.str a] => if a.length ≤ 640 then (PySem.intText? a).map fun n => (.int n, s) else none
  | .str, [.str a] => some (.str a, s)
  | .str, [.int i] => if i.natAbs.log2 < 1920 then some (.str (toString i), s) else none
  | .list, [d] => match sqOf d s with
    | some ys => some (.ref s.n, s.new (.lst ys))
    | none => match d with
      | .ref r => match s.g r with
        | .dk false kvs => some (.ref s.n, s.new (.lst (kvs.map fun kv => dkey kv.1)))
        | _ => none
      | _ => none
  | .tuple, [d] => match d with
    | .ref r => (rdOf s r).map fun ys => (.tup ys, s)
    | .tup ys => some (.tup ys, s)
    | _ => none
  | .sorted, [.ref r] => (rdOf s r).bind fun ys => (intsO ys).map fun ns => (.ref s.n, s.new (.lst ((isort ns).map .int)))
  | .all, [.ref r] => (rdOf s r).bind fun ys => (blsO ys).map fun bs => (.bl (bs.all id), s)
  | .sum, [.ref r] => (rdOf s r).bind fun ys => (intsO ys).map fun bs => (.int bs.sum, s)
  | .max, [.int i, .int j] => some (.int (if j > i then j else i), s)
  | .min, [.int i, .int j] => some (.int (if j < i then j else i), s)
  | .dict, [.ref r] => match s.g r with
    | .dk _ kvs => some (.ref s.n, s.new (.dk false kvs))
    | _ => none
  | _, _ => none
def rFn (S : St0) (f : BF) : List V → Hp → VK → Prop := fun xs H Q => ∃ φ s ds, RS S φ H s ∧ RVs S.K s.n φ H xs ds ∧ ResO S s φ H (fO f ds s) Q
section
variable {S : St0} {φ : Nat → Addr} {H : Hp} {s : Sto}
theorem new_dk {vs : List (Key × V)} {ds : List (Key × D)} {Q : VK} (R : RS S φ H s) (rv : RKs S.K s.n φ H vs ds) (h : ResO S s φ H (some (.ref s.n, s.new (.dk false ds))) Q) : ∀ p, H p = none → Q (.ref p) (upd H p (.dK vs)) := fun p hp => by
  have e : Ext s.n φ H (s.n + 1) (fun q => if q = s.n then p else φ q) (upd H p (.dK vs)) := ext_alloc hp
  have q := h _ _ (.ref p) e (R.alloc hp ⟨vs, upd_same, rv.ext e⟩)
  refine q ?_
  have := RV.ref (K := S.K) (n := s.n + 1) (φ := fun q => if q = s.n then p else φ q) (H := upd H p (.dK vs)) (r := s.n) (Nat.lt_succ_self _)
  simp only [if_true] at this
  exact this
theorem keys_list {K : PySem.W.Frag} {n : Nat} {φ : Nat → Addr} {H : Hp} : ∀ {vs : List (Key × V)} {ds : List (Key × D)}, RKs K n φ H vs ds → RVs K n φ H (vs.map fun kv => kV kv.1) (ds.map fun kv => dkey kv.1)
  | _, _, .nil => .nil
  | _, _, .cons (k := k) a b => by
    refine .cons ?_ (keys_list b)
    cases k with
    | inl i => exact .int i
    | inr x => exact .str x
variable {X : Cx}
theorem d_copyK {pins : List (Addr × Obj)} {st : Shared} {σ : St} {H : Hp} {a : Addr} {kvs : List (Key × V)} {Q : VK} (I : L2.Inv X pins σ H st) (e : Rd H a (.dK kvs)) (q : ∀ p, H p = none → Q (.ref p) (upd H p (.dK kvs))) :
    wpAny (model X.prog X.w) X.A (call (.type "dict") [.ref a]) (EP X pins σ Q) X.xe st :=
  d_copyOf I e fun p s' hp I' => ⟨.ref p, _, I', rfl, q p hp⟩
theorem fn_sound (hK : X.K = S.K) (hc : X.calm = true) (f : BF) : CallR X f.val (rFn S f) := by
  intro pins st σ H xs us Q I rus h
  obtain ⟨φ, s, ds, R, rds, h⟩ := h
  cases f with
  | len =>
    cases rds with
    | nil => exact h.elim
    | cons ra rb =>
      cases rb with
      | cons _ _ => exact h.elim
      | nil =>
        cases ra with
        | str z =>
          simp only [fO] at h
          split at h
          · rename_i hz
            exact call_len_str pins st σ H _ us Q I rus ⟨z, rfl, hz, h φ H _ .refl R (.int _)⟩
          · exact h.elim
        | @tup a vs ys t rs =>
          refine call_len_seq pins st σ H _ us Q I rus ⟨a, vs, rfl, .inr (.of t), ?_⟩
          rw [rs.length]
          exact h φ H _ .refl R (.int _)
        | @kt a vs ys t rs =>
          refine call_len_seq pins st σ H _ us Q I rus ⟨a, vs, rfl, .inr (hK ▸ t.sqt), ?_⟩
          rw [rs.length]
          exact h φ H _ .refl R (.int _)
        | @ref r hr =>
          have g := R.ob r hr
          simp only [fO] at h
          cases eg : s.g r with
          | lst ys =>
            rw [eg] at g h
            obtain ⟨vs, h1, h2⟩ := g
            refine call_len_seq pins st σ H _ us Q I rus ⟨_, vs, rfl, .inl (.of h1), ?_⟩
            rw [h2.length]
            exact h φ H _ .refl R (.int _)
          | fro ys =>
            rw [eg] at g h
            obtain ⟨vs, h1, h2⟩ := g
            refine call_len_seq pins st σ H _ us Q I rus ⟨_, vs, rfl, .inl (hK ▸ h1.sql), ?_⟩
            rw [h2.length]
            exact h φ H _ .refl R (.int _)
          | dk lk ys =>
            rw [eg] at g h
            cases lk with
            | true => exact h.elim
            | false =>
              obtain ⟨vs, h1, h2⟩ := g
              refine call_lenD pins st σ H _ us Q I rus ⟨_, vs, rfl, h1, ?_⟩
              rw [h2.length]
              exact h φ H _ .refl R (.int _)
          | dt lk ys =>
            rw [eg] at g h
            cases lk with
            | true => exact h.elim
            | false =>
              obtain ⟨vs, h1, h2⟩ := g
              refine call_len_dT pins st σ H _ us Q I rus ⟨_, vs, rfl, h1, ?_⟩
              rw [h2.length]
              exact h φ H _ .refl R (.int _)
          | _ => rw [eg] at h; exact h.elim
        | _ => exact h.elim
  | int =>
    cases rds with
    | nil => exact h.elim
    | cons ra rb =>
      cases rb with
      | cons _ _ => cases ra <;> exact h.elim
      | nil =>
        cases ra with
        | int i => exact call_int1 pins st σ H _ us Q I rus (.inl ⟨i, rfl, h φ H _ .refl R (.int _)⟩)
        | bl b => exact call_int1 pins st σ H _ us Q I rus (.inr ⟨b, rfl, h φ H _ .refl R (.int _)⟩)
        | str a =>
          simp only [fO] at h
          split at h
          · rename_i hz
            cases e : PySem.intText? a with
            | none => rw [e] at h; exact h.elim
            | some m =>
              rw [e] at h
              exact call_int_str pins st σ H _ us Q I rus ⟨a, m, rfl, e, hz, h φ H _ .refl R (.int _)⟩
          · exact h.elim
        | _ => exact h.elim
  | str =>
    cases rds with
    | nil => exact h.elim
    | cons ra rb =>
      cases rb with
      | cons _ _ => cases ra <;> exact h.elim
      | nil =>
        cases ra with
        | int i =>
          simp only [fO] at h
          split at h
          · rename_i hz
            exact call_str_int pins st σ H _ us Q I rus ⟨i, rfl, hz, h φ H _ .refl R (.str _)⟩
          · exact h.elim
        | str a => exact SkE.call_str_str pins st σ H _ us Q I rus ⟨a, rfl, h φ H _ .refl R (.str _)⟩
        | _ => exact h.elim
  | list =>
    cases rds with
    | nil => exact h.elim
    | cons ra rb =>
      cases rb with
      | cons _ _ => exact h.elim
      | nil =>
        simp only [fO] at h
        revert h
        cases e : sqOf _ s with
        | some ys =>
          intro h
          obtain ⟨a, vs, ev, hq, rvs⟩ := sq_at R ra e
          exact call_list_of pins st σ H _ us Q I rus ⟨a, vs, by rw [ev], hK ▸ hq, new_lst R rvs h⟩
        | none =>
          intro h
          cases ra with
          | @ref r hr =>
            have g := R.ob r hr
            simp only at h
            cases eg : s.g r with
            | dk lk kvs =>
              rw [eg] at g h
              cases lk with
              | true => exact h.elim
              | false =>
                obtain ⟨vs, h1, h2⟩ := g
                exact call_list_dK hc pins st σ H _ us Q I rus ⟨_, vs, rfl, h1, new_lst R (keys_list h2) h⟩
            | _ => rw [eg] at h; exact h.elim
          | _ => exact h.elim
  | tuple =>
    cases rds with
    | nil => exact h.elim
    | cons ra rb =>
      cases rb with
      | cons _ _ => exact h.elim
      | nil =>
        cases ra with
        | @ref r hr =>
          simp only [fO] at h
          cases e : rdOf s r with
          | none => rw [e] at h; exact h.elim
          | some ys =>
            rw [e] at h
            obtain ⟨vs, hq, rvs⟩ := rd_at R hr e
            exact call_tuple_of pins st σ H _ us Q I rus ⟨_, vs, rfl, .inl ⟨hK ▸ hq, new_tup R rvs h⟩⟩
        | @tup a vs ys t rs => exact call_tuple_of pins st σ H _ us Q I rus ⟨a, vs, rfl, .inr ⟨.of t, h φ H _ .refl R (.tup t rs)⟩⟩
        | _ => exact h.elim
  | sorted =>
    cases rds with
    | nil => exact h.elim
    | cons ra rb =>
      cases rb with
      | cons _ _ => cases ra <;> exact h.elim
      | nil =>
        cases ra with
        | @ref r hr =>
          simp only [fO] at h
          cases e : rdOf s r with
          | none => rw [e] at h; exact h.elim
          | some ys =>
            rw [e] at h
            simp only [Option.bind_some] at h
            cases e2 : intsO ys with
            | none => rw [e2] at h; exact h.elim
            | some ns =>
              rw [e2] at h
              obtain ⟨vs, hq, rvs⟩ := rd_at R hr e
              rw [ints_rv rvs e2] at hq
              refine cr_sortedI pins st σ H _ us Q I rus ⟨_, ns, rfl, hK ▸ hq, fun ns' p hp hs hn => ?_⟩
              rw [isort_eq hp hs]
              exact new_lst R (RVs.ofInts _) h p hn
        | _ => exact h.elim
  | all =>
    cases rds with
    | nil => exact h.elim
    | cons ra rb =>
      cases rb with
      | cons _ _ => cases ra <;> exact h.elim
      | nil =>
        cases ra with
        | @ref r hr =>
          simp only [fO] at h
          cases e : rdOf s r with
          | none => rw [e] at h; exact h.elim
          | some ys =>
            rw [e] at h
            simp only [Option.bind_some] at h
            cases e2 : blsO ys with
            | none => rw [e2] at h; exact h.elim
            | some ns =>
              rw [e2] at h
              obtain ⟨vs, hq, rvs⟩ := rd_at R hr e
              rw [bls_rv rvs e2] at hq
              exact cr_all hc pins st σ H _ us Q I rus ⟨_, ns, rfl, hK ▸ hq, h φ H _ .refl R (.bl _)⟩
        | _ => exact h.elim
  | sum =>
    cases rds with
    | nil => exact h.elim
    | cons ra rb =>
      cases rb with
      | cons _ _ => cases ra <;> exact h.elim
      | nil =>
        cases ra with
        | @ref r hr =>
          simp only [fO] at h
          cases e : rdOf s r with
          | none => rw [e] at h; exact h.elim
          | some ys =>
            rw [e] at h
            simp only [Option.bind_some] at h
            cases e2 : intsO ys with
            | none => rw [e2] at h; exact h.elim
            | some ns =>
              rw [e2] at h
              obtain ⟨vs, hq, rvs⟩ := rd_at R hr e
              rw [ints_rv rvs e2] at hq
              exact cr_sum hc pins st σ H _ us Q I rus ⟨_, ns, rfl, hK ▸ hq, h φ H _ .refl R (.int _)⟩
        | _ => exact h.elim
  | max =>
    cases rds with
    | nil => exact h.elim
    | cons ra rb =>
      cases rb with
      | nil => cases ra <;> exact h.elim
      | cons rc rb =>
        cases rb with
        | cons _ _ => cases ra <;> cases rc <;> exact h.elim
        | nil =>
          cases ra with
          | int i =>
            cases rc with
            | int j => exact call_max2 hc pins st σ H _ us Q I rus ⟨i, j, rfl, h φ H _ .refl R (.int _)⟩
            | _ => exact h.elim
          | _ => cases rc <;> exact h.elim
  | min =>
    cases rds with
    | nil => exact h.elim
    | cons ra rb =>
      cases rb with
      | nil => cases ra <;> exact h.elim
      | cons rc rb =>
        cases rb with
        | cons _ _ => cases ra <;> cases rc <;> exact h.elim
        | nil =>
          cases ra with
          | int i =>
            cases rc with
            | int j => exact call_min2 hc pins st σ H _ us Q I rus ⟨i, j, rfl, h φ H _ .refl R (.int _)⟩
            | _ => exact h.elim
          | _ => cases rc <;> exact h.elim
  | dict =>
    cases rds with
    | nil => exact h.elim
    | cons ra rb =>
      cases rb with
      | cons _ _ => cases ra <;> exact h.elim
      | nil =>
        cases ra with
        | @ref r hr =>
          have g := R.ob r hr
          simp only [fO] at h
          cases eg : s.g r with
          | dk lk kvs =>
            rw [eg] at g h
            obtain ⟨vs, h1, h2⟩ := g
            obtain ⟨u, rfl, ru⟩ := vals1 rus
            cases ru
            have hrd : Rd H (φ r) (.dK vs) := by
              cases lk with
              | true => obtain ⟨o, h1⟩ := h1; exact .inr ⟨o, h1⟩
              | false => exact .inl h1
            exact d_copyK I hrd (new_dk R h2 h)
          | _ => rw [eg] at h; exact h.elim
        | _ => exact h.elim
end
end Ab
set_option Elab.async false
set_option linter.all false
set_option maxRecDepth 100000
set_option maxHeartbeats 1000000
/-! Ab4: of the text: what the hand layer asks of an expression's form -/
namespace Ab
open PySem L2

def plainRecv : Expr → Bool
  | .Call (.Name _ _) [] [] _ => false
  | _ => true
theorem base_of {o : Expr} {m : Str} {env : PySem.Env} {t : Sem Value} (h : plainRecv o = true) : attributeBase o m env t = t := by
  unfold attributeBase
  split
  · cases h
  · rfl
def noStar : Expr → Bool
  | .Starred _ _ => false
  | _ => true
theorem star_cons {e : Expr} {es : List Expr} {env : PySem.Env} (h : noStar e = true) : starEach (e :: es) env = (false, eval e env) :: starEach es env := by
  cases e <;> first | rfl | cases h
theorem star_plain : ∀ {es : List Expr} {env : PySem.Env}, es.all noStar = true → (starEach es env).any (·.1) = false
  | [], _, _ => rfl
  | e :: es, env, h => by
    rw [List.all_cons, Bool.and_eq_true] at h
    rw [star_cons h.1, List.any_cons, star_plain h.2]
    rfl
theorem back_plain {es : List Expr} {env : PySem.Env} {pos : Pos} (h : es.all noStar = true) : (backTo pos (starEach es env)).any (·.1) = false := by
  have e := star_plain (env := env) h
  unfold backTo
  rw [List.any_map]
  exact e
theorem star_len : ∀ {es : List Expr} {env : PySem.Env}, (starEach es env).length = es.length
  | [], _ => rfl
  | e :: es, env => by
    cases e <;> (show (_ :: starEach es env).length = _; rw [List.length_cons, List.length_cons, star_len])
theorem form_of {es : List Expr} {env : PySem.Env} {pos : Pos} (h : es.all noStar = true) (n : Nat) (hn : n < 30) : methodCallForm n (backTo pos (starEach es env)) [] = true := by
  have e := back_plain (env := env) (pos := pos) h
  unfold methodCallForm
  rw [List.any_eq_false] at e
  simp only [List.all_nil, Bool.and_true, List.isEmpty_nil, if_true, Nat.add_zero, decide_eq_true hn, List.all_eq_true, Bool.not_eq_true']
  intro x hx
  simpa using e x hx
theorem call_attr_eq {o : Expr} {m : Str} {apos pos : Pos} {args : List Expr} {env : PySem.Env} (hb : plainRecv o = true) (ha : args.all noStar = true) (hn : args.length < 30) (hl : (apos.endLine == pos.line) = true) :
    eval (.Call (.Attribute o m apos) args [] pos) env = (do
      let ov ← eval o env
      standAt apos.atName
      let (f, first) ← holding [ov] (getMethod ov m (do return (← importBound o env).getD true))
      callWith pos f first (backTo pos (starEach args env)) (backToKw pos (keywordEach [] env))) := by
  have e : eval (.Call (.Attribute o m apos) args [] pos) env = (do
      let ov ← attributeBase o m env (eval o env)
      standAt apos.atName
      methodCall o m apos pos env ov (args.length + 0) (backTo pos (starEach args env)) (backToKw pos (keywordEach [] env))) := rfl
  rw [e, base_of hb]
  have f := form_of (env := env) (pos := pos) ha (args.length + 0) hn
  unfold methodCall calleeOf methodCallPos
  have k : backToKw pos (keywordEach [] env) = [] := rfl
  rw [k, f]
  simp only [if_true, Bool.not_true, Bool.false_or, hl]
  congr 1
/-- no comprehension: an assignment stores its value in the plain way -/
def noComp : Expr → Bool
  | .ListComp .. => false
  | .SetComp .. => false
  | .DictComp .. => false
  | _ => true
theorem swaps_no {e : Expr} {t : Option Expr} {l : Nat} {env : PySem.Env} (h : noComp e = true) : swapsWith e t l env = pure false := by
  unfold swapsWith
  cases e <;> first | rfl | cases h
theorem swaps_sole {e t : Expr} {l : Nat} {env : PySem.Env} (h : noComp e = true) : swapsWithSole [t] e l env = pure false := swaps_no h
def noSlice : Expr → Bool
  | .Slice .. => false
  | _ => true
theorem plainIx {b : Expr} (h : noSlice b = true) : PlainIx b := by
  intro o i
  cases b <;> first | rfl | cases h
def noSet : Expr → Bool
  | .Set .. => false
  | _ => true
theorem fold_set {e : Expr} {env : PySem.Env} (h : noSet e = true) : ∀ x, foldedSetIterable e env x = pure x := by
  intro x
  cases e <;> first | rfl | cases h
theorem marks_no {op : CmpOp} {e : Expr} (h : noSet e = true) : behindInMarks op e = false := by
  cases e <;> first | rfl | cases h
theorem last_marks {op op' : CmpOp} {b c : Expr} (h : noSet c = true) : lastMarks [op, op'] [b, c] = false := by
  show behindInMarks op' c = false
  exact marks_no h
/-- an expression whose test is its value's truth -/
def plainTest : Expr → Bool
  | .UnaryOp .Not _ _ => false
  | .BoolOp .. => false
  | .IfExp .. => false
  | .Compare .. => false
  | _ => true
theorem test_plain {e : Expr} {env : PySem.Env} (h : plainTest e = true) : ∀ whole, isTrue e env whole = (do let v ← whole; standAt e.pos; holding [v] (truthy v)) := by
  intro whole
  cases e with
  | UnaryOp op x p => cases op <;> first | rfl | cases h
  | _ => first | rfl | cases h
theorem assign_cons {e : Expr} {es : List Expr} {env : PySem.Env} (h : noStar e = true) : (assignEach (e :: es) env).map (·.2) = assign e env :: (assignEach es env).map (·.2) := by
  cases e <;> first | rfl | cases h
theorem assign_len : ∀ {es : List Expr} {env : PySem.Env}, (assignEach es env).length = es.length
  | [], _ => rfl
  | e :: es, env => by
    cases e <;> (show (_ :: assignEach es env).length = _; rw [List.length_cons, List.length_cons, assign_len])
theorem assign_star : ∀ {es : List Expr} {env : PySem.Env}, es.all noStar = true → (assignEach es env).findIdx? (·.1) = none
  | [], _, _ => rfl
  | e :: es, env, h => by
    rw [List.all_cons, Bool.and_eq_true] at h
    have ih := assign_star (env := env) h.2
    rw [List.findIdx?_eq_none_iff] at ih ⊢
    intro x hx
    cases e <;> first | (cases h.1; done) | (rcases List.mem_cons.mp hx with rfl | hx; rfl; exact ih x hx)

/-! ### method calls at the caller's slots -/
section
variable {X : Cx} {CX : CXT} {k : Nat} {f C : Addr} {fd : FuncData} {ps : List Str} {sp : Sp} {E : St → XK} {x m : Str} {p pos apos : Pos} {e o : Expr} {es : List Expr} {ta : TE} {t : TA}
def tMethS (C : Addr) (m : Str) (sp : Sp) (E : St → XK) (ta : TE) (t : TA) : TE := fun σ H Q => ta σ H fun x H1 => ∃ a dx fs, x = .ref a ∧ H1 a = some (.ins C dx fs) ∧ fs.lookup m = none ∧
  t σ H1 fun vs H2 => sp (x :: vs) H2 Q (E σ)
theorem pe_methS (he : PE X o ta) (c : Cls X.K C) (hm : Meth X.K C m f) (F : FnOk X.prog X.w X.K X.mg X.base CX k f fd ps sp) (hr : Room k X.A) (hb : Binds X.K fd ps []) (hx : ∀ σ, PassesAt CX X σ (E σ)) (ha : PA X (e :: es) t)
    (h1 : plainRecv o = true) (h2 : (e :: es).all noStar = true) (h3 : (e :: es).length < 30) (h4 : (apos.endLine == pos.line) = true) :
    PE X (.Call (.Attribute o m apos) (e :: es) [] pos) (tMethS C m sp E ta t) := by
  refine ⟨fun pins s σ H Q I h => ?_⟩
  refine PySem.W.methodCall_KW (pl := (do return (← importBound o X.env).getD true)) (thn (he.run pins s σ H _ I h) fun u s1 ⟨x, H1, I1, rx, a, dx, fs, ex, ea, l, q⟩ => ?_) (call_attr_eq h1 h2 h3 h4)
  subst ex
  obtain rfl : u = Value.ref a := rx
  refine getmeth_ok I1 ea c hm l ?_
  rw [List.all_cons, Bool.and_eq_true] at h2
  refine PySem.W.callWith_K (first := [.ref a]) (h₀ := X.base) I.ok.mod.kin hm.kp (thn (ha.run pos pins s1 σ H1 _ I1 q) fun us s2 ⟨vs, H2, I2, r, q2⟩ => ⟨I2.kIn, ?_⟩) (star_cons h2.1) (back_plain h2.2)
  exact run_fnS (us := .ref a :: us) (vs := .ref a :: vs) F hr hb (hx σ) I2 (.cons rfl r) q2
theorem pe_methS0 (he : PE X o ta) (c : Cls X.K C) (hm : Meth X.K C m f) (F : FnOk X.prog X.w X.K X.mg X.base CX k f fd ps sp) (hr : Room k X.A) (hb : Binds X.K fd ps []) (hx : ∀ σ, PassesAt CX X σ (E σ))
    (h1 : plainRecv o = true) (h4 : (apos.endLine == pos.line) = true) :
    PE X (.Call (.Attribute o m apos) [] [] pos) (tMethS C m sp E ta tNil) := by
  refine ⟨fun pins s σ H Q I h => ?_⟩
  refine PySem.W.methodCall_KW (pl := (do return (← importBound o X.env).getD true)) (thn (he.run pins s σ H _ I h) fun u s1 ⟨x, H1, I1, rx, a, dx, fs, ex, ea, l, q⟩ => ?_) (call_attr_eq h1 rfl (by decide) h4)
  subst ex
  obtain rfl : u = Value.ref a := rx
  refine getmeth_ok I1 ea c hm l ?_
  exact PySem.W.callWith_K0 (first := [.ref a]) I1.kIn hm.kp (run_fnS (us := [.ref a]) (vs := [.ref a]) F hr hb (hx σ) I1 (.cons rfl .nil) q)
/-- f() -/
theorem pe_callS0 (F : FnOk X.prog X.w X.K X.mg X.base CX k f fd ps sp) (hr : Room k X.A) (hg : Gl X x) (hm : X.mg x = some (.ref f)) (hk : PySem.W.keepIn X.K (.ref f) = true) (hb : Binds X.K fd ps []) (hx : ∀ σ, PassesAt CX X σ (E σ))
    (hdb : (x == ("__debug__" : Str)) = false) : PE X (.Call (.Name x p) [] [] pos) (tCallS sp E tNil) := by
  refine ⟨fun pins s σ H Q I h => ?_⟩
  refine wpAny_Call_Name_kw (ld_glob I hg hm ?_ hdb)
  exact PySem.W.callWith_K0 I.kIn hk (run_fnS (us := []) F hr hb (hx σ) I .nil h)

/-! ### C(..) at the caller's slots -/
theorem run_makeS {pins : List (Addr × Obj)} {σ : St} {H : Hp} {s : Shared} {Q : VK} {us : List Value} {vs : List V} (M : Mk X.K C f) (F : FnOk X.prog X.w X.K X.mg X.base CX k f fd ps sp) (hr : Room (k + 1) X.A) (hb : Binds X.K fd ps []) (hx : PassesAt CX X σ (E σ))
    (I : Inv X pins σ H s) (r : Vals vs us)
    (h : ∀ x dx, H x = none → H dx = none → dx ≠ x → sp (.ref x :: vs) (upd (upd H dx (.own x)) x (.ins C dx [])) (fun v H2 => v = .non ∧ Q (.ref x) H2) (E σ)) :
    wpAny (model X.prog X.w) X.A (call (.ref C) us) (EP X pins σ Q) X.xe s := by
  have hq := h (s.heap.objs.size + 1) s.heap.objs.size (I.hok.fresh (Nat.le_succ _)) (I.hok.fresh (Nat.le_refl _)) (Nat.ne_of_lt (Nat.lt_succ_self _))
  have I2 := Inv.made (C := C) I
  have r2 : Vals (V.ref (s.heap.objs.size + 1) :: vs) (Value.ref (s.heap.objs.size + 1) :: us) := .cons rfl r
  have hl : (Value.ref (s.heap.objs.size + 1) :: us).length = ps.length := by rw [← r2.length]; exact F.len _ _ _ _ hq
  have b := hb _ (Value.ref (s.heap.objs.size + 1) :: us) I2.kIn (by rw [List.append_nil]; exact hl)
  rw [List.append_nil] at b
  refine wpAny_call (make_map (f := f) I.kIn M.makes M.init (beq_iff_eq.mp M.fn) (codeAny_mono (F.run _ X.stack _ _ ⟨Value.ref (s.heap.objs.size + 1) :: us, []⟩ (Value.ref (s.heap.objs.size + 1) :: us) _ _ (E σ) (hr.make C us [])
    (I2.env0.make C us []) b r2 hq) fun r s' hq' => ?_))
  cases r with
  | error e => exact hx pins _ _ e s' I2 hq'
  | ok fl =>
    cases fl with
    | ret u =>
      obtain ⟨v, H', I3, rv, ev, q3⟩ := I2.after hq'
      subst ev
      exact ⟨rv, ⟨V.ref (s.heap.objs.size + 1), H', I3, rfl, q3⟩⟩
    | next => exact False.elim hq'
    | brk => exact False.elim hq'
    | cont => exact False.elim hq'
def tMakeS (C : Addr) (sp : Sp) (E : St → XK) (t : TA) : TE := fun σ H Q => t σ H fun vs H1 => ∀ x dx, H1 x = none → H1 dx = none → dx ≠ x →
  sp (.ref x :: vs) (upd (upd H1 dx (.own x)) x (.ins C dx [])) (fun v H2 => v = .non ∧ Q (.ref x) H2) (E σ)
theorem pe_makeS (M : Mk X.K C f) (F : FnOk X.prog X.w X.K X.mg X.base CX k f fd ps sp) (hr : Room (k + 1) X.A) (hg : Gl X x) (hm : X.mg x = some (.ref C)) (hb : Binds X.K fd ps []) (hx : ∀ σ, PassesAt CX X σ (E σ))
    (ha : PA X (e :: es) t) (hdb : (x == ("__debug__" : Str)) = false) (h2 : (e :: es).all noStar = true) :
    PE X (.Call (.Name x p) (e :: es) [] pos) (tMakeS C sp E t) := by
  refine ⟨fun pins s σ H Q I h => ?_⟩
  rw [List.all_cons, Bool.and_eq_true] at h2
  refine wpAny_Call_Name_kw (ld_glob I hg hm ?_ hdb)
  refine PySem.W.callWith_K (h₀ := X.base) I.ok.mod.kin M.kp (thn (ha.run pos pins s σ H _ I h) fun us s1 ⟨vs, H1, I1, r, q⟩ => ⟨I1.kIn, ?_⟩) (star_cons h2.1) (back_plain h2.2)
  exact run_makeS M F hr hb (hx σ) I1 r q
theorem pe_makeS0 (M : Mk X.K C f) (F : FnOk X.prog X.w X.K X.mg X.base CX k f fd ps sp) (hr : Room (k + 1) X.A) (hg : Gl X x) (hm : X.mg x = some (.ref C)) (hb : Binds X.K fd ps []) (hx : ∀ σ, PassesAt CX X σ (E σ))
    (hdb : (x == ("__debug__" : Str)) = false) : PE X (.Call (.Name x p) [] [] pos) (tMakeS C sp E tNil) := by
  refine ⟨fun pins s σ H Q I h => ?_⟩
  refine wpAny_Call_Name_kw (ld_glob I hg hm ?_ hdb)
  exact PySem.W.callWith_K0 I.kIn M.kp (run_makeS (us := []) M F hr hb (hx σ) I .nil h)
end
end Ab
set_option Elab.async false
set_option linter.all false
set_option maxRecDepth 100000
set_option maxHeartbeats 1000000
/-! Ab5: the inner language: its terms, what they mean, how a text is checked against them -/
namespace Ab
open PySem L2

mutual
/-- a target: slots, tuples of them -/
inductive Tg where
  | nm (i : Nat)
  | tp (ts : Tgs)
inductive Tgs where
  | nil
  | cons (t : Tg) (ts : Tgs)
end
mutual
inductive E where
  | var (i : Nat)
  | cst (d : D)
  | glob (g : Nat)
  | bin (o : BO) (a b : E)
  | neg (a : E)
  | cmp (o : CO) (a b : E)
  | chain (o o' : CO) (a b c : E)
  | and (a b : E)
  | or (a b : E)
  | not (a : E)
  | ite (c a b : E)
  | ix (a b : E)
  | sl (a : E) (lo hi : Op)
  | rev (a : E)
  | tup (es : Es)
  | lst (es : Es)
  | dnew (k : Bool)
  | disp (kvs : Es)
  | fld (a : E) (f : Str)
  | call (f : Nat) (es : Es)
  | make (c : Nat) (es : Es)
  | meth (c : Nat) (f : Nat) (m : Str) (o : E) (es : Es)
  | bf (f : BF) (es : Es)
  | bm (m : BM) (o : E) (es : Es)
  | isi (e : E) (T : String)
  | lc (own : List Nat) (tg : Tg) (it : It) (c : Op) (e : E)
  | fst (es : Es)
  | fmt (e : E)
  | kget (g : Nat) (e : E)
  | kin (neg : Bool) (g : Nat) (e : E)
  | lock (e b : E)
inductive Es where
  | nil
  | cons (e : E) (es : Es)
inductive Op where
  | none
  | some (e : E)
inductive It where
  | seq (e : E)
  | rng1 (a : E)
  | rng2 (a b : E)
  | rng3 (a b c : E)
  | zp (a b : E)
  | enm (a : E)
  | keys (a : E)
end

/-! ### what is walked -/
inductive Src where
  | fix (xs : List D)
  | txt (z : Str)
  | dyn (r : Nat)
  | rng (lo : Int) (n : Nat)
  | rngC (lo c : Int) (n : Nat)
  | keys (ks : List Key)
  | keysT (ks : List (List Key))
  | enm (r : Nat)
  | zpT (xs ys : List D)
  | zpL (r q : Nat)
def pairO : Option D → Option D → Option D
  | some x, some y => some (.tup [x, y])
  | _, _ => none
def keyD : Key → D
  | .inl i => .int i
  | .inr x => .str x
/-- the item at a turn: none: it is not known; some none: the end -/
def sItem : Src → Nat → Sto → Option (Option D)
  | .fix xs, i, _ => some xs[i]?
  | .txt z, i, _ => some ((z.cps[i]?).map fun c => .str ⟨#[c]⟩)
  | .dyn r, i, s => (rdOf s r).map fun xs => xs[i]?
  | .rng lo n, i, _ => some (if i < n then some (.int (lo + i)) else none)
  | .rngC lo c n, i, _ => some (if i < n then some (.int (lo + i * c)) else none)
  | .keys ks, i, _ => some ((ks[i]?).map keyD)
  | .keysT ks, i, _ => some ((ks[i]?).map fun k => .tup (k.map keyD))
  | .enm r, i, s => (rdOf s r).map fun xs => (xs[i]?).map fun x => .tup [.int i, x]
  | .zpT xs ys, i, _ => some (pairO xs[i]? ys[i]?)
  | .zpL r q, i, s => (rdOf s r).bind fun xs => (rdOf s q).map fun ys => pairO xs[i]? ys[i]?
/-- more turns than it has -/
def sMany : Src → Sto → Nat
  | .fix xs, _ => xs.length + 1
  | .txt z, _ => z.cps.size + 1
  | .dyn r, s => ((rdOf s r).getD []).length + 1
  | .rng _ n, _ => n + 1
  | .rngC _ _ n, _ => n + 1
  | .keys ks, _ => ks.length + 1
  | .keysT ks, _ => ks.length + 1
  | .enm r, s => ((rdOf s r).getD []).length + 1
  | .zpT xs _, _ => xs.length + 1
  | .zpL r _, s => ((rdOf s r).getD []).length + 1
def small62 (i : Int) : Bool := decide (i.natAbs.log2 < 62)
def srcOf (d : D) (s : Sto) : Option Src := match d with
  | .tup xs => some (.fix xs)
  | .kt xs => some (.fix xs)
  | .str z => some (.txt z)
  | .ref r => (rdOf s r).map fun _ => .dyn r
  | _ => none
mutual
def bindT : Tg → D → Env → Option Env
  | .nm i, d, ρ => some (ρ.set i (some d))
  | .tp ts, d, ρ => (tupOf d).bind fun xs => bindTs ts xs ρ
def bindTs : Tgs → List D → Env → Option Env
  | .nil, [], ρ => some ρ
  | .cons t ts, d :: ds, ρ => (bindT t d ρ).bind fun ρ' => bindTs ts ds ρ'
  | _, _, _ => none
end
/-- no exception may leave -/
def R.noex {α : Type} : R α → R α
  | .ok a s => .ok a s
  | _ => .bad
def wipeD (ρ : Env) : List Nat → Env
  | [] => ρ
  | v :: vs => (wipeD ρ vs).set v none
/-- a comprehension's turns: the list grows at r -/
def lcLoop (src : Src) (r : Nat) (tg : D → Option Env) (c : Env → Sto → R Bool) (e : Env → Sto → R D) : Nat → Nat → Sto → R D
  | 0, _, _ => .bad
  | f + 1, i, s => match sItem src i s with
    | none => .bad
    | some none => .ok (.ref r) s
    | some (some d) => match tg d with
      | none => .bad
      | some ρ => (c ρ s).noex.bind fun b s1 => match b with
        | true => (e ρ s1).noex.bind fun y s2 => match lstOf s2 r with
          | none => .bad
          | some acc => if acc.length < sizeLine then lcLoop src r tg c e f (i + 1) (s2.put r (.lst (acc ++ [y]))) else .bad
        | false => lcLoop src r tg c e f (i + 1) s1

def ofB (b : Bool) (s : Sto) : R D := .ok (.bl b) s
def asB (d : D) (s : Sto) : R Bool := match d with
  | .bl b => .ok b s
  | _ => .bad
def truR (d : D) (s : Sto) : R Bool := match truO d s with
  | some b => .ok b s
  | none => .bad
def asI (d : D) (s : Sto) : R Int := match d with
  | .int i => .ok i s
  | _ => .bad
def fldO (nc : Nat) (d : D) (f : Str) (s : Sto) : O := match d with
  | .ref r => match s.g r with
    | .ins c fs => if c < nc then (fs.lookup f).map fun x => (x, s) else none
    | _ => none
  | _ => none
/-- an instance of the class c without an attribute of that name -/
def isIns (c : Nat) (m : Str) (d : D) (s : Sto) : Bool := match d with
  | .ref r => match s.g r with
    | .ins c' fs => decide (c' = c) && (fs.lookup m).isNone
    | _ => false
  | _ => false
/-- isinstance of a built-in type -/
def tyName (d : D) (s : Sto) : Option String := match d with
  | .non => some "NoneType"
  | .bl _ => some "bool"
  | .int _ => some "int"
  | .str _ => some "str"
  | .tup _ => some "tuple"
  | .kt _ => some "tuple"
  | .ref r => match s.g r with
    | .lst _ => some "list"
    | .fro _ => some "list"
    | .dk false _ => some "dict"
    | .dt false _ => some "dict"
    | _ => none
def isiB (t T : String) : Option Bool := match t, T with
  | "NoneType", "int" => some false | "NoneType", "bool" => some false | "NoneType", "str" => some false | "NoneType", "tuple" => some false | "NoneType", "list" => some false
  | "bool", "int" => some true | "bool", "bool" => some true | "bool", "str" => some false | "bool", "tuple" => some false | "bool", "list" => some false
  | "int", "int" => some true | "int", "bool" => some false | "int", "str" => some false | "int", "tuple" => some false | "int", "list" => some false
  | "str", "int" => some false | "str", "bool" => some false | "str", "str" => some true | "str", "tuple" => some false | "str", "list" => some false
  | "tuple", "int" => some false | "tuple", "bool" => some false | "tuple", "str" => some false | "tuple", "tuple" => some true | "tuple", "list" => some false
  | "list", "int" => some false | "list", "bool" => some false | "list", "str" => some false | "list", "tuple" => some false | "list", "list" => some true
  | "dict", "int" => some false | "dict", "bool" => some false | "dict", "str" => some false | "dict", "tuple" => some false | "dict", "list" => some false
  | _, _ => none
def isiO (d : D) (T : String) (s : Sto) : O := (tyName d s).bind fun t => (isiB t T).map fun b => (.bl b, s)
def fmtO (d : D) : Option Str := match d with
  | .str x => if x.length ≤ sizeLine then some x else none
  | .int i => if i.natAbs.log2 < 1920 then some (toString i) else none
  | _ => none
def mergeG (kvs : List (Key × D)) : List (Key × D) := kvs.foldl (fun acc kv => putG acc kv.1 kv.2) []

/-- what the calls of defs mean -/
structure Gam where
  fn : Nat → List D → Sto → R D
  ar : Nat → Nat
  init : Nat → Nat
  gl : Nat → D
  ncls : Nat
  kd : Nat → List (Str × D)

/-- a value, and its truth as a test -/
abbrev M2 := (Env → Sto → R D) × (Env → Sto → R Bool)
def dup (v : Env → Sto → R D) : M2 := (v, fun ρ s => (v ρ s).bind truR)
def mVar (i : Nat) : Env → Sto → R D := fun ρ s => match ρ[i]? with
  | some (some d) => .ok d s
  | _ => .bad
def mBin (o : BO) (a b : Env → Sto → R D) : Env → Sto → R D := fun ρ s => (a ρ s).bind fun x s => (b ρ s).bind fun y s => .ofO (opB o x y s)
def mNeg (a : Env → Sto → R D) : Env → Sto → R D := fun ρ s => (a ρ s).bind fun x s => .ofO (opN x s)
def mCmp (o : CO) (a b : Env → Sto → R D) : Env → Sto → R D := fun ρ s => (a ρ s).bind fun x s => (b ρ s).bind fun y s => .ofO (opC o x y s)
def mCmpT (o : CO) (a b : Env → Sto → R D) : Env → Sto → R Bool := fun ρ s => (a ρ s).bind fun x s => (b ρ s).bind fun y s => (R.ofO (opC o x y s)).bind asB
def mChain (o o' : CO) (a b c : Env → Sto → R D) : Env → Sto → R D := fun ρ s => (a ρ s).bind fun x s => (b ρ s).bind fun y s => (R.ofO (opC o x y s)).bind fun z s => (asB z s).bind fun k s => match k with
    | true => (c ρ s).bind fun w s => .ofO (opC o' y w s)
    | false => .ok (.bl false) s
def mChainT (o o' : CO) (a b c : Env → Sto → R D) : Env → Sto → R Bool := fun ρ s => (a ρ s).bind fun x s => (b ρ s).bind fun y s => (R.ofO (opC o x y s)).bind fun z s => (asB z s).bind fun k s => match k with
    | true => (c ρ s).bind fun w s => (R.ofO (opC o' y w s)).bind asB
    | false => .ok false s
def mAnd (a b : Env → Sto → R D) : Env → Sto → R D := fun ρ s => (a ρ s).bind fun x s => (asB x s).bind fun k s => match k with
    | true => b ρ s
    | false => .ok (.bl false) s
def mOr (a b : Env → Sto → R D) : Env → Sto → R D := fun ρ s => (a ρ s).bind fun x s => (asB x s).bind fun k s => match k with
    | true => .ok (.bl true) s
    | false => b ρ s
def mNot (a : Env → Sto → R D) : Env → Sto → R D := fun ρ s => (a ρ s).bind fun x s => (asB x s).bind fun k s => .ok (.bl (!k)) s
def mAndT (a b : Env → Sto → R Bool) : Env → Sto → R Bool := fun ρ s => (a ρ s).bind fun k s => match k with
    | true => b ρ s
    | false => .ok false s
def mOrT (a b : Env → Sto → R Bool) : Env → Sto → R Bool := fun ρ s => (a ρ s).bind fun k s => match k with
    | true => .ok true s
    | false => b ρ s
def mNotT (a : Env → Sto → R Bool) : Env → Sto → R Bool := fun ρ s => (a ρ s).bind fun k s => .ok (!k) s
def mIte (c : Env → Sto → R Bool) (a b : Env → Sto → R D) : Env → Sto → R D := fun ρ s => (c ρ s).bind fun k s => match k with
    | true => a ρ s
    | false => b ρ s
def mIx (a b : Env → Sto → R D) : Env → Sto → R D := fun ρ s => (a ρ s).bind fun x s => (b ρ s).bind fun y s => .ofO (ixO x y s)
def mSl (a : Env → Sto → R D) (lo hi : Env → Sto → R (Option Int)) : Env → Sto → R D := fun ρ s => (a ρ s).bind fun x s => (lo ρ s).bind fun l s => (hi ρ s).bind fun h s => .ofO (slO x l h s)
def revO (x : D) (s : Sto) : O := match x with
  | .ref r => (rdOf s r).map fun xs => (.ref s.n, s.new (.lst xs.reverse))
  | _ => none
def mRev (a : Env → Sto → R D) : Env → Sto → R D := fun ρ s => (a ρ s).bind fun x s => .ofO (revO x s)
def tupR (xs : List D) (s : Sto) : R D := if xs.length ≤ sizeLine then .ok (.tup xs) s else .bad
def lstR (xs : List D) (s : Sto) : R D := if xs.length ≤ sizeLine then .ok (.ref s.n) (s.new (.lst xs)) else .bad
def mFld (nc : Nat) (a : Env → Sto → R D) (f : Str) : Env → Sto → R D := fun ρ s => (a ρ s).bind fun x s => .ofO (fldO nc x f s)
def mkR (n : Nat) (v : D) (s : Sto) : R D := match v with
  | .non => .ok (.ref n) s
  | _ => .bad
def mMake (Γ : Gam) (c : Nat) (es : Env → Sto → R (List D)) : Env → Sto → R D := fun ρ s => (es ρ s).bind fun xs s => (Γ.fn (Γ.init c) (.ref s.n :: xs) (s.new (.ins c []))).bind (mkR s.n)
def mMeth (Γ : Gam) (c f : Nat) (m : Str) (o : Env → Sto → R D) (es : Env → Sto → R (List D)) : Env → Sto → R D := fun ρ s => (o ρ s).bind fun x s => if isIns c m x s = true then (es ρ s).bind fun xs s => Γ.fn f (x :: xs) s else .bad
def mBm (m : BM) (o : Env → Sto → R D) (es : Env → Sto → R (List D)) : Env → Sto → R D := fun ρ s => (o ρ s).bind fun x s => if tyO m x s = true then (es ρ s).bind fun xs s => .ofO (mO m x xs s) else .bad
def mLc (own : List Nat) (tg : Tg) (it : Env → Sto → R Src) (c : Env → Sto → R Bool) (e : Env → Sto → R D) : Env → Sto → R D := fun ρ s => (it ρ s).bind fun src s =>
      lcLoop src s.n (fun d => bindT tg d (wipeD ρ own)) c e (sMany src s) 0 (s.new (.lst []))
def srcR (x : D) (s : Sto) : R Src := match srcOf x s with
  | some c => .ok c s
  | none => .bad
def rng1R (i : Int) (s : Sto) : R Src := if small62 i = true then .ok (.rng 0 i.toNat) s else .bad
def rng2R (i j : Int) (s : Sto) : R Src := if (small62 i && small62 j) = true then .ok (.rng i (j - i).toNat) s else .bad
def zipR (x y : D) (s : Sto) : R Src := match tupOf x, tupOf y with
    | some xs, some ys => .ok (.zpT xs ys) s
    | _, _ => match x, y with
      | .ref r, .ref q => match rdOf s r, rdOf s q with
        | some _, some _ => .ok (.zpL r q) s
        | _, _ => .bad
      | _, _ => .bad
def enmR (x : D) (s : Sto) : R Src := match x with
    | .ref r => match rdOf s r with
      | some _ => .ok (.enm r) s
      | none => .bad
    | _ => .bad
def rng3R (i j c : Int) (s : Sto) : R Src := if decide (c ≠ 0) && (decide (c.natAbs < 1073741824) && (Builtin.Range.small i j c && decide (0 ≤ Builtin.Range.rangeSize i j c))) then .ok (.rngC i c (Builtin.Range.rangeSize i j c).toNat) s else .bad
def keysR (x : D) (s : Sto) : R Src := match x with
    | .ref r => match s.g r with
      | .dk true kvs => .ok (.keys (kvs.map (·.1))) s
      | .dt true kvs => .ok (.keysT (kvs.map (·.1))) s
      | _ => .bad
    | _ => .bad
def mDisp (m : Env → Sto → R (List (Key × D))) : Env → Sto → R D := fun ρ s => (m ρ (s.new (.dk false []))).bind fun kvs s1 => match s1.g s.n with
    | .dk false [] => if kvs.length ≤ 15 then .ok (.ref s.n) (s1.put s.n (.dk false (mergeG kvs))) else .bad
    | _ => .bad
def joinR (acc : Str) (x : D) (s : Sto) (f : Str → R Str) : R Str := match x with
    | .str y => if (acc ++ y).length ≤ sizeLine then f (acc ++ y) else .bad
    | _ => .bad
def fmtR (x : D) (s : Sto) : R D := match fmtO x with
    | some y => .ok (.str y) s
    | none => .bad
def strR {α : Type} (x : D) (f : Str → R α) : R α := match x with
    | .str z => f z
    | _ => .bad
def keyR {α : Type} (x : D) (f : Key → R α) : R α := match keyO x with
    | some k => f k
    | none => .bad
/-- a dict is locked, let go -/
def lockS (r : Nat) (s : Sto) : Option Sto := match decide (r < s.n) with
  | true => match s.g r with
    | .dk false kvs => some (s.put r (.dk true kvs))
    | .dt false kvs => some (s.put r (.dt true kvs))
    | _ => none
  | false => none
def openS (r : Nat) (s : Sto) : Option Sto := match s.g r with
  | .dk true kvs => some (s.put r (.dk false kvs))
  | .dt true kvs => some (s.put r (.dt false kvs))
  | _ => none
/-- what stands in a state is looked at alone -/
def refOf : R D → Option Nat
  | .ok (.ref r) _ => some r
  | _ => none
def mLock (me mb : Env → Sto → R D) : Env → Sto → R D := fun ρ s => match refOf (me ρ s) with
  | none => .bad
  | some r => match lockS r s with
    | none => .bad
    | some s0 => (mb ρ s0).noex.bind fun d s1 => match openS r s1 with
      | some s2 => .ok d s2
      | none => .bad
section
variable (Γ : Gam)
mutual
def ev2 : E → M2
  | .var i => dup (mVar i)
  | .cst d => dup fun _ s => .ok d s
  | .glob g => dup fun _ s => .ok (Γ.gl g) s
  | .bin o a b => dup (mBin o (ev2 a).1 (ev2 b).1)
  | .neg a => dup (mNeg (ev2 a).1)
  | .cmp o a b => (mCmp o (ev2 a).1 (ev2 b).1, mCmpT o (ev2 a).1 (ev2 b).1)
  | .chain o o' a b c => (mChain o o' (ev2 a).1 (ev2 b).1 (ev2 c).1, mChainT o o' (ev2 a).1 (ev2 b).1 (ev2 c).1)
  | .and a b => (mAnd (ev2 a).1 (ev2 b).1, mAndT (ev2 a).2 (ev2 b).2)
  | .or a b => (mOr (ev2 a).1 (ev2 b).1, mOrT (ev2 a).2 (ev2 b).2)
  | .not a => (mNot (ev2 a).1, mNotT (ev2 a).2)
  | .ite c a b => (mIte (ev2 c).2 (ev2 a).1 (ev2 b).1, fun _ _ => .bad)
  | .ix a b => dup (mIx (ev2 a).1 (ev2 b).1)
  | .sl a lo hi => dup (mSl (ev2 a).1 (evO lo) (evO hi))
  | .rev a => dup (mRev (ev2 a).1)
  | .tup es => dup fun ρ s => (evs es ρ s).bind tupR
  | .lst es => dup fun ρ s => (evs es ρ s).bind lstR
  | .dnew k => dup fun _ s => .ok (.ref s.n) (s.new (if k then .dk false [] else .dt false []))
  | .disp kvs => dup (mDisp (evD kvs))
  | .fld a f => dup (mFld Γ.ncls (ev2 a).1 f)
  | .call f es => dup fun ρ s => (evs es ρ s).bind (Γ.fn f)
  | .make c es => dup (mMake Γ c (evs es))
  | .meth c f m o es => dup (mMeth Γ c f m (ev2 o).1 (evs es))
  | .bf f es => dup fun ρ s => (evs es ρ s).bind fun xs s => .ofO (fO f xs s)
  | .bm m o es => dup (mBm m (ev2 o).1 (evs es))
  | .isi e T => dup fun ρ s => ((ev2 e).1 ρ s).bind fun x s => .ofO (isiO x T s)
  | .lc own tg it c e => dup (mLc own tg (evI it) (evC c) (ev2 e).1)
  | .fst es => dup fun ρ s => (evJ es Str.empty ρ s).bind fun z s => .ok (.str z) s
  | .fmt e => dup fun ρ s => ((ev2 e).1 ρ s).bind fmtR
  | .kget g e => dup fun ρ s => ((ev2 e).1 ρ s).bind fun x s => strR x fun z => .ok (((Γ.kd g).lookup z).getD .non) s
  | .kin neg g e => dup fun ρ s => ((ev2 e).1 ρ s).bind fun x s => strR x fun z => .ok (.bl (((Γ.kd g).lookup z).isSome != neg)) s
  | .lock e b => dup (mLock (ev2 e).1 (ev2 b).1)
def evs : Es → Env → Sto → R (List D)
  | .nil => fun _ s => .ok [] s
  | .cons e es => fun ρ s => ((ev2 e).1 ρ s).bind fun x s => (evs es ρ s).bind fun xs s => .ok (x :: xs) s
def evD : Es → Env → Sto → R (List (Key × D))
  | .nil => fun _ s => .ok [] s
  | .cons e es => fun ρ s => ((ev2 e).1 ρ s).bind fun x s => keyR x fun k => evD1 es k ρ s
def evD1 : Es → Key → Env → Sto → R (List (Key × D))
  | .nil => fun _ _ _ => .bad
  | .cons e es => fun k ρ s => ((ev2 e).1 ρ s).bind fun y s => (evD es ρ s).bind fun r s => .ok ((k, y) :: r) s
def evJ : Es → Str → Env → Sto → R Str
  | .nil => fun acc _ s => .ok acc s
  | .cons e es => fun acc ρ s => ((ev2 e).1 ρ s).bind fun x s => joinR acc x s fun acc => evJ es acc ρ s
def evO : Op → Env → Sto → R (Option Int)
  | .none => fun _ s => .ok none s
  | .some e => fun ρ s => ((ev2 e).1 ρ s).bind fun x s => (asI x s).bind fun i s => .ok (some i) s
def evC : Op → Env → Sto → R Bool
  | .none => fun _ s => .ok true s
  | .some e => (ev2 e).2
def evI : It → Env → Sto → R Src
  | .seq e => fun ρ s => ((ev2 e).1 ρ s).bind srcR
  | .rng1 a => fun ρ s => ((ev2 a).1 ρ s).bind fun x s => (asI x s).bind rng1R
  | .rng2 a b => fun ρ s => ((ev2 a).1 ρ s).bind fun x s => ((ev2 b).1 ρ s).bind fun y s => (asI x s).bind fun i s => (asI y s).bind fun j s => rng2R i j s
  | .rng3 a b c => fun ρ s => ((ev2 a).1 ρ s).bind fun x s => ((ev2 b).1 ρ s).bind fun y s => ((ev2 c).1 ρ s).bind fun z s => (asI x s).bind fun i s => (asI y s).bind fun j s => (asI z s).bind fun k s => rng3R i j k s
  | .zp a b => fun ρ s => ((ev2 a).1 ρ s).bind fun x s => ((ev2 b).1 ρ s).bind fun y s => zipR x y s
  | .enm a => fun ρ s => ((ev2 a).1 ρ s).bind enmR
  | .keys a => fun ρ s => ((ev2 a).1 ρ s).bind keysR
end
abbrev ev (e : E) : Env → Sto → R D := (ev2 Γ e).1
abbrev evT (e : E) : Env → Sto → R Bool := (ev2 Γ e).2
example (o : BO) (a b : E) : ev Γ (.bin o a b) = mBin o (ev Γ a) (ev Γ b) := rfl
end
end Ab
set_option Elab.async false
set_option linter.all false
set_option maxRecDepth 100000
set_option maxHeartbeats 1000000
/-! Ab6: the checker; expressions mean what they say -/
namespace Ab
open PySem L2

/-- names of the module -/
structure Inf where
  fns : List (Str × Nat)
  cls : List (Str × Nat)
  mth : List ((Nat × Str) × Nat)
  gls : List (Str × Nat)
  fld : List Str
  kds : List (Str × Nat)

/-! ### the checker -/
def visB (sc : Scope) (x : Str) : Bool := match sc.names.lookup x with
  | some .local => true
  | some .cell => true
  | some .free => true
  | _ => false
def glB (sc : Scope) (x : Str) : Bool := match sc.names.lookup x with
  | some .globalImplicit => true
  | _ => false
def stoB (df : Bool) (sc : Scope) (x : Str) : Bool := match sc.names.lookup x with
  | some .local => true
  | some .cell => df
  | _ => false
def chkC : D → Const → Bool
  | .non, .none => true
  | .bl a, .bool b => decide (a = b)
  | .int i, .int j => decide (i = j)
  | .str x, .str y => decide (x = y)
  | _, _ => false
def isNm (x : Str) : Expr → Bool
  | .Name y _ => decide (x = y)
  | _ => false
mutual
def chkT (N : List Str) (sc : Scope) (df : Bool) : Tg → Expr → Bool
  | .nm i, .Name x _ => decide (N[i]? = some x) && stoB df sc x
  | .tp ts, .Tuple es _ _ => chkTs N sc df ts es
  | _, _ => false
def chkTs (N : List Str) (sc : Scope) (df : Bool) : Tgs → List Expr → Bool
  | .nil, [] => true
  | .cons t ts, e :: es => chkT N sc df t e && noStar e && chkTs N sc df ts es
  | _, _ => false
end
def isTup : Expr → Bool
  | .Tuple .. => true
  | _ => false
mutual
def Tg.slots : Tg → List Nat
  | .nm i => [i]
  | .tp ts => ts.slots
def Tgs.slots : Tgs → List Nat
  | .nil => []
  | .cons t ts => t.slots ++ ts.slots
end
section
variable (I : Inf) (N : List Str)
mutual
def chk (sc : Scope) : E → Expr → Bool
  | .var i, .Name x _ => decide (N[i]? = some x) && visB sc x && !(x == ("__debug__" : Str)) && !(x == ("__classdict__" : Str))
  | .cst d, .Constant c _ _ => chkC d c
  | .glob g, .Name x _ => glB sc x && decide (I.gls.lookup x = some g) && !(x == ("__debug__" : Str))
  | .bin o a b, .BinOp x op y _ => decide (op = o.ast) && chk sc a x && chk sc b y
  | .neg a, .UnaryOp op x _ => decide (op = .USub) && chk sc a x
  | .cmp o a b, .Compare x [op] [y] _ => decide (op = o.ast) && noSet y && chk sc a x && chk sc b y
  | .chain o o' a b c, .Compare x [op, op'] [y, z] _ => decide (op = o.ast) && decide (op' = o'.ast) && noSet z && chk sc a x && chk sc b y && chk sc c z
  | .and a b, .BoolOp .And (x :: y :: r) p => chk sc a x && (match r with | [] => chk sc b y | _ => chk sc b (.BoolOp .And (y :: r) p))
  | .or a b, .BoolOp .Or (x :: y :: r) p => chk sc a x && (match r with | [] => chk sc b y | _ => chk sc b (.BoolOp .Or (y :: r) p))
  | .not a, .UnaryOp op x _ => decide (op = .Not) && chk sc a x
  | .ite c a b, .IfExp z x y _ => chk sc c z && chk sc a x && chk sc b y
  | .ix a b, .Subscript x y _ => noSlice y && chk sc a x && chk sc b y
  | .sl a lo hi, .Subscript x (.Slice l h none _) _ => chk sc a x && chkO sc lo l && chkO sc hi h
  | .rev a, .Subscript x (.Slice none none (some (.UnaryOp op (.Constant (.int k) _ _) _)) _) _ => decide (op = .USub) && decide (k = 1) && chk sc a x
  | .tup es, .Tuple xs _ _ => chks sc es xs
  | .lst es, .List xs _ => chks sc es xs
  | .dnew _, .Dict [] [] _ => true
  | .fld a f, .Attribute x g _ => decide (f = g) && decide (f ∈ I.fld) && plainRecv x && chk sc a x
  | .call f es, .Call (.Name x _) xs [] _ => glB sc x && !(x == ("__debug__" : Str)) && decide (I.fns.lookup x = some f) && chks sc es xs
  | .make c es, .Call (.Name x _) xs [] _ => glB sc x && !(x == ("__debug__" : Str)) && decide (I.cls.lookup x = some c) && chks sc es xs
  | .meth c f m o es, .Call (.Attribute y m' ap) xs [] p => decide (m = m') && decide (I.mth.lookup (c, m) = some f) && plainRecv y && decide (xs.length < 30) && (ap.endLine == p.line) && chk sc o y && chks sc es xs
  | .bf f es, .Call (.Name x _) xs [] _ => decide (x = f.name) && glB sc x && chks sc es xs && !xs.isEmpty
  | .bm m o es, .Call (.Attribute y n ap) xs [] p => decide (n = m.name) && plainRecv y && decide (xs.length < 30) && (ap.endLine == p.line) && chk sc o y && chks sc es xs
  | .isi e T, .Call (.Name x _) [y, .Name t _] [] _ => decide (x = ("isinstance" : Str)) && glB sc x && chk sc e y && glB sc t && decide (t = Str.ofString T) && decide (T ∈ ["int", "bool", "str", "tuple", "list"])
  | .disp kvs, .Dict ks vs _ => !ks.isEmpty && decide (ks.length ≤ 15) && chkD sc kvs ks vs
  | .fst es, .JoinedStr xs _ => decide (2 ≤ xs.length) && chkJ sc es xs
  | .fmt e, .FormattedValue x k none _ => decide (k = -1) && chk sc e x
  | .kget g e, .Call (.Attribute (.Name n _) m ap) [y] [] p => decide (m = ("get" : Str)) && glB sc n && !(n == ("__debug__" : Str)) && decide (I.kds.lookup n = some g) && noStar y && (ap.endLine == p.line) && chk sc e y
  | .kin neg g e, .Compare y [op] [.Name n _] _ => decide (op = if neg then CmpOp.NotIn else CmpOp.In) && glB sc n && !(n == ("__debug__" : Str)) && decide (I.kds.lookup n = some g) && chk sc e y
  | .lock e b, x => noStar x && plainTest x && chk sc b x
  | .lc own tg it c e, .ListComp x gs scope _ => (match gs with
      | [⟨t, y, ifs, 0⟩] => chkI sc it t y && noSet y && blkC N sc scope (own.map fun i => (N.getD i Str.empty, i)) && chkT N (relS scope sc) false tg t && tg.slots.all (fun i => decide (i ∈ own)) && chkF (relS scope sc) c ifs && chk (relS scope sc) e x
      | _ => false)
  | _, _ => false
def chks (sc : Scope) : Es → List Expr → Bool
  | .nil, [] => true
  | .cons e es, x :: xs => noStar x && chk sc e x && chks sc es xs
  | _, _ => false
def chkD (sc : Scope) : Es → List (Option Expr) → List Expr → Bool
  | .nil, [], [] => true
  | .cons e es, some x :: ks, vs => chk sc e x && chkD1 sc es ks vs
  | _, _, _ => false
def chkD1 (sc : Scope) : Es → List (Option Expr) → List Expr → Bool
  | .cons e es, ks, y :: vs => chk sc e y && chkD sc es ks vs
  | _, _, _ => false
def chkJ (sc : Scope) : Es → List Expr → Bool
  | .nil, [] => true
  | .cons e es, x :: xs => chk sc e x && chkJ sc es xs
  | _, _ => false
def chkO (sc : Scope) : Op → Option Expr → Bool
  | .none, none => true
  | .some e, some x => chk sc e x
  | _, _ => false
def chkF (sc : Scope) : Op → List Expr → Bool
  | .none, [] => true
  | .some e, [x] => chk sc e x
  | _, _ => false
def chkI (sc : Scope) : It → Expr → Expr → Bool
  | .seq e, _, x => chk sc e x
  | .rng1 a, _, .Call (.Name n _) [x] [] _ => decide (n = ("range" : Str)) && glB sc n && noStar x && chk sc a x
  | .rng2 a b, _, .Call (.Name n _) [x, y] [] _ => decide (n = ("range" : Str)) && glB sc n && noStar x && noStar y && chk sc a x && chk sc b y
  | .rng3 a b c, _, .Call (.Name n _) [x, y, z] [] _ => decide (n = ("range" : Str)) && glB sc n && noStar x && noStar y && noStar z && chk sc a x && chk sc b y && chk sc c z
  | .keys a, _, x => chk sc a x
  | .zp a b, t, .Call (.Name n _) [x, y] [] _ => decide (n = ("zip" : Str)) && glB sc n && isTup t && noStar x && noStar y && chk sc a x && chk sc b y
  | .enm a, t, .Call (.Name n _) [x] [] _ => decide (n = ("enumerate" : Str)) && glB sc n && isTup t && noStar x && chk sc a x
  | _, _, _ => false
end
end
end Ab
set_option Elab.async false
set_option linter.all false
set_option maxRecDepth 100000
set_option maxHeartbeats 1000000
/-! Ab7: the readings of the inner language -/
namespace Ab
open PySem L2

section
variable (S : St0)
def ResA {α : Type} (W : WX) (σ : St) (s₀ : Sto) (φ₀ : Nat → Addr) (H₀ : Hp) (r : R α) (P : α → Sto → (Nat → Addr) → Hp → Prop) : Prop :=
  match r with
  | .ok a s => ∀ φ H, Ext s₀.n φ₀ H₀ s.n φ H → RS S φ H s → P a s φ H
  | .ex c s => ∀ φ H, Ext s₀.n φ₀ H₀ s.n φ H → RS S φ H s → W (.ref (S.cls c)) none σ H
  | .bad => False
end
section
variable {S : St0} {W : WX} {σ : St} {s₀ s₁ : Sto} {φ₀ φ₁ : Nat → Addr} {H₀ H₁ : Hp}
theorem ResA.ext {α : Type} {r : R α} {P : α → Sto → (Nat → Addr) → Hp → Prop} (e : Ext s₀.n φ₀ H₀ s₁.n φ₁ H₁) (h : ResA S W σ s₀ φ₀ H₀ r P) : ResA S W σ s₁ φ₁ H₁ r P := by
  cases r with
  | ok d s => exact fun φ H e' rs => h φ H (e.trans e') rs
  | ex c s => exact fun φ H e' rs => h φ H (e.trans e') rs
  | bad => exact h
theorem ResA.mono {α : Type} {r : R α} {P P' : α → Sto → (Nat → Addr) → Hp → Prop} (h : ResA S W σ s₀ φ₀ H₀ r P) (hp : ∀ a s φ H, P a s φ H → P' a s φ H) : ResA S W σ s₀ φ₀ H₀ r P' := by
  cases r with
  | ok d s => exact fun φ H e' rs => hp _ _ _ _ (h φ H e' rs)
  | ex c s => exact h
  | bad => exact h
theorem Res.bindA {α : Type} {r : R D} {f : D → Sto → R α} {P : α → Sto → (Nat → Addr) → Hp → Prop} (h : ResA S W σ s₀ φ₀ H₀ (r.bind f) P) :
    Res S W σ s₀ φ₀ H₀ r fun v H => ∃ φ d s, Ext s₀.n φ₀ H₀ s.n φ H ∧ RS S φ H s ∧ RV S.K s.n φ H v d ∧ ResA S W σ s φ H (f d s) P := by
  cases r with
  | ok d s => exact fun φ H v e rs rv => ⟨φ, d, s, e, rs, rv, ResA.ext e h⟩
  | ex c s => exact h
  | bad => exact h
theorem ResA.bind {α : Type} {r : R α} {f : α → Sto → R D} {Q : VK} (h : Res S W σ s₀ φ₀ H₀ (r.bind f) Q) :
    ResA S W σ s₀ φ₀ H₀ r fun a s φ H => Ext s₀.n φ₀ H₀ s.n φ H ∧ RS S φ H s ∧ Res S W σ s φ H (f a s) Q := by
  cases r with
  | ok d s => exact fun φ H e rs => ⟨e, rs, Res.ext e h⟩
  | ex c s => exact h
  | bad => exact h
theorem ResL.mono {r : R (List D)} {Q Q' : List V → Hp → Prop} (h : ResL S W σ s₀ φ₀ H₀ r Q) (hq : ∀ v H, Q v H → Q' v H) : ResL S W σ s₀ φ₀ H₀ r Q' := by
  cases r with
  | ok d s => exact fun φ H v e rs rv => hq v H (h φ H v e rs rv)
  | ex c s => exact h
  | bad => exact h
theorem ResB.mono {r : R Bool} {Q Q' : Bool → Hp → Prop} (h : ResB S W σ s₀ φ₀ H₀ r Q) (hq : ∀ v H, Q v H → Q' v H) : ResB S W σ s₀ φ₀ H₀ r Q' := by
  cases r with
  | ok d s => exact fun φ H e rs => hq _ H (h φ H e rs)
  | ex c s => exact h
  | bad => exact h
/-- at the state itself -/
theorem Res.here {d : D} {s : Sto} {φ : Nat → Addr} {H : Hp} {Q : VK} {v : V} (h : Res S W σ s φ H (.ok d s) Q) (rs : RS S φ H s) (rv : RV S.K s.n φ H v d) : Q v H := h φ H v .refl rs rv
theorem ResB.here {b : Bool} {s : Sto} {φ : Nat → Addr} {H : Hp} {Q : Bool → Hp → Prop} (h : ResB S W σ s φ H (.ok b s) Q) (rs : RS S φ H s) : Q b H := h φ H .refl rs

variable {ma mb mc : Env → Sto → R D} {H : Hp} {Q : VK}
theorem imp2 {f : D → D → Sto → O} (h : tE S W (fun ρ s => (ma ρ s).bind fun x s => (mb ρ s).bind fun y s => .ofO (f x y s)) σ H Q) : tOp (rOp S f) (tE S W ma) (tE S W mb) σ H Q := by
  obtain ⟨φ, ρ, s, re, rs, h⟩ := h
  refine ⟨φ, ρ, s, re, rs, (Res.bind h).mono fun v H1 ⟨φ1, d1, s1, e1, rs1, rv1, h1⟩ => ?_⟩
  refine ⟨φ1, ρ, s1, re.ext e1, rs1, (Res.bind h1).mono fun w H2 ⟨φ2, d2, s2, e2, rs2, rv2, h2⟩ => ?_⟩
  exact ⟨φ2, s2, d1, d2, rs2, rv1.ext e2, rv2, ResO.of h2⟩
theorem asB_inv {d : D} {s : Sto} {φ : Nat → Addr} {H : Hp} {v : V} {α : Type} {f : Bool → Sto → R α} (rv : RV S.K s.n φ H v d) : (∃ b, d = .bl b ∧ v = .bl b ∧ (asB d s).bind f = f b s) ∨ (asB d s).bind f = .bad := by
  cases rv <;> first | exact .inl ⟨_, rfl, rfl, rfl⟩ | exact .inr rfl
theorem ResO.asB {r : O} {s : Sto} {φ : Nat → Addr} {H : Hp} {Q : Bool → Hp → Prop} (h : ResB S W σ s φ H ((R.ofO r).bind Ab.asB) Q) : ResO S s φ H r fun x H' => ∃ k, x = .bl k ∧ Q k H' := by
  cases r with
  | none => exact h
  | some p =>
    obtain ⟨d, s'⟩ := p
    intro φ' H' v e rs rv
    cases rv with
    | bl b => exact ⟨b, rfl, h φ' H' e rs⟩
    | _ => exact h.elim
theorem imp2T {f : D → D → Sto → O} {Q : Bool → Hp → Prop} (h : tT S W (fun ρ s => (ma ρ s).bind fun x s => (mb ρ s).bind fun y s => (R.ofO (f x y s)).bind asB) σ H Q) : tTest (tOp (rOp S f) (tE S W ma) (tE S W mb)) σ H Q := by
  obtain ⟨φ, ρ, s, re, rs, h⟩ := h
  refine ⟨φ, ρ, s, re, rs, (Res.bindB h).mono fun v H1 ⟨φ1, d1, s1, e1, rs1, rv1, h1⟩ => ?_⟩
  refine ⟨φ1, ρ, s1, re.ext e1, rs1, (Res.bindB h1).mono fun w H2 ⟨φ2, d2, s2, e2, rs2, rv2, h2⟩ => ?_⟩
  exact ⟨φ2, s2, d1, d2, rs2, rv1.ext e2, rv2, ResO.asB h2⟩
theorem imp1 {f : D → Sto → O} (h : tE S W (fun ρ s => (ma ρ s).bind fun x s => .ofO (f x s)) σ H Q) : tUn (rUn S f) (tE S W ma) σ H Q := by
  obtain ⟨φ, ρ, s, re, rs, h⟩ := h
  refine ⟨φ, ρ, s, re, rs, (Res.bind h).mono fun v H1 ⟨φ1, d1, s1, e1, rs1, rv1, h1⟩ => ?_⟩
  exact ⟨φ1, s1, d1, rs1, rv1, ResO.of h1⟩
theorem ResO.ext {r : O} {Q : VK} (e : Ext s₀.n φ₀ H₀ s₁.n φ₁ H₁) (h : ResO S s₀ φ₀ H₀ r Q) : ResO S s₁ φ₁ H₁ r Q := by
  cases r with
  | none => exact h
  | some p => exact fun φ H v e' rs rv => h φ H v (e.trans e') rs rv
theorem imp_chain {f g : D → D → Sto → O} (h : tE S W (fun ρ s => (ma ρ s).bind fun x s => (mb ρ s).bind fun y s => (R.ofO (f x y s)).bind fun z s => (asB z s).bind fun k s => match k with
    | true => (mc ρ s).bind fun w s => .ofO (g y w s)
    | false => .ok (.bl false) s) σ H Q) : tChain (rOp S f) (rOp S g) (tE S W ma) (tE S W mb) (tE S W mc) σ H Q := by
  obtain ⟨φ, ρ, s, re, rs, h⟩ := h
  refine ⟨φ, ρ, s, re, rs, (Res.bind h).mono fun v H1 ⟨φ1, d1, s1, e1, rs1, rv1, h1⟩ => ?_⟩
  refine ⟨φ1, ρ, s1, re.ext e1, rs1, (Res.bind h1).mono fun w H2 ⟨φ2, d2, s2, e2, rs2, rv2, h2⟩ => ?_⟩
  refine ⟨φ2, s2, d1, d2, rs2, rv1.ext e2, rv2, ?_⟩
  cases hf : f d1 d2 s2 with
  | none => rw [hf] at h2; exact h2
  | some p =>
    obtain ⟨z, s3⟩ := p
    rw [hf] at h2
    intro φ3 H3 zv e3 rs3 rz
    have h3 : Res S W σ s2 φ2 H2 ((asB z s3).bind fun k s => match k with
      | true => (mc ρ s).bind fun w s => .ofO (g d2 w s)
      | false => .ok (.bl false) s) Q := h2
    have h3 := Res.ext e3 h3
    rcases asB_inv rz with ⟨b, rfl, rfl, eb⟩ | eb
    · rw [eb] at h3
      refine ⟨b, rfl, ?_⟩
      cases b with
      | true =>
        refine iteT ⟨φ3, ρ, s3, (re.ext e1).ext (e2.trans e3), rs3, (Res.bind h3).mono fun w' H4 ⟨φ4, d4, s4, e4, rs4, rv4, h4⟩ => ?_⟩
        exact ⟨φ4, s4, d2, d4, rs4, rv2.ext (e3.trans e4), rv4, ResO.of h4⟩
      | false => exact iteF (Res.here h3 rs3 (.bl _))
    · rw [eb] at h3
      exact h3.elim
theorem imp_chainT {f g : D → D → Sto → O} {Q : Bool → Hp → Prop} (h : tT S W (fun ρ s => (ma ρ s).bind fun x s => (mb ρ s).bind fun y s => (R.ofO (f x y s)).bind fun z s => (asB z s).bind fun k s => match k with
    | true => (mc ρ s).bind fun w s => (R.ofO (g y w s)).bind asB
    | false => .ok false s) σ H Q) : tTest (tChain (rOp S f) (rOp S g) (tE S W ma) (tE S W mb) (tE S W mc)) σ H Q := by
  obtain ⟨φ, ρ, s, re, rs, h⟩ := h
  refine ⟨φ, ρ, s, re, rs, (Res.bindB h).mono fun v H1 ⟨φ1, d1, s1, e1, rs1, rv1, h1⟩ => ?_⟩
  refine ⟨φ1, ρ, s1, re.ext e1, rs1, (Res.bindB h1).mono fun w H2 ⟨φ2, d2, s2, e2, rs2, rv2, h2⟩ => ?_⟩
  refine ⟨φ2, s2, d1, d2, rs2, rv1.ext e2, rv2, ?_⟩
  cases hf : f d1 d2 s2 with
  | none => rw [hf] at h2; exact h2
  | some p =>
    obtain ⟨z, s3⟩ := p
    rw [hf] at h2
    intro φ3 H3 zv e3 rs3 rz
    have h3 : ResB S W σ s2 φ2 H2 ((asB z s3).bind fun k s => match k with
      | true => (mc ρ s).bind fun w s => (R.ofO (g d2 w s)).bind asB
      | false => .ok false s) Q := h2
    have h3 := ResB.ext e3 h3
    rcases asB_inv rz with ⟨b, rfl, rfl, eb⟩ | eb
    · rw [eb] at h3
      refine ⟨b, rfl, ?_⟩
      cases b with
      | true =>
        refine iteT ⟨φ3, ρ, s3, (re.ext e1).ext (e2.trans e3), rs3, (Res.bindB h3).mono fun w' H4 ⟨φ4, d4, s4, e4, rs4, rv4, h4⟩ => ?_⟩
        exact ⟨φ4, s4, d2, d4, rs4, rv2.ext (e3.trans e4), rv4, ResO.asB h4⟩
      | false => exact iteF ⟨false, rfl, ResB.here h3 rs3⟩
    · rw [eb] at h3
      exact h3.elim
theorem imp_and (h : tE S W (mAnd ma mb) σ H Q) : tAndV (tE S W ma) (tE S W mb) σ H Q := by
  obtain ⟨φ, ρ, s, re, rs, h⟩ := h
  refine ⟨φ, ρ, s, re, rs, (Res.bind h).mono fun v H1 ⟨φ1, d1, s1, e1, rs1, rv1, h1⟩ => ?_⟩
  rcases asB_inv rv1 with ⟨b, rfl, rfl, eb⟩ | eb
  · rw [eb] at h1
    refine ⟨b, rfl, ?_⟩
    cases b with
    | true => exact iteT ⟨φ1, ρ, s1, re.ext e1, rs1, h1⟩
    | false => exact iteF (Res.here h1 rs1 (.bl _))
  · rw [eb] at h1
    exact h1.elim
theorem imp_or (h : tE S W (mOr ma mb) σ H Q) : tOrV (tE S W ma) (tE S W mb) σ H Q := by
  obtain ⟨φ, ρ, s, re, rs, h⟩ := h
  refine ⟨φ, ρ, s, re, rs, (Res.bind h).mono fun v H1 ⟨φ1, d1, s1, e1, rs1, rv1, h1⟩ => ?_⟩
  rcases asB_inv rv1 with ⟨b, rfl, rfl, eb⟩ | eb
  · rw [eb] at h1
    refine ⟨b, rfl, ?_⟩
    cases b with
    | true => exact iteT (Res.here h1 rs1 (.bl _))
    | false => exact iteF ⟨φ1, ρ, s1, re.ext e1, rs1, h1⟩
  · rw [eb] at h1
    exact h1.elim
theorem imp_not (h : tE S W (mNot ma) σ H Q) : tNotV (tE S W ma) σ H Q := by
  obtain ⟨φ, ρ, s, re, rs, h⟩ := h
  refine ⟨φ, ρ, s, re, rs, (Res.bind h).mono fun v H1 ⟨φ1, d1, s1, e1, rs1, rv1, h1⟩ => ?_⟩
  rcases asB_inv rv1 with ⟨b, rfl, rfl, eb⟩ | eb
  · rw [eb] at h1
    exact ⟨b, rfl, Res.here h1 rs1 (.bl _)⟩
  · rw [eb] at h1
    exact h1.elim
variable {ta tb : Env → Sto → R Bool}
theorem imp_andT {Q : Bool → Hp → Prop} (h : tT S W (mAndT ta tb) σ H Q) : tAnd (tT S W ta) (tT S W tb) σ H Q := by
  obtain ⟨φ, ρ, s, re, rs, h⟩ := h
  refine ⟨φ, ρ, s, re, rs, (ResB.bindB h).mono fun c H1 ⟨φ1, s1, e1, rs1, h1⟩ => ?_⟩
  cases c with
  | true => exact iteT ⟨φ1, ρ, s1, re.ext e1, rs1, h1⟩
  | false => exact iteF (ResB.here h1 rs1)
theorem imp_orT {Q : Bool → Hp → Prop} (h : tT S W (mOrT ta tb) σ H Q) : tOr (tT S W ta) (tT S W tb) σ H Q := by
  obtain ⟨φ, ρ, s, re, rs, h⟩ := h
  refine ⟨φ, ρ, s, re, rs, (ResB.bindB h).mono fun c H1 ⟨φ1, s1, e1, rs1, h1⟩ => ?_⟩
  cases c with
  | true => exact iteT (ResB.here h1 rs1)
  | false => exact iteF ⟨φ1, ρ, s1, re.ext e1, rs1, h1⟩
theorem imp_notT {Q : Bool → Hp → Prop} (h : tT S W (mNotT ta) σ H Q) : tNot (tT S W ta) σ H Q := by
  obtain ⟨φ, ρ, s, re, rs, h⟩ := h
  exact ⟨φ, ρ, s, re, rs, (ResB.bindB h).mono fun c H1 ⟨φ1, s1, e1, rs1, h1⟩ => ResB.here h1 rs1⟩
theorem imp_ite (h : tE S W (mIte ta ma mb) σ H Q) : tIf (tT S W ta) (tE S W ma) (tE S W mb) σ H Q := by
  obtain ⟨φ, ρ, s, re, rs, h⟩ := h
  refine ⟨φ, ρ, s, re, rs, (ResB.bind h).mono fun c H1 ⟨φ1, s1, e1, rs1, h1⟩ => ?_⟩
  cases c with
  | true => exact iteT ⟨φ1, ρ, s1, re.ext e1, rs1, h1⟩
  | false => exact iteF ⟨φ1, ρ, s1, re.ext e1, rs1, h1⟩
theorem imp_tru {Q : Bool → Hp → Prop} (h : tT S W (fun ρ s => (ma ρ s).bind truR) σ H Q) : (fun (σ : St) (H : Hp) (Q : Bool → Hp → Prop) => tE S W ma σ H fun x H' => ∃ k, TruV S.K x H' k ∧ Q k H') σ H Q := by
  obtain ⟨φ, ρ, s, re, rs, h⟩ := h
  refine ⟨φ, ρ, s, re, rs, (Res.bindB h).mono fun v H1 ⟨φ1, d1, s1, e1, rs1, rv1, h1⟩ => ?_⟩
  unfold truR at h1
  cases et : truO d1 s1 with
  | none => rw [et] at h1; exact h1.elim
  | some b => rw [et] at h1; exact ⟨b, tru_at rs1 rv1 et, ResB.here h1 rs1⟩
/-- part of a slice -/
def tOI (S : St0) (W : WX) (m : Env → Sto → R (Option Int)) : TO := fun σ H Q => ∃ φ ρ s, RE S s.n φ H ρ σ ∧ RS S φ H s ∧ ResA S W σ s φ H (m ρ s) fun i _ _ H => Q i H
theorem imp_part {Q : Option Int → Hp → Prop} (h : tOI S W (fun ρ s => (ma ρ s).bind fun x s => (asI x s).bind fun i s => .ok (some i) s) σ H Q) : tPart (tE S W ma) σ H Q := by
  obtain ⟨φ, ρ, s, re, rs, h⟩ := h
  refine ⟨φ, ρ, s, re, rs, (Res.bindA h).mono fun v H1 ⟨φ1, d1, s1, e1, rs1, rv1, h1⟩ => ?_⟩
  cases rv1 with
  | int i => exact ⟨i, rfl, h1 φ1 H1 .refl rs1⟩
  | _ => exact h1.elim
theorem imp_sl {lo hi : Env → Sto → R (Option Int)} (h : tE S W (mSl ma lo hi) σ H Q) : tSl (rSlG S) (tE S W ma) (tOI S W lo) (tOI S W hi) σ H Q := by
  obtain ⟨φ, ρ, s, re, rs, h⟩ := h
  refine ⟨φ, ρ, s, re, rs, (Res.bind h).mono fun v H1 ⟨φ1, d1, s1, e1, rs1, rv1, h1⟩ => ?_⟩
  refine ⟨φ1, ρ, s1, re.ext e1, rs1, (ResA.bind h1).mono fun l s2 φ2 H2 ⟨e2, rs2, h2⟩ => ?_⟩
  refine ⟨φ2, ρ, s2, (re.ext e1).ext e2, rs2, (ResA.bind h2).mono fun u s3 φ3 H3 ⟨e3, rs3, h3⟩ => ?_⟩
  exact ⟨φ3, s3, d1, rs3, rv1.ext (e2.trans e3), ResO.of h3⟩
theorem imp_rev (h : tE S W (mRev ma) σ H Q) : tRevL S.K (tE S W ma) σ H Q := by
  obtain ⟨φ, ρ, s, re, rs, h⟩ := h
  refine ⟨φ, ρ, s, re, rs, (Res.bind h).mono fun v H1 ⟨φ1, d1, s1, e1, rs1, rv1, h1⟩ => ?_⟩
  cases rv1 with
  | @ref r hr =>
    have h1 := ResO.of h1
    simp only [revO] at h1
    cases er : rdOf s1 r with
    | none => rw [er] at h1; exact h1.elim
    | some xs =>
      rw [er] at h1
      obtain ⟨vs, hq, rvs⟩ := rd_at rs1 hr er
      exact ⟨_, vs, rfl, hq, new_lst rs1 rvs.reverse h1⟩
  | _ => exact h1.elim
variable {ml : Env → Sto → R (List D)}
theorem imp_tup (h : tE S W (fun ρ s => (ml ρ s).bind tupR) σ H Q) : tTup (tL S W ml) σ H Q := by
  obtain ⟨φ, ρ, s, re, rs, h⟩ := h
  refine ⟨φ, ρ, s, re, rs, (ResL.bind h).mono fun vs H1 ⟨φ1, ds, s1, e1, rs1, rv1, h1⟩ => ?_⟩
  unfold tupR at h1
  split at h1
  · rename_i hz
    exact ⟨by rw [rv1.length]; exact hz, new_tup rs1 rv1 (ResO.of (W := W) (σ := σ) h1)⟩
  · exact h1.elim
theorem imp_lst (h : tE S W (fun ρ s => (ml ρ s).bind lstR) σ H Q) : tLst (tL S W ml) σ H Q := by
  obtain ⟨φ, ρ, s, re, rs, h⟩ := h
  refine ⟨φ, ρ, s, re, rs, (ResL.bind h).mono fun vs H1 ⟨φ1, ds, s1, e1, rs1, rv1, h1⟩ => ?_⟩
  unfold lstR at h1
  split at h1
  · rename_i hz
    exact ⟨by rw [rv1.length]; exact hz, new_lst rs1 rv1 (ResO.of (W := W) (σ := σ) (r := some (.ref s1.n, s1.new (.lst ds))) h1)⟩
  · exact h1.elim
theorem new_dt {vs : List (List Key × V)} {ds : List (List Key × D)} {φ : Nat → Addr} {s : Sto} (R : RS S φ H s) (rv : RKs S.K s.n φ H vs ds) (h : ResO S s φ H (some (.ref s.n, s.new (.dt false ds))) Q) : ∀ p, H p = none → Q (.ref p) (upd H p (.dT vs)) := fun p hp => by
  have e : Ext s.n φ H (s.n + 1) (fun q => if q = s.n then p else φ q) (upd H p (.dT vs)) := ext_alloc hp
  have q := h _ _ (.ref p) e (R.alloc hp ⟨vs, upd_same, rv.ext e⟩)
  refine q ?_
  have := RV.ref (K := S.K) (n := s.n + 1) (φ := fun q => if q = s.n then p else φ q) (H := upd H p (.dT vs)) (r := s.n) (Nat.lt_succ_self _)
  simp only [if_true] at this
  exact this
theorem imp_dnewK (h : tE S W (fun _ s => .ok (.ref s.n) (s.new (.dk false []))) σ H Q) : tDNewK σ H Q := by
  obtain ⟨φ, ρ, s, re, rs, h⟩ := h
  exact new_dk rs .nil h
theorem imp_dnewT (h : tE S W (fun _ s => .ok (.ref s.n) (s.new (.dt false []))) σ H Q) : tDNewT σ H Q := by
  obtain ⟨φ, ρ, s, re, rs, h⟩ := h
  exact new_dt rs .nil h
theorem RKs.look {κ : Type} [BEq κ] {K : PySem.W.Frag} {n : Nat} {φ : Nat → Addr} {H : Hp} (k : κ) : ∀ {vs : List (κ × V)} {ds : List (κ × D)}, RKs K n φ H vs ds → (vs.lookup k = none ∧ ds.lookup k = none) ∨ ∃ v d, vs.lookup k = some v ∧ ds.lookup k = some d ∧ RV K n φ H v d
  | _, _, .nil => .inl ⟨rfl, rfl⟩
  | _, _, .cons (k := k') (v := v) (d := d) a b => by
    rw [List.lookup_cons, List.lookup_cons]
    cases hb : k == k' with
    | true => exact .inr ⟨v, d, rfl, rfl, a⟩
    | false => exact RKs.look k b
theorem imp_fld {nc : Nat} {f : Str} (hc : ∀ c, c < nc → Cls S.K (S.cls c) ∧ NoAttr S.K (S.cls c) f) (h : tE S W (mFld nc ma f) σ H Q) : tFld S.K (tE S W ma) f σ H Q := by
  obtain ⟨φ, ρ, s, re, rs, h⟩ := h
  refine ⟨φ, ρ, s, re, rs, (Res.bind h).mono fun v H1 ⟨φ1, d1, s1, e1, rs1, rv1, h1⟩ => ?_⟩
  have h1 := ResO.of h1
  cases rv1 with
  | @ref r hr =>
    have g := rs1.ob r hr
    simp only [fldO] at h1
    cases eg : s1.g r with
    | ins c fs =>
      rw [eg] at g h1
      obtain ⟨dx, vs, k1, k2⟩ := g
      simp only at h1
      split at h1
      · rename_i hcl
        obtain ⟨c1, c2⟩ := hc c hcl
        rcases k2.look f with ⟨a, b⟩ | ⟨x, d, a, b, rv⟩
        · rw [b] at h1; exact h1.elim
        · rw [b] at h1
          exact ⟨_, S.cls c, dx, vs, x, rfl, k1, c1, c2, a, h1 φ1 H1 _ .refl rs1 rv⟩
      · exact h1.elim
    | _ => rw [eg] at h1; exact h1.elim
  | _ => exact h1.elim

/-! ### calls -/
/-- a def's promise, from its meaning -/
def spOf (S : St0) (n : Nat) (F : List D → Sto → R D) : Sp := fun vs H Q E => ∃ φ s ds, RS S φ H s ∧ RVs S.K s.n φ H vs ds ∧ ds.length = n ∧ Res S (fun c d _ H => E c d H) [] s φ H (F ds s) Q
theorem spOf_len {n : Nat} {F : List D → Sto → R D} {vs : List V} {H : Hp} {Q : VK} {E : XK} (h : spOf S n F vs H Q E) : vs.length = n := by
  obtain ⟨φ, s, ds, _, rv, e, _⟩ := h
  rw [rv.length, e]
/-- the meaning of a call with the wrong number of arguments is bad -/
def Guard (Γ : Gam) : Prop := ∀ f ds s, ds.length ≠ Γ.ar f → Γ.fn f ds s = .bad
theorem Guard.ar {Γ : Gam} (G : Guard Γ) {f : Nat} {ds : List D} {s s' : Sto} {φ : Nat → Addr} {H : Hp} (h : Res S W σ s' φ H (Γ.fn f ds s) Q) : ds.length = Γ.ar f := by
  by_cases e : ds.length = Γ.ar f
  · exact e
  · rw [G f ds s e] at h
    exact h.elim
theorem Res.slots {r : R D} {s : Sto} {φ : Nat → Addr} (h : Res S W σ s φ H r Q) : Res S (fun c d _ H => WE W σ c d H) [] s φ H r Q := by
  cases r with
  | ok d s => exact h
  | ex c s => exact h
  | bad => exact h
theorem Guard.bind {Γ : Gam} (G : Guard Γ) {f : Nat} {ds : List D} {g : D → Sto → R D} {s s' : Sto} {φ : Nat → Addr} {H : Hp} (h : Res S W σ s' φ H ((Γ.fn f ds s).bind g) Q) : ds.length = Γ.ar f := by
  by_cases e : ds.length = Γ.ar f
  · exact e
  · rw [G f ds s e] at h
    exact h.elim
theorem imp_call {Γ : Gam} (G : Guard Γ) {f : Nat} (h : tE S W (fun ρ s => (ml ρ s).bind (Γ.fn f)) σ H Q) : tCallS (spOf S (Γ.ar f) (Γ.fn f)) (WE W) (tL S W ml) σ H Q := by
  obtain ⟨φ, ρ, s, re, rs, h⟩ := h
  refine ⟨φ, ρ, s, re, rs, (ResL.bind h).mono fun vs H1 ⟨φ1, ds, s1, e1, rs1, rv1, h1⟩ => ?_⟩
  exact ⟨φ1, s1, ds, rs1, rv1, G.ar h1, h1.slots⟩
theorem imp_meth {Γ : Gam} (G : Guard Γ) {c f : Nat} {m : Str} (h : tE S W (mMeth Γ c f m ma ml) σ H Q) : tMethS (S.cls c) m (spOf S (Γ.ar f) (Γ.fn f)) (WE W) (tE S W ma) (tL S W ml) σ H Q := by
  obtain ⟨φ, ρ, s, re, rs, h⟩ := h
  refine ⟨φ, ρ, s, re, rs, (Res.bind h).mono fun v H1 ⟨φ1, d1, s1, e1, rs1, rv1, h1⟩ => ?_⟩
  split at h1
  · rename_i hi
    cases rv1 with
    | @ref r hr =>
      have g := rs1.ob r hr
      simp only [isIns] at hi
      cases eg : s1.g r with
      | ins c' fs =>
        rw [eg] at g hi
        obtain ⟨dx, vs, k1, k2⟩ := g
        simp only [Bool.and_eq_true, decide_eq_true_eq] at hi
        obtain ⟨rfl, hi⟩ := hi
        have hl : vs.lookup m = none := by
          rcases k2.look m with ⟨a, b⟩ | ⟨x, d, a, b, rv⟩
          · exact a
          · rw [b] at hi; cases hi
        refine ⟨_, dx, vs, rfl, k1, hl, ⟨φ1, ρ, s1, re.ext e1, rs1, (ResL.bind h1).mono fun ws H2 ⟨φ2, ds, s2, e2, rs2, rv2, h2⟩ => ?_⟩⟩
        exact ⟨φ2, s2, _ :: ds, rs2, .cons ((RV.ref hr).ext e2) rv2, G.ar h2, h2.slots⟩
      | _ => rw [eg] at hi; cases hi
    | _ => cases hi
  · exact h1.elim
theorem imp_make {Γ : Gam} (G : Guard Γ) {c : Nat} (h : tE S W (mMake Γ c ml) σ H Q) : tMakeS (S.cls c) (spOf S (Γ.ar (Γ.init c)) (Γ.fn (Γ.init c))) (WE W) (tL S W ml) σ H Q := by
  obtain ⟨φ, ρ, s, re, rs, h⟩ := h
  refine ⟨φ, ρ, s, re, rs, (ResL.bind h).mono fun vs H1 ⟨φ1, ds, s1, e1, rs1, rv1, h1⟩ => ?_⟩
  intro x dx nx ndx nex
  have hx : (upd H1 dx (.own x)) x = none := by rw [upd_ne (Ne.symm nex)]; exact nx
  have rs2 : RS S φ1 (upd H1 dx (.own x)) s1 := rs1.side ndx
  have ex1 : Ext s1.n φ1 H1 s1.n φ1 (upd H1 dx (.own x)) := ext_new ndx
  have ex2 : Ext s1.n φ1 (upd H1 dx (.own x)) (s1.n + 1) (fun q => if q = s1.n then x else φ1 q) (upd (upd H1 dx (.own x)) x (.ins (S.cls c) dx [])) := ext_alloc hx
  have rs3 : RS S (fun q => if q = s1.n then x else φ1 q) (upd (upd H1 dx (.own x)) x (.ins (S.cls c) dx [])) (s1.new (.ins c [])) := rs2.alloc hx ⟨dx, [], upd_same, .nil⟩
  have rx : RV S.K (s1.n + 1) (fun q => if q = s1.n then x else φ1 q) (upd (upd H1 dx (.own x)) x (.ins (S.cls c) dx [])) (.ref x) (.ref s1.n) := by
    have := RV.ref (K := S.K) (n := s1.n + 1) (φ := fun q => if q = s1.n then x else φ1 q) (H := upd (upd H1 dx (.own x)) x (.ins (S.cls c) dx [])) (r := s1.n) (Nat.lt_succ_self _)
    simp only [if_true] at this
    exact this
  refine ⟨_, s1.new (.ins c []), .ref s1.n :: ds, rs3, .cons rx (rv1.ext (ex1.trans ex2)), G.bind h1, ?_⟩
  have h2 := Res.ext (s₁ := s1.new (.ins c [])) (ex1.trans ex2) h1
  have h3 := (Res.bind h2).mono (Q' := fun v H2 => v = .non ∧ Q (.ref x) H2) fun v H2 ⟨φ2, d2, s2, e2, rs2', rv2, h3⟩ => by
    cases rv2 with
    | non => exact ⟨rfl, Res.here (d := .ref s1.n) h3 rs2' (rx.ext e2)⟩
    | _ => exact h3.elim
  exact h3.slots
theorem imp_fn {f : BF} (h : tE S W (fun ρ s => (ml ρ s).bind fun xs s => .ofO (fO f xs s)) σ H Q) : tCB (rFn S f) (tL S W ml) σ H Q := by
  obtain ⟨φ, ρ, s, re, rs, h⟩ := h
  refine ⟨φ, ρ, s, re, rs, (ResL.bind h).mono fun vs H1 ⟨φ1, ds, s1, e1, rs1, rv1, h1⟩ => ?_⟩
  exact ⟨φ1, s1, ds, rs1, rv1, ResO.of h1⟩
theorem imp_bm {m : BM} (h : tE S W (mBm m ma ml) σ H Q) : tBM S.K m.ty (rMt S m) (tE S W ma) (tL S W ml) σ H Q := by
  obtain ⟨φ, ρ, s, re, rs, h⟩ := h
  refine ⟨φ, ρ, s, re, rs, (Res.bind h).mono fun v H1 ⟨φ1, d1, s1, e1, rs1, rv1, h1⟩ => ?_⟩
  split at h1
  · rename_i ht
    refine ⟨ty_at rs1 rv1 ht, φ1, ρ, s1, re.ext e1, rs1, (ResL.bind h1).mono fun ws H2 ⟨φ2, ds, s2, e2, rs2, rv2, h2⟩ => ?_⟩
    exact ⟨φ2, s2, d1, ds, rs2, rv1.ext e2, rv2, ResO.of h2⟩
  · exact h1.elim
end
end Ab
set_option Elab.async false
set_option linter.all false
set_option maxRecDepth 100000
set_option maxHeartbeats 1000000
/-! Ab8: isinstance, what is walked, comprehensions -/
namespace Ab
open PySem L2

section
variable {S : St0} {W : WX} {σ : St} {H : Hp} {Q : VK} {ma mb : Env → Sto → R D}
/-! ### isinstance of a built-in type -/
theorem ty_rv {φ : Nat → Addr} {s : Sto} {v : V} {d : D} {t : String} (R : RS S φ H s) (r : RV S.K s.n φ H v d) (h : tyName d s = some t) : TyX S.K H v (.type t) := by
  cases r with
  | non => cases h; exact .base .non
  | bl b => cases h; exact .base (.bl b)
  | int i => cases h; exact .base (.int i)
  | str x => cases h; exact .base (.str x)
  | tup t rs => cases h; exact .base (.tup t)
  | kt t rs =>
    cases h
    rcases t with (t | ⟨o, t⟩) | ⟨o, its, n, hk, hc, _⟩
    · cases t
    · cases t
    · exact .kTuple hk hc
  | @ref r hr =>
    have g := R.ob r hr
    simp only [tyName] at h
    cases eg : s.g r with
    | lst xs => rw [eg] at g h; cases h; obtain ⟨vs, h1, _⟩ := g; exact .base (.lst h1)
    | fro xs =>
      rw [eg] at g h; cases h
      obtain ⟨vs, h1, _⟩ := g
      rcases h1 with ⟨o, h1⟩ | (h1 | ⟨o, h1⟩) | ⟨o, its, n, hk, hc, _⟩
      · exact .base (.frz h1)
      · cases h1
      · cases h1
      · exact .kList hk hc
    | dk lk xs =>
      rw [eg] at g h
      cases lk with
      | true => cases h
      | false => cases h; obtain ⟨vs, h1, _⟩ := g; exact .base (.dK h1)
    | dt lk xs =>
      rw [eg] at g h
      cases lk with
      | true => cases h
      | false => cases h; obtain ⟨vs, h1, _⟩ := g; exact .base (.dT h1)
    | _ => rw [eg] at h; cases h
def kitTab (t T : String) (b : Bool) : Prop := ∀ K : PySem.W.Frag, PySem.W.kitOne K (.type t) (.type T) = some b
theorem isi_tab {t T : String} {b : Bool} (h : isiB t T = some b) : kitTab t T b := by
  unfold isiB at h
  split at h <;> first
    | (cases h; done)
    | (cases h; exact fun K => kit_ty (by decide +kernel))
theorem imp_isi {T : String} (h : tE S W (fun ρ s => (ma ρ s).bind fun x s => .ofO (isiO x T s)) σ H Q) : tCB (rIsi S.K) (tCons (tE S W ma) (tCons (tC (.ty T)) tNil)) σ H Q := by
  obtain ⟨φ, ρ, s, re, rs, h⟩ := h
  refine ⟨φ, ρ, s, re, rs, (Res.bind h).mono fun v H1 ⟨φ1, d1, s1, e1, rs1, rv1, h1⟩ => ?_⟩
  have h1 := ResO.of h1
  unfold isiO at h1
  cases et : tyName d1 s1 with
  | none => rw [et] at h1; exact h1.elim
  | some t =>
    rw [et] at h1
    simp only [Option.bind_some] at h1
    cases ei : isiB t T with
    | none => rw [ei] at h1; exact h1.elim
    | some b =>
      rw [ei] at h1
      exact ⟨v, .ty T, .type t, .type T, b, rfl, .ty T, ty_rv rs1 rv1 et, isi_tab ei S.K, h1 φ1 H1 _ .refl rs1 (.bl b)⟩
end

/-! ### what is walked -/
section
variable (S : St0)
/-- the hand layer's walked thing J gives what src says, from the state (n, φ, H) on -/
def SrcJ (n : Nat) (φ : Nat → Addr) (H : Hp) (src : Src) (J : L2.It) : Prop :=
  ∀ (s' : Sto) (φ' : Nat → Addr) (H' : Hp), Ext n φ H s'.n φ' H' → RS S φ' H' s' → ∀ i, match sItem src i s' with
    | none => True
    | some none => J.stop i H'
    | some (some d) => J.go i H' ∧ ∀ x H'', J.yld i H' x H'' → Ext s'.n φ' H' s'.n φ' H'' ∧ RS S φ' H'' s' ∧ RV S.K s'.n φ' H'' x d
def tI (W : WX) (m : Env → Sto → R Src) : TI := fun σ H R => ∃ φ ρ s, RE S s.n φ H ρ σ ∧ RS S φ H s ∧ ResA S W σ s φ H (m ρ s) fun src s' φ' H' => ∀ J, SrcJ S s'.n φ' H' src J → R J H'
end
section
variable {S : St0} {W : WX} {σ : St} {H : Hp} {R : L2.It → Hp → Prop} {ma mb : Env → Sto → Ab.R D}
theorem src_rng {n : Nat} {φ : Nat → Addr} {lo : Int} {m : Nat} : SrcJ S n φ H (.rng lo m) (Itr lo m) := by
  intro s' φ' H' e rs i
  simp only [sItem]
  by_cases h : i < m
  · rw [if_pos h]
    refine ⟨h, fun x H'' y => ?_⟩
    obtain ⟨rfl, rfl⟩ := y
    exact ⟨.refl, rs, .int _⟩
  · rw [if_neg h]
    exact Nat.le_of_not_lt h
theorem src_txt {n : Nat} {φ : Nat → Addr} {z : Str} : SrcJ S n φ H (.txt z) (Its z) := by
  intro s' φ' H' e rs i
  simp only [sItem]
  cases hc : z.cps[i]? with
  | none => exact Array.getElem?_eq_none_iff.mp hc
  | some c =>
    refine ⟨(Array.getElem?_eq_some_iff.mp hc).1, fun x H'' y => ?_⟩
    obtain ⟨rfl, c', hc', rfl⟩ := y
    rw [hc] at hc'
    cases hc'
    exact ⟨.refl, rs, .str _⟩
theorem src_fix {n : Nat} {φ : Nat → Addr} {H : Hp} {a : Addr} {vs : List V} {ds : List D} (ht : H a = some (.tup vs) ∨ KTup S.K a vs) (rv : RVs S.K n φ H vs ds) : SrcJ S n φ H (.fix ds) (Itt S.K a) := by
  intro s' φ' H' e rs i
  have hq : SqT S.K H' a vs := by
    rcases ht with ht | ht
    · exact .of (e.tup _ _ ht)
    · exact ht.sqt
  simp only [sItem]
  cases hd : ds[i]? with
  | none => exact ⟨vs, hq, by rw [rv.length]; exact List.getElem?_eq_none_iff.mp hd⟩
  | some d =>
    obtain ⟨v, h1, h2⟩ := rv.get hd
    refine ⟨⟨vs, v, hq, h1⟩, fun x H'' y => ?_⟩
    obtain ⟨rfl, y⟩ := y
    have := y vs hq
    rw [h1] at this
    cases this
    exact ⟨.refl, rs, h2.ext e⟩
theorem src_dyn {n : Nat} {φ : Nat → Addr} {H : Hp} {r : Nat} (hr : r < n) : SrcJ S n φ H (.dyn r) (Itl S.K (φ r)) := by
  intro s' φ' H' e rs i
  have hr' : r < s'.n := Nat.lt_of_lt_of_le hr e.le
  simp only [sItem]
  cases er : rdOf s' r with
  | none => trivial
  | some ds =>
    obtain ⟨vs, hq, rv⟩ := rd_at rs hr' er
    rw [e.φ r hr] at hq
    simp only [Option.map_some]
    cases hd : ds[i]? with
    | none => exact ⟨vs, hq, by rw [rv.length]; exact List.getElem?_eq_none_iff.mp hd⟩
    | some d =>
      obtain ⟨v, h1, h2⟩ := rv.get hd
      refine ⟨⟨vs, v, hq, h1⟩, fun x H'' y => ?_⟩
      obtain ⟨rfl, y⟩ := y
      have := y vs hq
      rw [h1] at this
      cases this
      exact ⟨.refl, rs, h2⟩
/-- a new pair is given out -/
theorem pair_new {s : Sto} {φ : Nat → Addr} {H : Hp} {T : Addr} {v w : V} {d e : D} (rs : RS S φ H s) (hT : H T = none) (r1 : RV S.K s.n φ H v d) (r2 : RV S.K s.n φ H w e) :
    Ext s.n φ H s.n φ (upd H T (.tup [v, w])) ∧ RS S φ (upd H T (.tup [v, w])) s ∧ RV S.K s.n φ (upd H T (.tup [v, w])) (.ref T) (.tup [d, e]) :=
  ⟨ext_new hT, rs.side hT, .tup upd_same (.cons (r1.ext (ext_new hT)) (.cons (r2.ext (ext_new hT)) .nil))⟩
theorem src_enm {n : Nat} {φ : Nat → Addr} {H : Hp} {r : Nat} (hr : r < n) : SrcJ S n φ H (.enm r) (Ite S.K (φ r)) := by
  intro s' φ' H' e rs i
  have hr' : r < s'.n := Nat.lt_of_lt_of_le hr e.le
  simp only [sItem]
  cases er : rdOf s' r with
  | none => trivial
  | some ds =>
    obtain ⟨vs, hq, rv⟩ := rd_at rs hr' er
    rw [e.φ r hr] at hq
    simp only [Option.map_some]
    cases hd : ds[i]? with
    | none => exact ⟨vs, hq, by rw [rv.length]; exact List.getElem?_eq_none_iff.mp hd⟩
    | some d =>
      obtain ⟨v, h1, h2⟩ := rv.get hd
      refine ⟨⟨vs, v, hq, h1⟩, fun x H'' y => ?_⟩
      obtain ⟨T, w, rfl, hT, rfl, y⟩ := y
      have := y vs hq
      rw [h1] at this
      cases this
      exact pair_new rs hT (.int _) h2
theorem src_zpL {n : Nat} {φ : Nat → Addr} {H : Hp} {r q : Nat} (hr : r < n) (hq' : q < n) : SrcJ S n φ H (.zpL r q) (Itz S.K (φ r) (φ q)) := by
  intro s' φ' H' e rs i
  simp only [sItem]
  cases er : rdOf s' r with
  | none => trivial
  | some ds =>
    cases eq : rdOf s' q with
    | none => trivial
    | some es =>
      obtain ⟨vs, hq1, rv⟩ := rd_at rs (Nat.lt_of_lt_of_le hr e.le) er
      obtain ⟨ws, hq2, rw'⟩ := rd_at rs (Nat.lt_of_lt_of_le hq' e.le) eq
      rw [e.φ r hr] at hq1
      rw [e.φ q hq'] at hq2
      simp only [Option.bind_some, Option.map_some]
      cases hd : ds[i]? with
      | none => exact ⟨vs, ws, hq1, hq2, .inl (by rw [rv.length]; exact List.getElem?_eq_none_iff.mp hd)⟩
      | some d =>
        cases he : es[i]? with
        | none => exact ⟨vs, ws, hq1, hq2, .inr (by rw [rw'.length]; exact List.getElem?_eq_none_iff.mp he)⟩
        | some d2 =>
          obtain ⟨v, h1, h2⟩ := rv.get hd
          obtain ⟨w, k1, k2⟩ := rw'.get he
          refine ⟨⟨vs, ws, v, w, hq1, hq2, h1, k1⟩, fun x H'' y => ?_⟩
          obtain ⟨T, a, b, rfl, hT, rfl, y1, y2⟩ := y
          have z1 := y1 vs hq1
          have z2 := y2 ws hq2
          rw [h1] at z1; rw [k1] at z2
          cases z1; cases z2
          exact pair_new rs hT h2 k2
theorem src_zpT {n : Nat} {φ : Nat → Addr} {H : Hp} {a b : Addr} {vs ws : List V} {ds es : List D} (h1 : ∀ n' φ' H', Ext n φ H n' φ' H' → SqT S.K H' a vs) (h2 : ∀ n' φ' H', Ext n φ H n' φ' H' → SqT S.K H' b ws)
    (rv : RVs S.K n φ H vs ds) (rw' : RVs S.K n φ H ws es) : SrcJ S n φ H (.zpT ds es) (RZ.ItzT S.K a b) := by
  intro s' φ' H' e rs i
  have hq1 := h1 _ _ _ e
  have hq2 := h2 _ _ _ e
  simp only [sItem]
  cases hd : ds[i]? with
  | none => exact ⟨vs, ws, hq1, hq2, .inl (by rw [rv.length]; exact List.getElem?_eq_none_iff.mp hd)⟩
  | some d =>
    cases he : es[i]? with
    | none => exact ⟨vs, ws, hq1, hq2, .inr (by rw [rw'.length]; exact List.getElem?_eq_none_iff.mp he)⟩
    | some d2 =>
      obtain ⟨v, h1, h2⟩ := rv.get hd
      obtain ⟨w, k1, k2⟩ := rw'.get he
      refine ⟨⟨vs, ws, v, w, hq1, hq2, h1, k1⟩, fun x H'' y => ?_⟩
      obtain ⟨T, a, b, rfl, hT, rfl, y1, y2⟩ := y
      have z1 := y1 vs hq1
      have z2 := y2 ws hq2
      rw [h1] at z1; rw [k1] at z2
      cases z1; cases z2
      exact pair_new rs hT (h2.ext e) (k2.ext e)
theorem tup_ext {n : Nat} {φ : Nat → Addr} {H : Hp} {v : V} {d : D} {xs : List D} (r : RV S.K n φ H v d) (h : tupOf d = some xs) : ∃ a vs, v = .ref a ∧ (∀ n' φ' H', Ext n φ H n' φ' H' → SqT S.K H' a vs) ∧ RVs S.K n φ H vs xs := by
  cases r with
  | tup t rs => cases h; exact ⟨_, _, rfl, fun _ _ _ e => .of (e.tup _ _ t), rs⟩
  | kt t rs => cases h; exact ⟨_, _, rfl, fun _ _ _ _ => t.sqt, rs⟩
  | _ => cases h

/-- a list, a tuple or a text -/
def iSeq (K : PySem.W.Frag) (te : TE) : TI := fun σ H R => te σ H fun x H1 =>
  (∃ a, x = .ref a ∧ (∃ xs, SqL K H1 a xs) ∧ R (Itl K a) H1) ∨ (∃ a, x = .ref a ∧ (∃ xs, SqT K H1 a xs) ∧ R (Itt K a) H1) ∨ ∃ z, x = .str z ∧ R (Its z) H1
theorem pi_seq {X : Cx} {tg l : Expr} {tl : TE} (hl : PE X l tl) : PI X tg l (iSeq X.K tl) := by
  refine ⟨fun pins s σ H R I h => ?_⟩
  refine thn (hl.run pins s σ H _ I h) fun v s1 ⟨x, H1, I1, r1, q1⟩ => ?_
  rcases q1 with ⟨a, e, ⟨xs, hq⟩, q⟩ | ⟨a, e, ⟨xs, hq⟩, q⟩ | ⟨z, e, q⟩
  · subst e
    cases r1
    obtain ⟨its, rv, p, hz⟩ := I1.list hq
    refine wpAny_pyIter_list p.isList ?_
    refine ⟨s1.heap.objs.size, [s1.heap.objs.size], _, _, H1, rfl, I1.kept (t' := s1.toks) fun b o e => Heap.get?_push_of_some _ e, turn_list a _, ⟨_, Heap.get?_push_size _ rfl, rfl, rfl⟩, fun b hb => ?_, q⟩
    have e : b = s1.heap.objs.size := by simpa using hb
    subst e
    exact I1.fpOk (Nat.le_refl _) (I1.hok.fresh (Nat.le_refl _))
  · subst e
    cases r1
    obtain ⟨its, rv, p, hz⟩ := I1.tuple hq
    refine wpAny_pyIter_tuple (show s1.heap.IsTuple a its.toArray from p) ?_
    refine ⟨s1.heap.objs.size, [s1.heap.objs.size], _, _, H1, rfl, I1.kept (t' := s1.toks) fun b o e => Heap.get?_push_of_some _ e, turn_tuple a _, ⟨_, Heap.get?_push_size _ rfl, rfl, rfl⟩, fun b hb => ?_, q⟩
    have e : b = s1.heap.objs.size := by simpa using hb
    subst e
    exact I1.fpOk (Nat.le_refl _) (I1.hok.fresh (Nat.le_refl _))
  · subst e
    obtain ⟨t, rfl⟩ := r1
    cases ha : z.cps.all (· < 128)
    · exact wpAny_pyIter_wide ha (pi_one (tk := s1.toks) I1 _ (turn_str _ z t "str_iterator" (.inr rfl)) ⟨_, Heap.get?_push_size _ rfl, rfl, rfl⟩ q)
    · exact wpAny_pyIter_ascii ha (pi_one (tk := s1.toks) I1 _ (turn_str _ z t "str_ascii_iterator" (.inl rfl)) ⟨_, Heap.get?_push_size _ rfl, rfl, rfl⟩ q)
theorem pi_imp {X : Cx} {tg e : Expr} {t t' : TI} (h : PI X tg e t) (i : ∀ σ H R, t' σ H R → t σ H R) : PI X tg e t' := ⟨fun pins s σ H R I q => h.run pins s σ H R I (i σ H R q)⟩
theorem imp_seq (h : tI S W (fun ρ s => (ma ρ s).bind srcR) σ H R) : iSeq S.K (tE S W ma) σ H R := by
  obtain ⟨φ, ρ, s, re, rs, h⟩ := h
  refine ⟨φ, ρ, s, re, rs, (Res.bindA h).mono fun v H1 ⟨φ1, d1, s1, e1, rs1, rv1, h1⟩ => ?_⟩
  unfold srcR at h1
  cases rv1 with
  | tup t rv => exact .inr (.inl ⟨_, rfl, ⟨_, .of t⟩, h1 φ1 H1 .refl rs1 _ (src_fix (.inl t) rv)⟩)
  | kt t rv => exact .inr (.inl ⟨_, rfl, ⟨_, t.sqt⟩, h1 φ1 H1 .refl rs1 _ (src_fix (.inr t) rv)⟩)
  | str z => exact .inr (.inr ⟨z, rfl, h1 φ1 H1 .refl rs1 _ src_txt⟩)
  | @ref r hr =>
    simp only [srcOf] at h1
    cases er : rdOf s1 r with
    | none => rw [er] at h1; exact h1.elim
    | some ds =>
      rw [er] at h1
      obtain ⟨vs, hq, rv⟩ := rd_at rs1 hr er
      exact .inl ⟨_, rfl, ⟨vs, hq⟩, h1 φ1 H1 .refl rs1 _ (src_dyn hr)⟩
  | _ => exact h1.elim
theorem sm62 {i : Int} (h : small62 i = true) : -(2 ^ 62) ≤ i ∧ i < 2 ^ 62 := by
  have h : i.natAbs.log2 < 62 := of_decide_eq_true h
  have h2 : i.natAbs < 2 ^ 62 := by
    by_cases z : i.natAbs = 0
    · rw [z]; decide
    · exact (Nat.log2_lt z).mp h
  omega
theorem imp_rng1 (h : tI S W (fun ρ s => (ma ρ s).bind fun x s => (asI x s).bind rng1R) σ H R) : iRng1 (tCons (tE S W ma) tNil) σ H R := by
  obtain ⟨φ, ρ, s, re, rs, h⟩ := h
  refine ⟨φ, ρ, s, re, rs, (Res.bindA h).mono fun v H1 ⟨φ1, d1, s1, e1, rs1, rv1, h1⟩ => ?_⟩
  cases rv1 with
  | int i =>
    have h1 : ResA S W σ s1 φ1 H1 (rng1R i s1) _ := h1
    unfold rng1R at h1
    split at h1
    · rename_i hz
      exact ⟨i, rfl, (sm62 hz).1, (sm62 hz).2, h1 φ1 H1 .refl rs1 _ src_rng⟩
    · exact h1.elim
  | _ => exact h1.elim
theorem imp_rng2 (h : tI S W (fun ρ s => (ma ρ s).bind fun x s => (mb ρ s).bind fun y s => (asI x s).bind fun i s => (asI y s).bind fun j s => rng2R i j s) σ H R) : iRng2 (tCons (tE S W ma) (tCons (tE S W mb) tNil)) σ H R := by
  obtain ⟨φ, ρ, s, re, rs, h⟩ := h
  refine ⟨φ, ρ, s, re, rs, (Res.bindA h).mono fun v H1 ⟨φ1, d1, s1, e1, rs1, rv1, h1⟩ => ?_⟩
  refine ⟨φ1, ρ, s1, re.ext e1, rs1, (Res.bindA h1).mono fun w H2 ⟨φ2, d2, s2, e2, rs2, rv2, h2⟩ => ?_⟩
  cases rv1 with
  | int i =>
    cases rv2 with
    | int j =>
      have h2 : ResA S W σ s2 φ2 H2 (rng2R i j s2) _ := h2
      unfold rng2R at h2
      split at h2
      · rename_i hz
        rw [Bool.and_eq_true] at hz
        exact ⟨i, j, rfl, ⟨(sm62 hz.1).1, (sm62 hz.1).2, (sm62 hz.2).1, (sm62 hz.2).2⟩, h2 φ2 H2 .refl rs2 _ src_rng⟩
      · exact h2.elim
    | _ => exact h2.elim
  | _ => cases rv2 <;> exact h2.elim
theorem imp_zip (h : tI S W (fun ρ s => (ma ρ s).bind fun x s => (mb ρ s).bind fun y s => zipR x y s) σ H R) : RZ.iZipA S.K (tCons (tE S W ma) (tCons (tE S W mb) tNil)) σ H R := by
  obtain ⟨φ, ρ, s, re, rs, h⟩ := h
  refine ⟨φ, ρ, s, re, rs, (Res.bindA h).mono fun v H1 ⟨φ1, d1, s1, e1, rs1, rv1, h1⟩ => ?_⟩
  refine ⟨φ1, ρ, s1, re.ext e1, rs1, (Res.bindA h1).mono fun w H2 ⟨φ2, d2, s2, e2, rs2, rv2, h2⟩ => ?_⟩
  have rv1 := rv1.ext e2
  unfold zipR at h2
  split at h2
  · rename_i xs ys t1 t2
    obtain ⟨a, vs, rfl, k1, r1⟩ := tup_ext rv1 t1
    obtain ⟨b, ws, rfl, k2, r2⟩ := tup_ext rv2 t2
    exact ⟨a, b, vs, ws, rfl, .inr ⟨k1 _ _ _ .refl, k2 _ _ _ .refl, h2 φ2 H2 .refl rs2 _ (src_zpT k1 k2 r1 r2)⟩⟩
  · split at h2
    · cases rv1 with | ref hr => cases rv2 with | ref hq =>
      split at h2
      · rename_i a1 a2
        obtain ⟨vs, q1, r1⟩ := rd_at rs2 hr a1
        obtain ⟨ws, q2, r2⟩ := rd_at rs2 hq a2
        exact ⟨_, _, vs, ws, rfl, .inl ⟨q1, q2, h2 φ2 H2 .refl rs2 _ (src_zpL hr hq)⟩⟩
      · exact h2.elim
    · exact h2.elim
theorem imp_enm (h : tI S W (fun ρ s => (ma ρ s).bind enmR) σ H R) : iEnum S.K (tCons (tE S W ma) tNil) σ H R := by
  obtain ⟨φ, ρ, s, re, rs, h⟩ := h
  refine ⟨φ, ρ, s, re, rs, (Res.bindA h).mono fun v H1 ⟨φ1, d1, s1, e1, rs1, rv1, h1⟩ => ?_⟩
  cases rv1 with
  | @ref r hr =>
    simp only [enmR] at h1
    cases er : rdOf s1 r with
    | none => rw [er] at h1; exact h1.elim
    | some ds =>
      rw [er] at h1
      obtain ⟨vs, hq, rv⟩ := rd_at rs1 hr er
      exact ⟨_, vs, rfl, hq, h1 φ1 H1 .refl rs1 _ (src_enm hr)⟩
  | _ => exact h1.elim
end
end Ab
set_option Elab.async false
set_option linter.all false
set_option maxRecDepth 100000
set_option maxHeartbeats 1000000
/-! Ab9: targets, comprehensions, and: every checked expression means what its term says -/
namespace Ab
open PySem L2

/-! ### targets -/
mutual
def gTg (K : PySem.W.Frag) : Tg → TG
  | .nm i => gName i
  | .tp ts => gTup K ts.len (gTgs K ts)
def gTgs (K : PySem.W.Frag) : Tgs → TGs
  | .nil => gNil
  | .cons t ts => gCons (gTg K t) (gTgs K ts)
def Tgs.len : Tgs → Nat
  | .nil => 0
  | .cons _ ts => ts.len + 1
end
theorem wipe_get {σ : St} {i : Nat} : ∀ {vs : List Nat}, i < σ.length → (wipe σ vs)[i]? = if i ∈ vs then some none else σ[i]?
  | [], _ => by simp [wipe]
  | v :: vs, h => by
    unfold wipe
    by_cases e : v = i
    · subst e
      rw [List.getElem?_set_self (by rw [wipe_length]; exact h), if_pos List.mem_cons_self]
    · rw [List.getElem?_set_ne e, wipe_get h]
      have : i ∈ v :: vs ↔ i ∈ vs := by simp [Ne.symm e]
      simp only [this]
theorem wipe_ext {σ τ : St} {vs : List Nat} (hl : σ.length = τ.length) (h : ∀ i, i ∉ vs → σ[i]? = τ[i]?) : wipe σ vs = wipe τ vs := by
  apply List.ext_getElem?
  intro i
  by_cases hi : i < σ.length
  · rw [wipe_get hi, wipe_get (hl ▸ hi)]
    by_cases hv : i ∈ vs
    · rw [if_pos hv, if_pos hv]
    · rw [if_neg hv, if_neg hv, h i hv]
  · rw [List.getElem?_eq_none (by rw [wipe_length]; omega), List.getElem?_eq_none (by rw [wipe_length]; omega)]
theorem wipe_wipe {σ : St} {vs : List Nat} : wipe (wipe σ vs) vs = wipe σ vs := by
  refine wipe_ext (wipe_length _ _) fun i hi => ?_
  by_cases h : i < σ.length
  · rw [wipe_get h, if_neg hi]
  · rw [List.getElem?_eq_none (by rw [wipe_length]; omega), List.getElem?_eq_none (by omega)]
theorem wipeD_length (ρ : Env) : ∀ vs : List Nat, (wipeD ρ vs).length = ρ.length
  | [] => rfl
  | v :: vs => by unfold wipeD; rw [List.length_set, wipeD_length ρ vs]
theorem wipeD_some {ρ : Env} {i : Nat} {d : D} : ∀ {vs : List Nat}, (wipeD ρ vs)[i]? = some (some d) → ρ[i]? = some (some d) ∧ i ∉ vs
  | [], h => ⟨h, by simp⟩
  | v :: vs, h => by
    unfold wipeD at h
    by_cases hi : v = i
    · subst hi
      by_cases hv : v < (wipeD ρ vs).length
      · rw [List.getElem?_set_self hv] at h; cases h
      · rw [List.getElem?_eq_none (by simpa using hv)] at h; cases h
    · rw [List.getElem?_set_ne hi] at h
      obtain ⟨h1, h2⟩ := wipeD_some h
      exact ⟨h1, by simp only [List.mem_cons, not_or]; exact ⟨fun e => hi e.symm, h2⟩⟩
section
variable {S : St0} {n : Nat} {φ : Nat → Addr} {H : Hp}
theorem RE.wipe {ρ : Env} {σ : St} (h : RE S n φ H ρ σ) (vs : List Nat) : RE S n φ H (wipeD ρ vs) (L2.wipe σ vs) := by
  refine ⟨by rw [wipeD_length, wipe_length]; exact h.1, fun i d hi => ?_⟩
  obtain ⟨h1, h2⟩ := wipeD_some hi
  obtain ⟨v, h3, h4⟩ := h.2 i d h1
  refine ⟨v, ?_, h4⟩
  have hl : i < σ.length := by
    rw [← h.1]
    exact (List.getElem?_eq_some_iff.mp h1).1
  rw [wipe_get hl, if_neg h2]
  exact h3
/-- all but some slots are as they were -/
def SameBut (vs : List Nat) (σ τ : St) : Prop := σ.length = τ.length ∧ ∀ i, i ∉ vs → τ[i]? = σ[i]?
theorem SameBut.trans {vs ws : List Nat} {σ τ υ : St} (a : SameBut vs σ τ) (b : SameBut ws τ υ) : SameBut (vs ++ ws) σ υ :=
  ⟨a.1.trans b.1, fun i hi => by
    rw [List.mem_append, not_or] at hi
    exact (b.2 i hi.2).trans (a.2 i hi.1)⟩
mutual
theorem bind_g : ∀ (tg : Tg) {d : D} {ρ ρ' : Env} {v : V} {σ : St} {Q : St → Hp → Prop}, bindT tg d ρ = some ρ' → RE S n φ H ρ σ → RV S.K n φ H v d → (∀ σ', RE S n φ H ρ' σ' → SameBut tg.slots σ σ' → Q σ' H) → gTg S.K tg v σ H Q
  | .nm i, d, ρ, ρ', v, σ, Q, hb, re, rv, q => by
    unfold bindT at hb
    cases Option.some.inj hb
    refine q _ (re.set i rv) ⟨by simp, fun j hj => ?_⟩
    unfold Tg.slots at hj
    rw [List.getElem?_set_ne (fun e => hj (by simp [e]))]
  | .tp ts, d, ρ, ρ', v, σ, Q, hb, re, rv, q => by
    unfold bindT at hb
    cases ht : tupOf d with
    | none => rw [ht] at hb; cases hb
    | some xs =>
      rw [ht] at hb
      have hb : bindTs ts xs ρ = some ρ' := hb
      obtain ⟨a, vs, rfl, hq, rvs⟩ := rv.tupD ht
      exact ⟨a, vs, rfl, hq, by rw [rvs.length]; exact bind_len ts hb, binds_g ts hb re rvs q⟩
theorem binds_g : ∀ (ts : Tgs) {ds : List D} {ρ ρ' : Env} {vs : List V} {σ : St} {Q : St → Hp → Prop}, bindTs ts ds ρ = some ρ' → RE S n φ H ρ σ → RVs S.K n φ H vs ds → (∀ σ', RE S n φ H ρ' σ' → SameBut ts.slots σ σ' → Q σ' H) → gTgs S.K ts vs σ H Q
  | .nil, [], ρ, ρ', vs, σ, Q, hb, re, rv, q => by
    unfold bindTs at hb
    cases Option.some.inj hb
    cases rv
    exact ⟨rfl, q σ re ⟨rfl, fun _ _ => rfl⟩⟩
  | .nil, _ :: _, ρ, ρ', vs, σ, Q, hb, re, rv, q => by unfold bindTs at hb; cases hb
  | .cons t ts, [], ρ, ρ', vs, σ, Q, hb, re, rv, q => by unfold bindTs at hb; cases hb
  | .cons t ts, d :: ds, ρ, ρ', vs, σ, Q, hb, re, rv, q => by
    unfold bindTs at hb
    cases h1 : bindT t d ρ with
    | none => rw [h1] at hb; cases hb
    | some ρ1 =>
      rw [h1] at hb
      have hb : bindTs ts ds ρ1 = some ρ' := hb
      cases rv with
      | cons r rr =>
        refine ⟨_, _, rfl, bind_g t h1 re r fun σ1 re1 sb1 => ?_⟩
        exact binds_g ts hb re1 rr fun σ2 re2 sb2 => q σ2 re2 (sb1.trans sb2)
theorem bind_len : ∀ (ts : Tgs) {ds : List D} {ρ ρ' : Env}, bindTs ts ds ρ = some ρ' → ds.length = ts.len
  | .nil, [], _, _, _ => rfl
  | .nil, _ :: _, _, _, hb => by unfold bindTs at hb; cases hb
  | .cons t ts, [], _, _, hb => by unfold bindTs at hb; cases hb
  | .cons t ts, d :: ds, ρ, ρ', hb => by
    unfold bindTs at hb
    cases h1 : bindT t d ρ with
    | none => rw [h1] at hb; cases hb
    | some ρ1 =>
      rw [h1] at hb
      have hb : bindTs ts ds ρ1 = some ρ' := hb
      show ds.length + 1 = ts.len + 1
      rw [bind_len ts hb]
end
end

/-! ### comprehensions -/
section
variable {S : St0} {W : WX}
abbrev W0 : WX := fun _ _ _ _ => False
theorem Res.noexB {σ σ' : St} {s : Sto} {φ : Nat → Addr} {H : Hp} {r : R Bool} {f : Bool → Sto → R D} {Q : VK} (h : Res S W σ s φ H (r.noex.bind f) Q) :
    ResB S W0 σ' s φ H r fun b H' => ∃ φ' s', Ext s.n φ H s'.n φ' H' ∧ RS S φ' H' s' ∧ Res S W σ s' φ' H' (f b s') Q := by
  cases r with
  | ok b s' => exact fun φ' H' e rs => ⟨φ', s', e, rs, Res.ext e h⟩
  | ex c s' => exact h.elim
  | bad => exact h.elim
theorem Res.noexD {σ σ' : St} {s : Sto} {φ : Nat → Addr} {H : Hp} {r : R D} {f : D → Sto → R D} {Q : VK} (h : Res S W σ s φ H (r.noex.bind f) Q) :
    Res S W0 σ' s φ H r fun v H' => ∃ φ' d s', Ext s.n φ H s'.n φ' H' ∧ RS S φ' H' s' ∧ RV S.K s'.n φ' H' v d ∧ Res S W σ s' φ' H' (f d s') Q := by
  cases r with
  | ok b s' => exact fun φ' H' v e rs rv => ⟨φ', b, s', e, rs, rv, Res.ext e h⟩
  | ex c s' => exact h.elim
  | bad => exact h.elim
theorem imp_lc {own : List Nat} {tg : Tg} {mi : Env → Sto → R Src} {mc : Env → Sto → R Bool} {me : Env → Sto → R D} {σ : St} {H : Hp} {Q : VK} (hs : ∀ i ∈ tg.slots, i ∈ own) (h : tE S W (mLc own tg mi mc me) σ H Q) :
    tLc (tI S W mi) (gTg S.K tg) (tT S W0 mc) (tE S W0 me) own σ H Q := by
  obtain ⟨φ, ρ, s, re, rs, h⟩ := h
  refine ⟨φ, ρ, s, re, rs, ?_⟩
  have h : Res S W σ s φ H ((mi ρ s).bind fun src s => lcLoop src s.n (fun d => bindT tg d (wipeD ρ own)) mc me (sMany src s) 0 (s.new (.lst []))) Q := h
  refine (ResA.bind h).mono fun src s1 φ1 H1 ⟨e1, rs1, h1⟩ J hJ L hL => ?_
  -- the new list
  have ex1 : Ext s1.n φ1 H1 (s1.n + 1) (fun q => if q = s1.n then L else φ1 q) (upd H1 L (.lst [])) := ext_alloc hL
  have rs2 : RS S (fun q => if q = s1.n then L else φ1 q) (upd H1 L (.lst [])) (s1.new (.lst [])) := rs1.alloc hL ⟨[], upd_same, .nil⟩
  have h2 := Res.ext (s₁ := s1.new (.lst [])) ex1 h1
  refine ⟨fun i m Hc => ∃ φc sc, Ext s1.n φ1 H1 sc.n φc Hc ∧ RS S φc Hc sc ∧ RE S sc.n φc Hc (wipeD ρ own) (wipe σ own) ∧ s1.n < sc.n ∧ φc s1.n = L ∧
      Res S W σ sc φc Hc (lcLoop src s1.n (fun d => bindT tg d (wipeD ρ own)) mc me m i sc) Q,
    ⟨sMany src s1, _, s1.new (.lst []), ex1, rs2, (re.ext (e1.trans ex1)).wipe own, Nat.lt_succ_self _, if_pos rfl, h2⟩, ?_⟩
  rintro i m Hc ⟨φc, sc, exc, rsc, rec, hlt, hφ, hr⟩
  cases m with
  | zero => exact hr.elim
  | succ f =>
    have J1 := hJ sc φc Hc exc rsc i
    unfold lcLoop at hr
    cases hi : sItem src i sc with
    | none => rw [hi] at hr; exact hr.elim
    | some o =>
      rw [hi] at hr J1
      cases o with
      | none =>
        refine .inl ⟨J1, Res.here hr rsc ?_⟩
        have := RV.ref (K := S.K) (n := sc.n) (φ := φc) (H := Hc) hlt
        rw [hφ] at this
        exact this
      | some d =>
        obtain ⟨J1, J2⟩ := J1
        refine .inr ⟨J1, fun H' => ∃ φc sc, Ext s1.n φ1 H1 sc.n φc H' ∧ RS S φc H' sc ∧ RE S sc.n φc H' (wipeD ρ own) (wipe σ own) ∧ s1.n < sc.n ∧ φc s1.n = L ∧
          Res S W σ sc φc H' (lcLoop src s1.n (fun d => bindT tg d (wipeD ρ own)) mc me f (i + 1) sc) Q, fun H' hN => ⟨f, Nat.lt_succ_self _, hN⟩, fun x H' hy => ?_⟩
        obtain ⟨ey, rsy, rvy⟩ := J2 x H' hy
        simp only at hr
        cases hb : bindT tg d (wipeD ρ own) with
        | none => rw [hb] at hr; exact hr.elim
        | some ρ' =>
          rw [hb] at hr
          simp only at hr
          refine bind_g tg hb (rec.ext ey) rvy fun σ2 re2 sb => ⟨?_, ?_⟩
          · refine (wipe_ext sb.1.symm fun j hj => sb.2 j fun z => hj (hs j z)).trans wipe_wipe
          · refine ⟨φc, ρ', sc, re2, rsy, (Res.noexB (Res.ext ey hr)).mono fun b H3 ⟨φ3, s3, e3, rs3, h3⟩ => ?_⟩
            have base3 := (exc.trans ey).trans e3
            cases b with
            | false => exact iteF ⟨φ3, s3, base3, rs3, (rec.ext ey).ext e3, Nat.lt_of_lt_of_le hlt e3.le, (e3.φ _ hlt).trans hφ, h3⟩
            | true =>
              refine iteT ⟨φ3, ρ', s3, re2.ext e3, rs3, (Res.noexD h3).mono fun y H4 ⟨φ4, d4, s4, e4, rs4, rv4, h4⟩ => ?_⟩
              have hlt4 : s1.n < s4.n := Nat.lt_of_lt_of_le hlt (Nat.le_trans e3.le e4.le)
              have hφ4 : φ4 s1.n = L := (e4.φ _ (Nat.lt_of_lt_of_le hlt e3.le)).trans ((e3.φ _ hlt).trans hφ)
              cases el : lstOf s4 s1.n with
              | none => rw [el] at h4; exact h4.elim
              | some acc =>
                rw [el] at h4
                simp only at h4
                obtain ⟨vs, k1, k2, k3⟩ := lst_at rs4 hlt4 el
                split at h4
                · rename_i hz
                  have hw : (s4.g s1.n).mu = true := by rw [k3]; rfl
                  have ex5 := rs4.ext_upd (u := .lst (vs ++ [y])) hlt4 hw
                  rw [hφ4] at ex5 k1
                  have rs5 := rs4.upd (u := .lst (vs ++ [y])) (o := .lst (acc ++ [d4])) hlt4 hw (by rw [hφ4]; exact ⟨_, upd_same, (k2.ext ex5).append (.cons (rv4.ext ex5) .nil)⟩)
                  rw [hφ4] at rs5
                  refine ⟨vs, k1, by rw [k2.length]; exact hz, φ4, s4.put s1.n (.lst (acc ++ [d4])), (base3.trans e4).trans ex5, rs5, (((rec.ext ey).ext e3).ext e4).ext ex5, hlt4, hφ4, ?_⟩
                  exact Res.ext (s₁ := s4.put s1.n (.lst (acc ++ [d4]))) ex5 h4
                · exact h4.elim
end

/-! ### texts made, dicts shown, dicts walked -/
section
variable {S : St0} {W : WX} {σ : St} {H : Hp} {Q : VK} {ma mb : Env → Sto → R D}
theorem imp_fmt (h : tE S W (fun ρ s => (ma ρ s).bind fmtR) σ H Q) : tFmt (tE S W ma) σ H Q := by
  obtain ⟨φ, ρ, s, re, rs, h⟩ := h
  refine ⟨φ, ρ, s, re, rs, (Res.bind h).mono fun v H1 ⟨φ1, d1, s1, e1, rs1, rv1, h1⟩ => ?_⟩
  unfold fmtR fmtO at h1
  cases rv1 with
  | str y =>
    by_cases c : y.length ≤ sizeLine
    · simp only [if_pos c] at h1
      exact .inl ⟨y, rfl, c, Res.here h1 rs1 (.str _)⟩
    · simp only [if_neg c] at h1
      exact h1.elim
  | int i =>
    by_cases c : i.natAbs.log2 < 1920
    · simp only [if_pos c] at h1
      exact .inr ⟨i, rfl, c, Res.here h1 rs1 (.str _)⟩
    · simp only [if_neg c] at h1
      exact h1.elim
  | _ => exact h1.elim
theorem rv_key {K : PySem.W.Frag} {n : Nat} {φ : Nat → Addr} {H : Hp} : ∀ k : Key, RV K n φ H (kV k) (keyD k)
  | .inl i => .int i
  | .inr x => .str x
theorem rv_keys {K : PySem.W.Frag} {n : Nat} {φ : Nat → Addr} {H : Hp} : ∀ ks : List Key, RVs K n φ H (ks.map kV) (ks.map keyD)
  | [] => .nil
  | k :: ks => .cons (rv_key k) (rv_keys ks)
theorem RKs.fst {κ : Type} {K : PySem.W.Frag} {n : Nat} {φ : Nat → Addr} {H : Hp} : ∀ {vs : List (κ × V)} {ds : List (κ × D)}, RKs K n φ H vs ds → vs.map (·.1) = ds.map (·.1)
  | _, _, .nil => rfl
  | _, _, .cons (k := k) _ t => by
    show k :: _ = k :: _
    rw [RKs.fst t]
theorem RKs.merge {K : PySem.W.Frag} {n : Nat} {φ : Nat → Addr} {H : Hp} : ∀ {vs : List (Key × V)} {ds : List (Key × D)} {vs0 : List (Key × V)} {ds0 : List (Key × D)}, RKs K n φ H vs ds → RKs K n φ H vs0 ds0 → RKs K n φ H (mergeK vs0 vs) (ds.foldl (fun acc kv => putG acc kv.1 kv.2) ds0)
  | _, _, _, _, .nil, r => r
  | _, _, _, _, .cons (k := k) q t, r => by
    have := RKs.merge t (RKs.put k q r)
    exact this
theorem RKs.len' {κ : Type} {K : PySem.W.Frag} {n : Nat} {φ : Nat → Addr} {H : Hp} : ∀ {vs : List (κ × V)} {ds : List (κ × D)}, RKs K n φ H vs ds → vs.length = ds.length
  | _, _, .nil => rfl
  | _, _, .cons _ t => by rw [List.length_cons, List.length_cons, RKs.len' t]
/-- the pairs of a display -/
def ResP (S : St0) (W : WX) (σ : St) (s : Sto) (φ : Nat → Addr) (H : Hp) (r : R (List (Key × D))) (Q : List (V × V) → Hp → Prop) : Prop :=
  ResA S W σ s φ H r fun kvs s φ H => ∀ vs : List (Key × V), RKs S.K s.n φ H vs kvs → Q (vs.map fun kv => (kV kv.1, kv.2)) H
theorem ResA.bindA {α β : Type} {s₀ : Sto} {φ₀ : Nat → Addr} {H₀ : Hp} {r : R α} {f : α → Sto → R β} {P : β → Sto → (Nat → Addr) → Hp → Prop} (h : ResA S W σ s₀ φ₀ H₀ (r.bind f) P) :
    ResA S W σ s₀ φ₀ H₀ r fun a s φ H => Ext s₀.n φ₀ H₀ s.n φ H ∧ RS S φ H s ∧ ResA S W σ s φ H (f a s) P := by
  cases r with
  | ok d s => exact fun φ H e rs => ⟨e, rs, ResA.ext e h⟩
  | ex c s => exact h
  | bad => exact h
theorem imp_disp {m : Env → Sto → R (List (Key × D))} {trs : List (TE × TE)} (ht : ∀ (σ : St) (H : Hp) (Q : List (V × V) → Hp → Prop), (∃ φ ρ s, RE S s.n φ H ρ σ ∧ RS S φ H s ∧ ResP S W σ s φ H (m ρ s) Q) → tPairs trs σ H Q)
    (h : tE S W (mDisp m) σ H Q) : tDisp trs σ H Q := by
  obtain ⟨φ, ρ, s, re, rs, h⟩ := h
  intro p hp
  have ex : Ext s.n φ H (s.n + 1) (fun q => if q = s.n then p else φ q) (upd H p (.dK [])) := ext_alloc hp
  have rs1 : RS S (fun q => if q = s.n then p else φ q) (upd H p (.dK [])) (s.new (.dk false [])) := rs.alloc hp ⟨[], upd_same, .nil⟩
  have h1 := Res.ext (s₁ := s.new (.dk false [])) ex h
  refine ht σ _ _ ⟨_, ρ, s.new (.dk false []), re.ext ex, rs1, ?_⟩
  refine (ResA.bind (f := fun kvs s1 => match s1.g s.n with
    | .dk false [] => if kvs.length ≤ 15 then .ok (.ref s.n) (s1.put s.n (.dk false (mergeG kvs))) else .bad
    | _ => .bad) h1).mono fun kvs s2 φ2 H2 ⟨e2, rs2, h2⟩ vs rv => ?_
  have hn : s.n < s2.n := Nat.lt_of_lt_of_le (Nat.lt_succ_self _) e2.le
  have hφ : φ2 s.n = p := (e2.φ s.n (Nat.lt_succ_self _)).trans (if_pos rfl)
  have g := rs2.ob s.n hn
  rw [hφ] at g
  split at h2
  · rename_i eg
    rw [eg] at g
    obtain ⟨vs0, g1, g2⟩ := g
    cases g2
    refine ⟨g1, vs, rfl, ?_⟩
    split at h2
    · rename_i hl
      have w : (s2.g s.n).mu = true := by rw [eg]; rfl
      have ex3 := rs2.ext_upd (u := .dK (mergeK [] vs)) hn w
      have rs3 := rs2.upd (u := .dK (mergeK [] vs)) (o := .dk false (mergeG kvs)) hn w ⟨_, upd_same, RKs.merge (rv.ext ex3) .nil⟩
      rw [hφ] at ex3 rs3
      refine ⟨by rw [RKs.len' rv]; exact hl, h2 φ2 _ (.ref p) ex3 rs3 ?_⟩
      have := RV.ref (K := S.K) (n := s2.n) (φ := φ2) (H := upd H2 p (.dK (mergeK [] vs))) hn
      rw [hφ] at this
      exact this
    · exact h2.elim
  · exact h2.elim
theorem src_keys {n : Nat} {φ : Nat → Addr} {H : Hp} {d : Addr} {o : Obj} {kvs : List (Key × V)} (hd : H d = some (.frz o (.dK kvs))) : SrcJ S n φ H (.keys (kvs.map (·.1))) (Itk d o kvs) := by
  intro s' φ' H' e rs i
  have hd' := e.frz _ _ _ hd
  simp only [sItem]
  rw [List.getElem?_map]
  cases hi : kvs[i]? with
  | none => exact ⟨hd', List.getElem?_eq_none_iff.mp hi⟩
  | some kv =>
    refine ⟨⟨hd', (List.getElem?_eq_some_iff.mp hi).1⟩, fun x H'' y => ?_⟩
    obtain ⟨rfl, k, v, h1, rfl⟩ := y
    rw [hi] at h1
    cases h1
    exact ⟨.refl, rs, rv_key _⟩
theorem src_keysT {n : Nat} {φ : Nat → Addr} {H : Hp} {d : Addr} {o : Obj} {kvs : List (List Key × V)} (hd : H d = some (.frz o (.dT kvs))) : SrcJ S n φ H (.keysT (kvs.map (·.1))) (Itkt d o kvs) := by
  intro s' φ' H' e rs i
  have hd' := e.frz _ _ _ hd
  simp only [sItem]
  rw [List.getElem?_map]
  cases hi : kvs[i]? with
  | none => exact ⟨hd', List.getElem?_eq_none_iff.mp hi⟩
  | some kv =>
    refine ⟨⟨hd', (List.getElem?_eq_some_iff.mp hi).1⟩, fun x H'' y => ?_⟩
    obtain ⟨rfl, k, v, q, h1, rfl, h2⟩ := y
    rw [hi] at h1
    cases h1
    exact ⟨.refl, rs, .tup h2 (rv_keys _)⟩
theorem imp_keys {R : L2.It → Hp → Prop} (h : tI S W (fun ρ s => (ma ρ s).bind keysR) σ H R) : iKeys (tE S W ma) σ H R := by
  obtain ⟨φ, ρ, s, re, rs, h⟩ := h
  refine ⟨φ, ρ, s, re, rs, (Res.bindA h).mono fun v H1 ⟨φ1, d1, s1, e1, rs1, rv1, h1⟩ => ?_⟩
  cases rv1 with
  | @ref r hr =>
    have g := rs1.ob r hr
    simp only [keysR] at h1
    cases eg : s1.g r with
    | dk lk kvs =>
      rw [eg] at g h1
      cases lk with
      | false => exact h1.elim
      | true =>
        obtain ⟨vs, ⟨o, g1⟩, g2⟩ := g
        refine ⟨_, o, rfl, .inl ⟨vs, g1, h1 φ1 H1 .refl rs1 _ ?_⟩⟩
        rw [← g2.fst]
        exact src_keys g1
    | dt lk kvs =>
      rw [eg] at g h1
      cases lk with
      | false => exact h1.elim
      | true =>
        obtain ⟨vs, ⟨o, g1⟩, g2⟩ := g
        refine ⟨_, o, rfl, .inr ⟨vs, g1, h1 φ1 H1 .refl rs1 _ ?_⟩⟩
        rw [← g2.fst]
        exact src_keysT g1
    | _ => rw [eg] at h1; exact h1.elim
  | _ => exact h1.elim
theorem imp_rng3 {mc : Env → Sto → Ab.R D} {R : L2.It → Hp → Prop} (h : tI S W (fun ρ s => (ma ρ s).bind fun x s => (mb ρ s).bind fun y s => (mc ρ s).bind fun z s => (asI x s).bind fun i s => (asI y s).bind fun j s => (asI z s).bind fun k s => rng3R i j k s) σ H R) :
    iRng3 (tCons (tE S W ma) (tCons (tE S W mb) (tCons (tE S W mc) tNil))) σ H R := by
  obtain ⟨φ, ρ, s, re, rs, h⟩ := h
  refine ⟨φ, ρ, s, re, rs, (Res.bindA h).mono fun v H1 ⟨φ1, d1, s1, e1, rs1, rv1, h1⟩ => ?_⟩
  refine ⟨φ1, ρ, s1, re.ext e1, rs1, (Res.bindA h1).mono fun w H2 ⟨φ2, d2, s2, e2, rs2, rv2, h2⟩ => ?_⟩
  refine ⟨φ2, ρ, s2, (re.ext e1).ext e2, rs2, (Res.bindA h2).mono fun u H3 ⟨φ3, d3, s3, e3, rs3, rv3, h3⟩ => ?_⟩
  cases rv1 with
  | int i =>
    cases rv2 with
    | int j =>
      cases rv3 with
      | int k =>
        have h3 : ResA S W σ s3 φ3 H3 (rng3R i j k s3) _ := h3
        unfold rng3R at h3
        split at h3
        · rename_i hz
          simp only [Bool.and_eq_true, decide_eq_true_eq] at hz
          obtain ⟨z1, z2, z3, z4⟩ := hz
          refine ⟨i, j, k, _, rfl, ⟨z1, z2, z3, (Int.toNat_of_nonneg z4).symm⟩, h3 φ3 H3 .refl rs3 _ ?_⟩
          intro s' φ' H' e rs i'
          simp only [sItem]
          by_cases hlt : i' < (Builtin.Range.rangeSize i j k).toNat
          · rw [if_pos hlt]
            refine ⟨hlt, fun x H'' y => ?_⟩
            obtain ⟨rfl, rfl⟩ := y
            exact ⟨.refl, rs, .int _⟩
          · rw [if_neg hlt]
            exact Nat.le_of_not_lt hlt
        · exact h3.elim
      | _ => exact h3.elim
    | _ => cases rv3 <;> exact h3.elim
  | _ => cases rv2 <;> cases rv3 <;> exact h3.elim
/-- a dict is locked -/
theorem lock_at {r : Nat} {s s0 : Sto} {φ : Nat → Addr} (rs : RS S φ H s) (h : lockS r s = some s0) : r < s.n ∧ s0.n = s.n ∧ ∃ u, H (φ r) = some u ∧ Mut (some u) ∧ (∀ vs, u ≠ .tup vs) ∧ (∀ o x, u ≠ .frz o x) ∧ ∀ od, Ext s.n φ H s0.n φ (upd H (φ r) (.frz od u)) ∧ RS S φ (upd H (φ r) (.frz od u)) s0 ∧
    ∀ (s1 s2 : Sto) (φ1 : Nat → Addr) (H1 : Hp), Ext s0.n φ (upd H (φ r) (.frz od u)) s1.n φ1 H1 → RS S φ1 H1 s1 → openS r s1 = some s2 → H1 (φ r) = some (.frz od u) ∧ Ext s.n φ H s2.n φ1 (upd H1 (φ r) u) ∧ RS S φ1 (upd H1 (φ r) u) s2 ∧ E0 s1.n φ1 H1 s2.n φ1 (upd H1 (φ r) u) := by
  unfold lockS at h
  split at h
  · rename_i hr
    have hr := of_decide_eq_true hr
    have g := rs.ob r hr
    -- the dict's shape
    have key : ∀ {u : HO} {o1 o2 : Ob}, s.g r = o1 → (o1.mu = true) → H (φ r) = some u → Mut (some u) → (∀ vs, u ≠ .tup vs) → (∀ o x, u ≠ .frz o x) → s0 = s.put r o2 → (∀ od, RO S s.n φ (upd H (φ r) (.frz od u)) (φ r) o2) →
        (∀ (od : Obj) (s1 s2 : Sto) (φ1 : Nat → Addr) (H1 : Hp), RS S φ1 H1 s1 → r < s1.n → φ1 r = φ r → H1 (φ r) = some (.frz od u) → openS r s1 = some s2 → ∃ o3, s2 = s1.put r o3 ∧ (s1.g r).wr = true ∧ RO S s1.n φ1 (upd H1 (φ r) u) (φ r) o3) →
        (∀ od, Ext s.n φ H s0.n φ (upd H (φ r) (.frz od u)) ∧ RS S φ (upd H (φ r) (.frz od u)) s0 ∧
    ∀ (s1 s2 : Sto) (φ1 : Nat → Addr) (H1 : Hp), Ext s0.n φ (upd H (φ r) (.frz od u)) s1.n φ1 H1 → RS S φ1 H1 s1 → openS r s1 = some s2 → H1 (φ r) = some (.frz od u) ∧ Ext s.n φ H s2.n φ1 (upd H1 (φ r) u) ∧ RS S φ1 (upd H1 (φ r) u) s2 ∧ E0 s1.n φ1 H1 s2.n φ1 (upd H1 (φ r) u)) := by
      intro u o1 o2 eg mu hu mt nt nf es ro op od
      subst es
      have w : (s.g r).mu = true := by rw [eg]; exact mu
      refine ⟨rs.ext_upd hr w, rs.upd hr w (ro od), fun s1 s2 φ1 H1 ex rs1 eo => ?_⟩
      have hl : H1 (φ r) = some (.frz od u) := ex.frz _ _ _ upd_same
      have hr1 : r < s1.n := Nat.lt_of_lt_of_le hr ex.le
      have hφ : φ1 r = φ r := ex.φ r hr
      obtain ⟨o3, e2, w1, ro3⟩ := op od s1 s2 φ1 H1 rs1 hr1 hφ hl eo
      subst e2
      have e0 := rs1.e0_upd (u := u) hr1 w1
      have rs2 := rs1.updw (u := u) (o := o3) hr1 w1 (by rw [hφ]; exact ro3)
      rw [hφ] at rs2 e0
      refine ⟨hl, ⟨⟨ex.le, ex.φ, fun a vs ha => ?_⟩, fun a o x ha => ?_⟩, rs2, e0⟩
      · have ne : a ≠ φ r := fun e => by rw [e, hu] at ha; exact nt _ (Option.some.inj ha)
        rw [upd_ne ne]
        exact ex.tup a vs (by rw [upd_ne ne]; exact ha)
      · have ne : a ≠ φ r := fun e => by rw [e, hu] at ha; exact nf _ _ (Option.some.inj ha)
        rw [upd_ne ne]
        exact ex.frz a o x (by rw [upd_ne ne]; exact ha)
    have open_ : ∀ {s1 s2 : Sto}, openS r s1 = some s2 → (∃ kvs, s1.g r = .dk true kvs ∧ s2 = s1.put r (.dk false kvs)) ∨ ∃ kvs, s1.g r = .dt true kvs ∧ s2 = s1.put r (.dt false kvs) := by
      intro s1 s2 eo
      unfold openS at eo
      split at eo
      · rename_i kvs eg; cases eo; exact .inl ⟨kvs, eg, rfl⟩
      · rename_i kvs eg; cases eo; exact .inr ⟨kvs, eg, rfl⟩
      · cases eo
    cases eg : s.g r with
    | dk lk kvs =>
      rw [eg] at g h
      cases lk with
      | true => cases h
      | false =>
        cases h
        obtain ⟨vs, g1, g2⟩ := g
        have g1 : H (φ r) = some (.dK vs) := g1
        refine ⟨hr, rfl, _, g1, True.intro, (fun _ z => HO.noConfusion z), (fun _ _ z => HO.noConfusion z), key eg rfl g1 True.intro (fun _ z => HO.noConfusion z) (fun _ _ z => HO.noConfusion z) rfl (fun od => ?_) fun od s1 s2 φ1 H1 rs1 hr1 hφ hl eo => ?_⟩
        · exact ⟨vs, ⟨od, upd_same⟩, g2.ext (rs.ext_upd hr (by rw [eg]; rfl))⟩
        · have q := rs1.ob r hr1
          rcases open_ eo with ⟨kvs', eg1, rfl⟩ | ⟨kvs', eg1, rfl⟩
          · rw [eg1] at q
            obtain ⟨vs', ⟨o', q1⟩, q2⟩ := q
            rw [hφ, hl] at q1
            cases q1
            have w1 : (s1.g r).wr = true := by rw [eg1]; rfl
            have e0 := rs1.e0_upd (u := .dK vs) hr1 w1
            rw [hφ] at e0
            exact ⟨_, rfl, w1, vs, upd_same, q2.ext0 e0⟩
          · rw [eg1] at q
            obtain ⟨vs', ⟨o', q1⟩, q2⟩ := q
            rw [hφ, hl] at q1
            cases q1
    | dt lk kvs =>
      rw [eg] at g h
      cases lk with
      | true => cases h
      | false =>
        cases h
        obtain ⟨vs, g1, g2⟩ := g
        have g1 : H (φ r) = some (.dT vs) := g1
        refine ⟨hr, rfl, _, g1, True.intro, (fun _ z => HO.noConfusion z), (fun _ _ z => HO.noConfusion z), key eg rfl g1 True.intro (fun _ z => HO.noConfusion z) (fun _ _ z => HO.noConfusion z) rfl (fun od => ?_) fun od s1 s2 φ1 H1 rs1 hr1 hφ hl eo => ?_⟩
        · exact ⟨vs, ⟨od, upd_same⟩, g2.ext (rs.ext_upd hr (by rw [eg]; rfl))⟩
        · have q := rs1.ob r hr1
          rcases open_ eo with ⟨kvs', eg1, rfl⟩ | ⟨kvs', eg1, rfl⟩
          · rw [eg1] at q
            obtain ⟨vs', ⟨o', q1⟩, q2⟩ := q
            rw [hφ, hl] at q1
            cases q1
          · rw [eg1] at q
            obtain ⟨vs', ⟨o', q1⟩, q2⟩ := q
            rw [hφ, hl] at q1
            cases q1
            have w1 : (s1.g r).wr = true := by rw [eg1]; rfl
            have e0 := rs1.e0_upd (u := .dT vs) hr1 w1
            rw [hφ] at e0
            exact ⟨_, rfl, w1, vs, upd_same, q2.ext0 e0⟩
    | _ => rw [eg] at h; cases h
  · cases h
theorem imp_lock (h : tE S W (mLock ma mb) σ H Q) : tLockE (tE S W0 mb) σ H Q := by
  obtain ⟨φ, ρ, s, re, rs, h⟩ := h
  unfold mLock at h
  cases er : refOf (ma ρ s) with
  | none => rw [er] at h; exact h.elim
  | some r =>
    rw [er] at h
    simp only at h
    cases el : lockS r s with
    | none => rw [el] at h; exact h.elim
    | some s0 =>
      rw [el] at h
      simp only at h
      obtain ⟨hr, hn, u, hu, mt, nt, nf, key⟩ := lock_at rs el
      refine ⟨φ r, u, hu, mt, fun od => ?_⟩
      obtain ⟨ex, rs0, op⟩ := key od
      refine ⟨φ, ρ, s0, re.ext ex, rs0, ?_⟩
      generalize mb ρ s0 = m at h
      cases m with
      | ok d s1 =>
        intro φ1 H1 v e1 rs1 rv1
        have h : Res S W σ s φ H (match openS r s1 with | some s2 => .ok d s2 | none => .bad) Q := h
        cases eo : openS r s1 with
        | none => rw [eo] at h; exact h.elim
        | some s2 =>
          rw [eo] at h
          obtain ⟨h1, h2, h3, h4⟩ := op s1 s2 φ1 H1 e1 rs1 eo
          exact ⟨h1, h φ1 _ v h2 h3 (rv1.ext0 h4)⟩
      | ex c s1 => exact h.elim
      | bad => exact h.elim
end
end Ab
set_option Elab.async false
set_option linter.all false
set_option maxRecDepth 100000
set_option maxHeartbeats 2000000
/-! Ab10: every checked expression means what its term says -/
namespace Ab
open PySem L2

/-- a def of the module at a, that keeps the promise of its meaning; m: levels left beyond it -/
structure FnAt (S : St0) (Γ : Gam) (X : Cx) (f : Nat) (a : Addr) (m : Nat) : Prop where
  ex : ∃ k fd ps, FnOk X.prog X.w X.K X.mg X.base (L2.CX X.prog X.w) k a fd ps (spOf S (Γ.ar f) (Γ.fn f)) ∧ Room (k + m) X.A ∧ Binds X.K fd ps []
/-- a dict of the module, its keys texts, its values constants -/
structure KdOk (S : St0) (w : World) (kvs : List (Str × D)) (a : Addr) : Prop where
  d : ∃ es n, KDict S.K w a es n
  v : ∀ z : Str, (∃ d u v, kvs.lookup z = some d ∧ PySem.W.nsIn S.K a z = some (some u) ∧ RelV v u ∧ ∀ n φ H, RV S.K n φ H v d) ∨ (kvs.lookup z = none ∧ PySem.W.nsIn S.K a z = some none)
structure XOk (S : St0) (I : Inf) (Γ : Gam) (N : List Str) (X : Cx) (sc : Scope) (df : Bool) : Prop where
  hK : X.K = S.K
  hN : X.N = N
  nd : N.Nodup
  sc : X.env.scope = sc
  fn : df = true → ∀ x, X.fn x = true
  calm : X.calm = true
  units : X.A.units + 65 < cLine
  bf : ∀ f : BF, X.mg f.name = none
  isi : X.mg "isinstance" = none
  tys : ∀ T ∈ ["int", "bool", "str", "tuple", "list"], X.mg (Str.ofString T) = none
  rng : X.mg "range" = none
  zip : X.mg "zip" = none
  enm : X.mg "enumerate" = none
  gl : ∀ x g, I.gls.lookup x = some g → ∃ u v, X.mg x = some u ∧ RelV v u ∧ ∀ n φ H, RV S.K n φ H v (Γ.gl g)
  guard : Guard Γ
  fns : ∀ x f, I.fns.lookup x = some f → ∃ a, X.mg x = some (.ref a) ∧ PySem.W.keepIn X.K (.ref a) = true ∧ FnAt S Γ X f a 0
  cls : ∀ x c, I.cls.lookup x = some c → ∃ a, X.mg x = some (.ref (S.cls c)) ∧ Mk X.K (S.cls c) a ∧ FnAt S Γ X (Γ.init c) a 1
  mth : ∀ c m f, I.mth.lookup (c, m) = some f → ∃ a, Cls X.K (S.cls c) ∧ Meth X.K (S.cls c) m a ∧ FnAt S Γ X f a 0
  fld : ∀ f ∈ I.fld, ∀ c, c < Γ.ncls → Cls X.K (S.cls c) ∧ NoAttr X.K (S.cls c) f
  kd : ∀ x g, I.kds.lookup x = some g → ∃ a, X.mg x = some (.ref a) ∧ KdOk S X.w (Γ.kd g) a

section
variable {S : St0} {I : Inf} {Γ : Gam} {N : List Str} {X : Cx} {sc : Scope} {df : Bool}
theorem XOk.vis {x : Str} (h : XOk S I Γ N X sc df) (v : visB sc x = true) : Vis X.env.scope x := by
  rw [h.sc]
  unfold visB at v
  split at v
  · rename_i e; exact .inl e
  · rename_i e; exact .inr (.inl e)
  · rename_i e; exact .inr (.inr e)
  · cases v
theorem XOk.gb {x : Str} (h : XOk S I Γ N X sc df) (v : glB sc x = true) : Gl X x := by
  show X.env.scope.names.lookup x = _
  rw [h.sc]
  unfold glB at v
  split at v
  · rename_i e; exact e
  · cases v
theorem XOk.sto {x : Str} (h : XOk S I Γ N X sc df) (v : stoB df sc x = true) : Loc X.env.scope x ∧ (X.fn x = true ∨ X.env.scope.names.lookup x = some .local) := by
  rw [h.sc]
  unfold stoB at v
  split at v
  · rename_i e; exact ⟨.inl e, .inr e⟩
  · rename_i e; exact ⟨.inr e, .inl (h.fn v x)⟩
  · cases v
theorem XOk.blk (h : XOk S I Γ N X sc df) (s : Shared) (H : Hp) (scope : Scope) (C : Addr) (cl : List (Str × Addr)) (fp : List Addr) : XOk S I Γ N (X.blk s H scope (compEnvC scope cl C X.env) fp) (relS scope sc) false :=
  ⟨h.hK, h.hN, h.nd, by rw [← h.sc]; rfl, fun e => (by cases e), h.calm, h.units, h.bf, h.isi, h.tys, h.rng, h.zip, h.enm, h.gl, h.guard,
    fun x f e => let ⟨a, h1, h2, ⟨h3⟩⟩ := h.fns x f e; ⟨a, h1, h2, ⟨h3⟩⟩, fun x c e => let ⟨a, h1, h2, ⟨h3⟩⟩ := h.cls x c e; ⟨a, h1, h2, ⟨h3⟩⟩, fun c m f e => let ⟨a, h1, h2, ⟨h3⟩⟩ := h.mth c m f e; ⟨a, h1, h2, ⟨h3⟩⟩, h.fld, h.kd⟩
theorem nodbg {x : Str} (h : (!(x == ("__debug__" : Str))) = true) : (x == ("__debug__" : Str)) = false := by
  cases e : (x == ("__debug__" : Str)) with
  | false => rfl
  | true => rw [e] at h; cases h
end

section
variable (S : St0) (I : Inf) (Γ : Gam) (N : List Str)
structure Snd (e : E) : Prop where
  pe : ∀ {x : Expr} {X : Cx} {sc : Scope} {df : Bool} {W : WX}, XOk S I Γ N X sc df → Takes X W → chk I N sc e x = true → PE X x (tE S W (ev Γ e))
  pt : ∀ {x : Expr} {X : Cx} {sc : Scope} {df : Bool} {W : WX}, XOk S I Γ N X sc df → Takes X W → chk I N sc e x = true → PT X x (tT S W (evT Γ e))
  pw : ∀ {op : BoolOp} {xs : List Expr} {p : Pos} {X : Cx} {sc : Scope} {df : Bool} {W : WX}, XOk S I Γ N X sc df → Takes X W → chk I N sc e (.BoolOp op xs p) = true → PW X (.BoolOp op xs p) (tT S W (evT Γ e))
structure Snds (es : Es) : Prop where
  pa : ∀ {xs : List Expr} {X : Cx} {sc : Scope} {df : Bool} {W : WX}, XOk S I Γ N X sc df → Takes X W → chks I N sc es xs = true → PA X xs (tL S W (evs Γ es)) ∧ xs.all noStar = true ∧ (xs = [] → evs Γ es = fun _ s => .ok [] s)
  pd0 : ∀ {ks : List (Option Expr)} {vs : List Expr} {X : Cx} {sc : Scope} {df : Bool} {W : WX} {pos : Pos}, XOk S I Γ N X sc df → Takes X W → chkD I N sc es ks vs = true →
    ks.all (·.isSome) = true ∧ ks.length = vs.length ∧ ∃ trs, PPs X pos ks vs trs ∧ ∀ (σ : St) (H : Hp) (Q : List (V × V) → Hp → Prop), (∃ φ ρ s, RE S s.n φ H ρ σ ∧ RS S φ H s ∧ ResP S W σ s φ H (evD Γ es ρ s) Q) → tPairs trs σ H Q
  pd1 : ∀ {ks : List (Option Expr)} {vs : List Expr} {X : Cx} {sc : Scope} {df : Bool} {W : WX} {pos : Pos}, XOk S I Γ N X sc df → Takes X W → chkD1 I N sc es ks vs = true →
    ks.all (·.isSome) = true ∧ ks.length + 1 = vs.length ∧ ∃ tv trs, (∀ (kx : Expr) (tk : TE), PE X kx tk → PPs X pos (some kx :: ks) vs ((tk, tv) :: trs)) ∧
      ∀ (k : Key) (σ : St) (H : Hp) (Q : List (V × V) → Hp → Prop), (∃ φ ρ s, RE S s.n φ H ρ σ ∧ RS S φ H s ∧ ResP S W σ s φ H (evD1 Γ es k ρ s) Q) → tv σ H fun y H2 => tPairs trs σ H2 fun ps H3 => Q ((kV k, y) :: ps) H3
  pj : ∀ {xs : List Expr} {X : Cx} {sc : Scope} {df : Bool} {W : WX}, XOk S I Γ N X sc df → Takes X W → chkJ I N sc es xs = true →
    ∃ ts, PJ X xs ts ∧ ∀ (σ : St) (acc : Str) (H : Hp) (Q : Str → Hp → Prop), (∃ φ ρ s, RE S s.n φ H ρ σ ∧ RS S φ H s ∧ ResA S W σ s φ H (evJ Γ es acc ρ s) fun z _ _ H => Q z H) → tJs ts acc σ H Q
structure SndO (o : Op) : Prop where
  po : ∀ {x : Option Expr} {X : Cx} {sc : Scope} {df : Bool} {W : WX}, XOk S I Γ N X sc df → Takes X W → chkO I N sc o x = true → PO X x (tOI S W (evO Γ o))
  pf : ∀ {xs : List Expr} {X : Cx} {sc : Scope} {df : Bool} {W : WX}, XOk S I Γ N X sc df → Takes X W → chkF I N sc o xs = true → PTs X xs (tT S W (evC Γ o))
structure SndI (it : It) : Prop where
  pi : ∀ {tg x : Expr} {X : Cx} {sc : Scope} {df : Bool} {W : WX}, XOk S I Γ N X sc df → Takes X W → chkI I N sc it tg x = true → PI X tg x (tI S W (evI Γ it))
end
section
variable {S : St0} {I : Inf} {Γ : Gam} {N : List Str}
theorem pt_bad {X : Cx} {x : Expr} {W : WX} : PT X x (tT S W fun _ _ => .bad) := ⟨fun _ _ _ _ _ _ h => by
  obtain ⟨_, _, _, _, _, h⟩ := h
  exact h.elim⟩
theorem pt_dup {X : Cx} {sc : Scope} {df : Bool} {x : Expr} {W : WX} {m : Env → Sto → R D} (h : XOk S I Γ N X sc df) (hp : PE X x (tE S W m)) (ht : plainTest x = true) : PT X x (tT S W fun ρ s => (m ρ s).bind truR) :=
  pt_imp (pt_truth hp (test_plain ht)) fun σ H Q q => by
    rw [h.hK]
    exact imp_tru q
/-- a term whose test is its value's truth -/
theorem Snd.dup {e : E} {m : Env → Sto → R D} (he : ev2 Γ e = Ab.dup m) (hp : ∀ {x : Expr} {X : Cx} {sc : Scope} {df : Bool} {W : WX}, XOk S I Γ N X sc df → Takes X W → chk I N sc e x = true → PE X x (tE S W m))
    (ht : ∀ {x : Expr} {sc : Scope}, chk I N sc e x = true → plainTest x = true) : Snd S I Γ N e where
  pe := fun h tk c => by
    show PE _ _ (tE S _ (ev2 Γ e).1)
    rw [he]
    exact hp h tk c
  pt := fun h tk c => by
    show PT _ _ (tT S _ (ev2 Γ e).2)
    rw [he]
    exact pt_dup h (hp h tk c) (ht c)
  pw := fun h tk c => by
    have := ht c
    cases this
theorem po_imp {X : Cx} {e : Option Expr} {t t' : TO} (h : PO X e t) (i : ∀ σ H Q, t' σ H Q → t σ H Q) : PO X e t' := ⟨fun pins s σ H Q I q => h.run pins s σ H Q I (i σ H Q q)⟩
theorem pts_imp {X : Cx} {e : List Expr} {t t' : TT} (h : PTs X e t) (i : ∀ σ H Q, t' σ H Q → t σ H Q) : PTs X e t' := ⟨fun pins s σ H Q I q => h.run pins s σ H Q I (i σ H Q q)⟩

theorem snd_var (i : Nat) : Snd S I Γ N (.var i) := by
  refine .dup rfl (fun {x X sc df W} h tk c => ?_) (fun {x sc} c => ?_)
  · cases x with
    | Name n p =>
      simp only [chk, Bool.and_eq_true, decide_eq_true_eq] at c
      obtain ⟨⟨⟨c1, c2⟩, c3⟩, c4⟩ := c
      refine pe_imp (pe_var (i := i) (by rw [h.hN]; exact c1) (h.vis c2) (nodbg c3) (by
        cases e : (n == ("__classdict__" : Str)) with
        | false => rfl
        | true => rw [e] at c4; cases c4)) fun σ H Q q => ?_
      obtain ⟨φ, ρ, s, re, rs, q⟩ := q
      unfold mVar at q
      split at q
      · rename_i d e
        obtain ⟨v, h1, h2⟩ := re.2 i d e
        exact ⟨v, h1, Res.here q rs h2⟩
      · exact q.elim
    | _ => exact Bool.noConfusion (show false = true from c)
  · cases x with
    | Name n p => rfl
    | _ => exact Bool.noConfusion (show false = true from c)
theorem snd_cst (d : D) : Snd S I Γ N (.cst d) := by
  refine .dup rfl (fun {x X sc df W} h tk c => ?_) (fun {x sc} c => ?_)
  · cases x with
    | Constant k a p =>
      simp only [chk] at c
      have fin : ∀ {v : V}, (∀ n φ H, RV S.K n φ H v d) → ∀ σ H Q, tE S W (fun _ s => .ok d s) σ H Q → tC v σ H Q := fun hv σ H Q q => by
        obtain ⟨φ, ρ, s, re, rs, q⟩ := q
        exact Res.here q rs (hv _ _ _)
      cases d <;> cases k <;> first
        | exact Bool.noConfusion (show false = true from c)
        | exact pe_imp pe_non (fin fun _ _ _ => .non)
        | (cases of_decide_eq_true (show decide _ = true from c); exact pe_imp pe_bl (fin fun _ _ _ => .bl _))
        | (cases of_decide_eq_true (show decide _ = true from c); exact pe_imp pe_int (fin fun _ _ _ => .int _))
        | (cases of_decide_eq_true (show decide _ = true from c); exact pe_imp pe_str (fin fun _ _ _ => .str _))
    | _ => exact Bool.noConfusion (show false = true from c)
  · cases x with
    | Constant k a p => rfl
    | _ => exact Bool.noConfusion (show false = true from c)
theorem snd_glob (g : Nat) : Snd S I Γ N (.glob g) := by
  refine .dup rfl (fun {x X sc df W} h tk c => ?_) (fun {x sc} c => ?_)
  · cases x with
    | Name n p =>
      simp only [chk, Bool.and_eq_true, decide_eq_true_eq] at c
      obtain ⟨⟨c1, c2⟩, c3⟩ := c
      obtain ⟨u, v, h1, h2, h3⟩ := h.gl n g c2
      refine pe_imp (pe_glob (h.gb c1) h1 h2 (nodbg c3)) fun σ H Q q => ?_
      obtain ⟨φ, ρ, s, re, rs, q⟩ := q
      exact Res.here q rs (h3 _ _ _)
    | _ => exact Bool.noConfusion (show false = true from c)
  · cases x with
    | Name n p => rfl
    | _ => exact Bool.noConfusion (show false = true from c)
theorem snd_bin (o : BO) {a b : E} (A : Snd S I Γ N a) (B : Snd S I Γ N b) : Snd S I Γ N (.bin o a b) := by
  refine .dup rfl (fun {x X sc df W} h tk c => ?_) (fun {x sc} c => ?_)
  · cases x with
    | BinOp l op r p =>
      simp only [chk, Bool.and_eq_true, decide_eq_true_eq] at c
      obtain ⟨⟨rfl, c2⟩, c3⟩ := c
      exact pe_imp (pe_op (op_sound h.hK o) (A.pe h tk c2) (B.pe h tk c3)) fun σ H Q q => imp2 q
    | _ => exact Bool.noConfusion (show false = true from c)
  · cases x with
    | BinOp l op r p => rfl
    | _ => exact Bool.noConfusion (show false = true from c)
theorem snd_neg {a : E} (A : Snd S I Γ N a) : Snd S I Γ N (.neg a) := by
  refine .dup rfl (fun {x X sc df W} h tk c => ?_) (fun {x sc} c => ?_)
  · cases x with
    | UnaryOp op r p =>
      simp only [chk, Bool.and_eq_true, decide_eq_true_eq] at c
      obtain ⟨rfl, c2⟩ := c
      exact pe_imp (pe_un neg_sound (A.pe h tk c2)) fun σ H Q q => imp1 q
    | _ => exact Bool.noConfusion (show false = true from c)
  · cases x with
    | UnaryOp op r p =>
      simp only [chk, Bool.and_eq_true, decide_eq_true_eq] at c
      obtain ⟨rfl, c2⟩ := c
      rfl
    | _ => exact Bool.noConfusion (show false = true from c)
theorem cmp_inv {sc : Scope} {o : CO} {a b : E} {x : Expr} (c : chk I N sc (.cmp o a b) x = true) : ∃ l r p, x = .Compare l [o.ast] [r] p ∧ noSet r = true ∧ chk I N sc a l = true ∧ chk I N sc b r = true := by
  cases x with
  | Compare l ops rs p =>
    cases ops with
    | nil => exact Bool.noConfusion (show false = true from c)
    | cons op ops =>
      cases ops with
      | cons _ _ => exact Bool.noConfusion (show false = true from c)
      | nil =>
        cases rs with
        | nil => exact Bool.noConfusion (show false = true from c)
        | cons r rs =>
          cases rs with
          | cons _ _ => exact Bool.noConfusion (show false = true from c)
          | nil =>
            simp only [chk, Bool.and_eq_true, decide_eq_true_eq] at c
            obtain ⟨⟨⟨rfl, c2⟩, c3⟩, c4⟩ := c
            exact ⟨l, r, p, rfl, c2, c3, c4⟩
  | _ => exact Bool.noConfusion (show false = true from c)
theorem snd_cmp (o : CO) {a b : E} (A : Snd S I Γ N a) (B : Snd S I Γ N b) : Snd S I Γ N (.cmp o a b) where
  pe := fun h tk c => by
    obtain ⟨l, r, p, rfl, c2, c3, c4⟩ := cmp_inv c
    exact pe_imp (pe_cmpR (cmp_sound h.hK h.units o) (A.pe h tk c3) (B.pe h tk c4) (marks_no c2)) fun σ H Q q => imp2 q
  pt := fun h tk c => by
    obtain ⟨l, r, p, rfl, c2, c3, c4⟩ := cmp_inv c
    exact pt_imp (pt_cmpR (cmp_sound h.hK h.units o) (A.pe h tk c3) (B.pe h tk c4) (marks_no c2)) fun σ H Q q => imp2T q
  pw := fun h tk c => by exact Bool.noConfusion (show false = true from c)
theorem chain_inv {sc : Scope} {o o' : CO} {a b d : E} {x : Expr} (c : chk I N sc (.chain o o' a b d) x = true) : ∃ l r z p, x = .Compare l [o.ast, o'.ast] [r, z] p ∧ noSet z = true ∧ chk I N sc a l = true ∧ chk I N sc b r = true ∧ chk I N sc d z = true := by
  cases x with
  | Compare l ops rs p =>
    cases ops with
    | nil => exact Bool.noConfusion (show false = true from c)
    | cons op ops =>
      cases ops with
      | nil => exact Bool.noConfusion (show false = true from c)
      | cons op2 ops =>
        cases ops with
        | cons _ _ => exact Bool.noConfusion (show false = true from c)
        | nil =>
          cases rs with
          | nil => exact Bool.noConfusion (show false = true from c)
          | cons r rs =>
            cases rs with
            | nil => exact Bool.noConfusion (show false = true from c)
            | cons z rs =>
              cases rs with
              | cons _ _ => exact Bool.noConfusion (show false = true from c)
              | nil =>
                simp only [chk, Bool.and_eq_true, decide_eq_true_eq] at c
                obtain ⟨⟨⟨⟨⟨rfl, rfl⟩, c2⟩, c3⟩, c4⟩, c5⟩ := c
                exact ⟨l, r, z, p, rfl, c2, c3, c4, c5⟩
  | _ => exact Bool.noConfusion (show false = true from c)
theorem snd_chain (o o' : CO) {a b d : E} (A : Snd S I Γ N a) (B : Snd S I Γ N b) (C : Snd S I Γ N d) : Snd S I Γ N (.chain o o' a b d) where
  pe := fun h tk c => by
    obtain ⟨l, r, z, p, rfl, c2, c3, c4, c5⟩ := chain_inv c
    exact pe_imp (pe_chain (cmp_sound h.hK h.units o) (cmp_sound h.hK h.units o') (A.pe h tk c3) (B.pe h tk c4) (C.pe h tk c5) (last_marks c2)) fun σ H Q q => imp_chain q
  pt := fun h tk c => by
    obtain ⟨l, r, z, p, rfl, c2, c3, c4, c5⟩ := chain_inv c
    exact pt_imp (pt_chain (cmp_sound h.hK h.units o) (cmp_sound h.hK h.units o') (A.pe h tk c3) (B.pe h tk c4) (C.pe h tk c5) (last_marks c2)) fun σ H Q q => imp_chainT q
  pw := fun h tk c => by exact Bool.noConfusion (show false = true from c)
theorem and_inv {sc : Scope} {a b : E} {x : Expr} (c : chk I N sc (.and a b) x = true) : ∃ l m r p, x = .BoolOp .And (l :: m :: r) p ∧ chk I N sc a l = true ∧ ((r = [] ∧ chk I N sc b m = true) ∨ chk I N sc b (.BoolOp .And (m :: r) p) = true) := by
  cases x with
  | BoolOp op xs p =>
    cases op with
    | Or => exact Bool.noConfusion (show false = true from c)
    | And =>
      cases xs with
      | nil => exact Bool.noConfusion (show false = true from c)
      | cons l xs =>
        cases xs with
        | nil => exact Bool.noConfusion (show false = true from c)
        | cons m r =>
          simp only [chk, Bool.and_eq_true] at c
          refine ⟨l, m, r, p, rfl, c.1, ?_⟩
          cases r with
          | nil => exact .inl ⟨rfl, c.2⟩
          | cons _ _ => exact .inr c.2
  | _ => exact Bool.noConfusion (show false = true from c)
theorem snd_and {a b : E} (A : Snd S I Γ N a) (B : Snd S I Γ N b) : Snd S I Γ N (.and a b) := by
  have pw : ∀ {op : BoolOp} {xs : List Expr} {p : Pos} {X : Cx} {sc : Scope} {df : Bool} {W : WX}, XOk S I Γ N X sc df → Takes X W → chk I N sc (.and a b) (.BoolOp op xs p) = true → PW X (.BoolOp op xs p) (tT S W (evT Γ (.and a b))) := fun h tk c => by
    obtain ⟨l, m, r, p, e, c1, c2⟩ := and_inv c
    cases e
    rcases c2 with ⟨rfl, c2⟩ | c2
    · exact pw_imp (pw_and (A.pt h tk c1) (pw_and1 (B.pt h tk c2))) fun σ H Q q => imp_andT q
    · exact pw_imp (pw_and (A.pt h tk c1) (B.pw h tk c2)) fun σ H Q q => imp_andT q
  refine ⟨fun h tk c => ?_, fun h tk c => ?_, pw⟩
  · obtain ⟨l, m, r, p, rfl, c1, c2⟩ := and_inv c
    rcases c2 with ⟨rfl, c2⟩ | c2
    · exact pe_imp (pe_and (A.pe h tk c1) (pe_one (B.pe h tk c2))) fun σ H Q q => imp_and q
    · exact pe_imp (pe_and (A.pe h tk c1) (B.pe h tk c2)) fun σ H Q q => imp_and q
  · obtain ⟨l, m, r, p, rfl, c1, c2⟩ := and_inv c
    exact (pw h tk c).pt
theorem or_inv {sc : Scope} {a b : E} {x : Expr} (c : chk I N sc (.or a b) x = true) : ∃ l m r p, x = .BoolOp .Or (l :: m :: r) p ∧ chk I N sc a l = true ∧ ((r = [] ∧ chk I N sc b m = true) ∨ chk I N sc b (.BoolOp .Or (m :: r) p) = true) := by
  cases x with
  | BoolOp op xs p =>
    cases op with
    | And => exact Bool.noConfusion (show false = true from c)
    | Or =>
      cases xs with
      | nil => exact Bool.noConfusion (show false = true from c)
      | cons l xs =>
        cases xs with
        | nil => exact Bool.noConfusion (show false = true from c)
        | cons m r =>
          simp only [chk, Bool.and_eq_true] at c
          refine ⟨l, m, r, p, rfl, c.1, ?_⟩
          cases r with
          | nil => exact .inl ⟨rfl, c.2⟩
          | cons _ _ => exact .inr c.2
  | _ => exact Bool.noConfusion (show false = true from c)
theorem snd_or {a b : E} (A : Snd S I Γ N a) (B : Snd S I Γ N b) : Snd S I Γ N (.or a b) := by
  have pw : ∀ {op : BoolOp} {xs : List Expr} {p : Pos} {X : Cx} {sc : Scope} {df : Bool} {W : WX}, XOk S I Γ N X sc df → Takes X W → chk I N sc (.or a b) (.BoolOp op xs p) = true → PW X (.BoolOp op xs p) (tT S W (evT Γ (.or a b))) := fun h tk c => by
    obtain ⟨l, m, r, p, e, c1, c2⟩ := or_inv c
    cases e
    rcases c2 with ⟨rfl, c2⟩ | c2
    · exact pw_imp (pw_or (A.pt h tk c1) (pw_or1 (B.pt h tk c2))) fun σ H Q q => imp_orT q
    · exact pw_imp (pw_or (A.pt h tk c1) (B.pw h tk c2)) fun σ H Q q => imp_orT q
  refine ⟨fun h tk c => ?_, fun h tk c => ?_, pw⟩
  · obtain ⟨l, m, r, p, rfl, c1, c2⟩ := or_inv c
    rcases c2 with ⟨rfl, c2⟩ | c2
    · exact pe_imp (pe_or (A.pe h tk c1) (pe_one (B.pe h tk c2))) fun σ H Q q => imp_or q
    · exact pe_imp (pe_or (A.pe h tk c1) (B.pe h tk c2)) fun σ H Q q => imp_or q
  · obtain ⟨l, m, r, p, rfl, c1, c2⟩ := or_inv c
    exact (pw h tk c).pt
theorem not_inv {sc : Scope} {a : E} {x : Expr} (c : chk I N sc (.not a) x = true) : ∃ l p, x = .UnaryOp .Not l p ∧ chk I N sc a l = true := by
  cases x with
  | UnaryOp op r p =>
    simp only [chk, Bool.and_eq_true, decide_eq_true_eq] at c
    obtain ⟨rfl, c2⟩ := c
    exact ⟨r, p, rfl, c2⟩
  | _ => exact Bool.noConfusion (show false = true from c)
theorem snd_not {a : E} (A : Snd S I Γ N a) : Snd S I Γ N (.not a) where
  pe := fun h tk c => by
    obtain ⟨l, p, rfl, c1⟩ := not_inv c
    exact pe_imp (pe_not (A.pe h tk c1)) fun σ H Q q => imp_not q
  pt := fun h tk c => by
    obtain ⟨l, p, rfl, c1⟩ := not_inv c
    exact pt_imp (pt_not (A.pt h tk c1)) fun σ H Q q => imp_notT q
  pw := fun h tk c => by exact Bool.noConfusion (show false = true from c)
theorem snd_ite {d a b : E} (C : Snd S I Γ N d) (A : Snd S I Γ N a) (B : Snd S I Γ N b) : Snd S I Γ N (.ite d a b) where
  pe := fun {x X sc df W} h tk c => by
    cases x with
    | IfExp t l r p =>
      simp only [chk, Bool.and_eq_true] at c
      obtain ⟨⟨c1, c2⟩, c3⟩ := c
      exact pe_imp (pe_ifExp (C.pt h tk c1) (A.pe h tk c2) (B.pe h tk c3)) fun σ H Q q => imp_ite q
    | _ => exact Bool.noConfusion (show false = true from c)
  pt := fun h tk c => pt_bad
  pw := fun h tk c => by exact Bool.noConfusion (show false = true from c)
theorem snd_ix {a b : E} (A : Snd S I Γ N a) (B : Snd S I Γ N b) : Snd S I Γ N (.ix a b) := by
  refine .dup rfl (fun {x X sc df W} h tk c => ?_) (fun {x sc} c => ?_)
  · cases x with
    | Subscript l r p =>
      simp only [chk, Bool.and_eq_true] at c
      obtain ⟨⟨c1, c2⟩, c3⟩ := c
      exact pe_imp (pe_ix (ix_sound h.hK (by have := h.units; omega)) (A.pe h tk c2) (B.pe h tk c3) (plainIx c1)) fun σ H Q q => imp2 q
    | _ => exact Bool.noConfusion (show false = true from c)
  · cases x with
    | Subscript l r p => rfl
    | _ => exact Bool.noConfusion (show false = true from c)
end
end Ab
set_option Elab.async false
set_option linter.all false
set_option maxRecDepth 100000
set_option maxHeartbeats 2000000
/-! Ab11: every checked expression means what its term says (the rest) -/
namespace Ab
open PySem L2
section
variable {S : St0} {I : Inf} {Γ : Gam} {N : List Str}
theorem sl_inv {sc : Scope} {a : E} {lo hi : Op} {x : Expr} (c : chk I N sc (.sl a lo hi) x = true) : ∃ l u v q p, x = .Subscript l (.Slice u v none q) p ∧ chk I N sc a l = true ∧ chkO I N sc lo u = true ∧ chkO I N sc hi v = true := by
  cases x with
  | Subscript l r p =>
    cases r with
    | Slice u v w q =>
      cases w with
      | none =>
        simp only [chk, Bool.and_eq_true] at c
        exact ⟨l, u, v, q, p, rfl, c.1.1, c.1.2, c.2⟩
      | some _ => exact Bool.noConfusion (show false = true from c)
    | _ => exact Bool.noConfusion (show false = true from c)
  | _ => exact Bool.noConfusion (show false = true from c)
theorem snd_sl {a : E} {lo hi : Op} (A : Snd S I Γ N a) (L : SndO S I Γ N lo) (U : SndO S I Γ N hi) : Snd S I Γ N (.sl a lo hi) := by
  refine .dup rfl (fun {x X sc df W} h tk c => ?_) (fun {x sc} c => ?_)
  · obtain ⟨l, u, v, q, p, rfl, c1, c2, c3⟩ := sl_inv c
    exact pe_imp (pe_slice (sl_sound h.hK) (A.pe h tk c1) (L.po h tk c2) (U.po h tk c3)) fun σ H Q q => imp_sl q
  · obtain ⟨l, u, v, q, p, rfl, c1, c2, c3⟩ := sl_inv c
    rfl
theorem rev_inv {sc : Scope} {a : E} {x : Expr} (c : chk I N sc (.rev a) x = true) : ∃ l k p1 p2 p3 p, x = .Subscript l (.Slice none none (some (.UnaryOp .USub (.Constant (.int 1) k p1) p2)) p3) p ∧ chk I N sc a l = true := by
  cases x with
  | Subscript l r p =>
    cases r with
    | Slice u v w q =>
      cases u with
      | some _ => cases w <;> exact Bool.noConfusion (show false = true from c)
      | none =>
        cases v with
        | some _ => cases w <;> exact Bool.noConfusion (show false = true from c)
        | none =>
          cases w with
          | none => exact Bool.noConfusion (show false = true from c)
          | some w =>
            cases w with
            | UnaryOp op y p2 =>
              cases y with
              | Constant kk k p1 =>
                cases kk with
                | int i =>
                  simp only [chk, Bool.and_eq_true, decide_eq_true_eq] at c
                  obtain ⟨⟨rfl, rfl⟩, c3⟩ := c
                  exact ⟨l, k, p1, p2, q, p, rfl, c3⟩
                | _ => exact Bool.noConfusion (show false = true from c)
              | _ => exact Bool.noConfusion (show false = true from c)
            | _ => exact Bool.noConfusion (show false = true from c)
    | _ => exact Bool.noConfusion (show false = true from c)
  | _ => exact Bool.noConfusion (show false = true from c)
theorem snd_rev {a : E} (A : Snd S I Γ N a) : Snd S I Γ N (.rev a) := by
  refine .dup rfl (fun {x X sc df W} h tk c => ?_) (fun {x sc} c => ?_)
  · obtain ⟨l, k, p1, p2, p3, p, rfl, c1⟩ := rev_inv c
    refine pe_imp (pe_revL (A.pe h tk c1)) fun σ H Q q => ?_
    rw [h.hK]
    exact imp_rev q
  · obtain ⟨l, k, p1, p2, p3, p, rfl, c1⟩ := rev_inv c
    rfl
theorem snd_tup {es : Es} (A : Snds S I Γ N es) : Snd S I Γ N (.tup es) := by
  refine .dup rfl (fun {x X sc df W} h tk c => ?_) (fun {x sc} c => ?_)
  · cases x with
    | Tuple xs k p => exact pe_imp (pe_tup (A.pa h tk c).1) fun σ H Q q => imp_tup q
    | _ => exact Bool.noConfusion (show false = true from c)
  · cases x with
    | Tuple xs k p => rfl
    | _ => exact Bool.noConfusion (show false = true from c)
theorem snd_lst {es : Es} (A : Snds S I Γ N es) : Snd S I Γ N (.lst es) := by
  refine .dup rfl (fun {x X sc df W} h tk c => ?_) (fun {x sc} c => ?_)
  · cases x with
    | List xs p => exact pe_imp (pe_lst (A.pa h tk c).1) fun σ H Q q => imp_lst q
    | _ => exact Bool.noConfusion (show false = true from c)
  · cases x with
    | List xs p => rfl
    | _ => exact Bool.noConfusion (show false = true from c)
theorem snd_dnew (k : Bool) : Snd S I Γ N (.dnew k) := by
  have inv : ∀ {x : Expr} {sc : Scope}, chk I N sc (.dnew k) x = true → ∃ p, x = .Dict [] [] p := fun {x sc} c => by
    cases x with
    | Dict ks vs p =>
      cases ks with
      | nil =>
        cases vs with
        | nil => exact ⟨p, rfl⟩
        | cons _ _ => exact Bool.noConfusion (show false = true from c)
      | cons _ _ => exact Bool.noConfusion (show false = true from c)
    | _ => exact Bool.noConfusion (show false = true from c)
  refine .dup rfl (fun {x X sc df W} h tk c => ?_) (fun {x sc} c => ?_)
  · obtain ⟨p, rfl⟩ := inv c
    cases k with
    | true => exact pe_imp pe_dnewK fun σ H Q q => imp_dnewK q
    | false => exact pe_imp pe_dnewT fun σ H Q q => imp_dnewT q
  · obtain ⟨p, rfl⟩ := inv c
    rfl
theorem snd_fld {a : E} {f : Str} (A : Snd S I Γ N a) : Snd S I Γ N (.fld a f) := by
  refine .dup rfl (fun {x X sc df W} h tk c => ?_) (fun {x sc} c => ?_)
  · cases x with
    | Attribute o g p =>
      simp only [chk, Bool.and_eq_true, decide_eq_true_eq] at c
      obtain ⟨⟨⟨rfl, c2⟩, c3⟩, c4⟩ := c
      refine pe_imp (pe_fld (A.pe h tk c4) (base_of c3)) fun σ H Q q => ?_
      rw [h.hK]
      exact imp_fld (fun k hk => by have := h.fld f c2 k hk; rwa [h.hK] at this) q
    | _ => exact Bool.noConfusion (show false = true from c)
  · cases x with
    | Attribute o g p => rfl
    | _ => exact Bool.noConfusion (show false = true from c)
/-- f(..) by a name -/
theorem call_inv {sc : Scope} {f : Nat} {es : Es} {x : Expr} (c : chk I N sc (.call f es) x = true) : ∃ n p1 xs p, x = .Call (.Name n p1) xs [] p ∧ glB sc n = true ∧ (n == ("__debug__" : Str)) = false ∧ I.fns.lookup n = some f ∧ chks I N sc es xs = true := by
  cases x with
  | Call fn xs ks p =>
    cases fn with
    | Name n p1 =>
      cases ks with
      | nil =>
        simp only [chk, Bool.and_eq_true, decide_eq_true_eq] at c
        exact ⟨n, p1, xs, p, rfl, c.1.1.1, nodbg c.1.1.2, c.1.2, c.2⟩
      | cons _ _ => exact Bool.noConfusion (show false = true from c)
    | _ => exact Bool.noConfusion (show false = true from c)
  | _ => exact Bool.noConfusion (show false = true from c)
theorem nil_imp {W : WX} {es : Es} {σ : St} {H : Hp} {Q : List V → Hp → Prop} (e : evs Γ es = fun _ s => .ok [] s) (h : tL S W (evs Γ es) σ H Q) : tNil σ H Q := by
  obtain ⟨φ, ρ, s, re, rs, h⟩ := h
  rw [e] at h
  exact h φ H [] .refl rs .nil
theorem snd_call {f : Nat} {es : Es} (A : Snds S I Γ N es) : Snd S I Γ N (.call f es) := by
  refine .dup rfl (fun {x X sc df W} h tk c => ?_) (fun {x sc} c => ?_)
  · obtain ⟨n, p1, xs, p, rfl, c1, c2, c3, c4⟩ := call_inv c
    obtain ⟨a, h1, h2, ⟨k, fd, ps, F, hr, hb⟩⟩ := h.fns n f c3
    obtain ⟨pa, ns, en⟩ := A.pa h tk c4
    cases xs with
    | nil =>
      refine pe_imp (pe_callS0 F (hr.mono (Nat.le_add_right _ _)) (h.gb c1) h1 h2 hb (passAt tk) c2) fun σ H Q q => ?_
      exact nil_imp (en rfl) (imp_call h.guard q)
    | cons y ys =>
      rw [List.all_cons, Bool.and_eq_true] at ns
      exact pe_imp (pe_callS F (hr.mono (Nat.le_add_right _ _)) (h.gb c1) h1 h2 hb (passAt tk) pa c2 (star_cons ns.1) (back_plain ns.2)) fun σ H Q q => imp_call h.guard q
  · obtain ⟨n, p1, xs, p, rfl, c1, c2, c3, c4⟩ := call_inv c
    rfl
theorem make_inv {sc : Scope} {f : Nat} {es : Es} {x : Expr} (c : chk I N sc (.make f es) x = true) : ∃ n p1 xs p, x = .Call (.Name n p1) xs [] p ∧ glB sc n = true ∧ (n == ("__debug__" : Str)) = false ∧ I.cls.lookup n = some f ∧ chks I N sc es xs = true := by
  cases x with
  | Call fn xs ks p =>
    cases fn with
    | Name n p1 =>
      cases ks with
      | nil =>
        simp only [chk, Bool.and_eq_true, decide_eq_true_eq] at c
        exact ⟨n, p1, xs, p, rfl, c.1.1.1, nodbg c.1.1.2, c.1.2, c.2⟩
      | cons _ _ => exact Bool.noConfusion (show false = true from c)
    | _ => exact Bool.noConfusion (show false = true from c)
  | _ => exact Bool.noConfusion (show false = true from c)
theorem snd_make {f : Nat} {es : Es} (A : Snds S I Γ N es) : Snd S I Γ N (.make f es) := by
  refine .dup rfl (fun {x X sc df W} h tk c => ?_) (fun {x sc} c => ?_)
  · obtain ⟨n, p1, xs, p, rfl, c1, c2, c3, c4⟩ := make_inv c
    obtain ⟨a, h1, h2, ⟨k, fd, ps, F, hr, hb⟩⟩ := h.cls n f c3
    obtain ⟨pa, ns, en⟩ := A.pa h tk c4
    cases xs with
    | nil =>
      refine pe_imp (pe_makeS0 h2 F hr (h.gb c1) h1 hb (passAt tk) c2) fun σ H Q q => ?_
      exact nil_imp (en rfl) (imp_make h.guard q)
    | cons y ys =>
      exact pe_imp (pe_makeS h2 F hr (h.gb c1) h1 hb (passAt tk) pa c2 ns) fun σ H Q q => imp_make h.guard q
  · obtain ⟨n, p1, xs, p, rfl, c1, c2, c3, c4⟩ := make_inv c
    rfl
theorem meth_inv {sc : Scope} {k f : Nat} {m : Str} {o : E} {es : Es} {x : Expr} (c : chk I N sc (.meth k f m o es) x = true) : ∃ y ap xs p, x = .Call (.Attribute y m ap) xs [] p ∧ I.mth.lookup (k, m) = some f ∧ plainRecv y = true ∧ xs.length < 30 ∧ (ap.endLine == p.line) = true ∧ chk I N sc o y = true ∧ chks I N sc es xs = true := by
  cases x with
  | Call fn xs ks p =>
    cases fn with
    | Attribute y m' ap =>
      cases ks with
      | nil =>
        simp only [chk, Bool.and_eq_true, decide_eq_true_eq] at c
        obtain ⟨⟨⟨⟨⟨⟨rfl, c2⟩, c3⟩, c4⟩, c5⟩, c6⟩, c7⟩ := c
        exact ⟨y, ap, xs, p, rfl, c2, c3, c4, c5, c6, c7⟩
      | cons _ _ => exact Bool.noConfusion (show false = true from c)
    | _ => exact Bool.noConfusion (show false = true from c)
  | _ => exact Bool.noConfusion (show false = true from c)
theorem snd_meth {k f : Nat} {m : Str} {o : E} {es : Es} (O : Snd S I Γ N o) (A : Snds S I Γ N es) : Snd S I Γ N (.meth k f m o es) := by
  refine .dup rfl (fun {x X sc df W} h tk c => ?_) (fun {x sc} c => ?_)
  · obtain ⟨y, ap, xs, p, rfl, c1, c2, c3, c4, c5, c6⟩ := meth_inv c
    obtain ⟨a, h1, h2, ⟨l, fd, ps, F, hr, hb⟩⟩ := h.mth k m f c1
    obtain ⟨pa, ns, en⟩ := A.pa h tk c6
    cases xs with
    | nil =>
      refine pe_imp (pe_methS0 (O.pe h tk c5) h1 h2 F (hr.mono (Nat.le_add_right _ _)) hb (passAt tk) c2 c4) fun σ H Q q => ?_
      obtain ⟨φ, ρ, s, re, rs, q⟩ := imp_meth h.guard q
      refine ⟨φ, ρ, s, re, rs, q.mono fun v H1 ⟨a, dx, fs, e1, e2, e3, q⟩ => ⟨a, dx, fs, e1, e2, e3, nil_imp (en rfl) q⟩⟩
    | cons z zs =>
      exact pe_imp (pe_methS (O.pe h tk c5) h1 h2 F (hr.mono (Nat.le_add_right _ _)) hb (passAt tk) pa c2 ns c3 c4) fun σ H Q q => imp_meth h.guard q
  · obtain ⟨y, ap, xs, p, rfl, c1, c2, c3, c4, c5, c6⟩ := meth_inv c
    rfl
theorem bf_inv {sc : Scope} {f : BF} {es : Es} {x : Expr} (c : chk I N sc (.bf f es) x = true) : ∃ p1 y ys p, x = .Call (.Name f.name p1) (y :: ys) [] p ∧ glB sc f.name = true ∧ chks I N sc es (y :: ys) = true := by
  cases x with
  | Call fn xs ks p =>
    cases fn with
    | Name n p1 =>
      cases ks with
      | nil =>
        cases xs with
        | nil =>
          simp only [chk, Bool.and_eq_true] at c
          exact Bool.noConfusion (show false = true from c.2)
        | cons y ys =>
          simp only [chk, Bool.and_eq_true, decide_eq_true_eq] at c
          obtain ⟨⟨⟨rfl, c2⟩, c3⟩, c4⟩ := c
          exact ⟨p1, y, ys, p, rfl, c2, c3⟩
      | cons _ _ => exact Bool.noConfusion (show false = true from c)
    | _ => exact Bool.noConfusion (show false = true from c)
  | _ => exact Bool.noConfusion (show false = true from c)
theorem bf_names (f : BF) : (f.name ≠ "__name__") ∧ ((f.name == ("__debug__" : Str)) = false) := by cases f <;> decide +kernel
theorem snd_bf {f : BF} {es : Es} (A : Snds S I Γ N es) : Snd S I Γ N (.bf f es) := by
  refine .dup rfl (fun {x X sc df W} h tk c => ?_) (fun {x sc} c => ?_)
  · obtain ⟨p1, y, ys, p, rfl, c1, c2⟩ := bf_inv c
    obtain ⟨pa, ns, en⟩ := A.pa h tk c2
    rw [List.all_cons, Bool.and_eq_true] at ns
    have R := fn_sound (S := S) h.hK h.calm f
    have B := f.boot
    obtain ⟨n1, n2⟩ := bf_names f
    have go : PE X (.Call (.Name f.name p1) (y :: ys) [] p) (tCB (rFn S f) (tL S W (evs Γ es))) := by
      cases f <;> first
        | exact pe_callB R (h.gb c1) (h.bf _) B pa n1 n2 (star_cons ns.1) (back_plain ns.2)
        | exact pe_callTy R (h.gb c1) (h.bf _) B pa n1 n2 (star_cons ns.1) (back_plain ns.2)
    exact pe_imp go fun σ H Q q => imp_fn q
  · obtain ⟨p1, y, ys, p, rfl, c1, c2⟩ := bf_inv c
    rfl
theorem bm_inv {sc : Scope} {m : BM} {o : E} {es : Es} {x : Expr} (c : chk I N sc (.bm m o es) x = true) : ∃ y ap xs p, x = .Call (.Attribute y m.name ap) xs [] p ∧ plainRecv y = true ∧ xs.length < 30 ∧ (ap.endLine == p.line) = true ∧ chk I N sc o y = true ∧ chks I N sc es xs = true := by
  cases x with
  | Call fn xs ks p =>
    cases fn with
    | Attribute y m' ap =>
      cases ks with
      | nil =>
        simp only [chk, Bool.and_eq_true, decide_eq_true_eq] at c
        obtain ⟨⟨⟨⟨⟨rfl, c3⟩, c4⟩, c5⟩, c6⟩, c7⟩ := c
        exact ⟨y, ap, xs, p, rfl, c3, c4, c5, c6, c7⟩
      | cons _ _ => exact Bool.noConfusion (show false = true from c)
    | _ => exact Bool.noConfusion (show false = true from c)
  | _ => exact Bool.noConfusion (show false = true from c)
theorem few_of {es : List Expr} {env : PySem.Env} {pos : Pos} (h : es.all noStar = true) (hn : es.length < 30) :
    ((backTo pos (starEach es env)).all (fun x => !x.1) && (backToKw pos (keywordEach [] env)).all (fun x => x.1.isSome)
      && decide (es.length + ([] : List Keyword).length + (if ([] : List Keyword).isEmpty then 0 else 1) < 30)) = true := by
  have e := back_plain (env := env) (pos := pos) h
  rw [List.any_eq_false] at e
  have e2 : (backTo pos (starEach es env)).all (fun x => !x.1) = true := by
    rw [List.all_eq_true]
    intro x hx
    simpa using e x hx
  rw [e2]
  show (true && true && decide (es.length + 0 + 0 < 30)) = true
  simpa using hn
theorem snd_bm {m : BM} {o : E} {es : Es} (O : Snd S I Γ N o) (A : Snds S I Γ N es) : Snd S I Γ N (.bm m o es) := by
  refine .dup rfl (fun {x X sc df W} h tk c => ?_) (fun {x sc} c => ?_)
  · obtain ⟨y, ap, xs, p, rfl, c2, c3, c4, c5, c6⟩ := bm_inv c
    obtain ⟨pa, ns, en⟩ := A.pa h tk c6
    have hm := mt_sound (S := S) h.hK (by have := h.units; omega) m
    cases xs with
    | nil =>
      refine pe_imp (pe_bm0 m.pa m.slot m.hty hm (O.pe h tk c5) (base_of c2) c4) fun σ H Q q => ?_
      obtain ⟨φ, ρ, s, re, rs, q⟩ := imp_bm q
      exact ⟨φ, ρ, s, re, rs, q.mono fun v H1 ⟨t, q⟩ => ⟨by rw [h.hK]; exact t, nil_imp (en rfl) q⟩⟩
    | cons z zs =>
      have ns2 := ns
      rw [List.all_cons, Bool.and_eq_true] at ns2
      refine pe_imp (pe_bm m.pa m.slot m.hty hm (O.pe h tk c5) pa (base_of c2) (few_of ns c3) c4 (star_cons ns2.1) (back_plain ns2.2)) fun σ H Q q => ?_
      rw [h.hK]
      exact imp_bm q
  · obtain ⟨y, ap, xs, p, rfl, c2, c3, c4, c5, c6⟩ := bm_inv c
    rfl
theorem isi_inv {sc : Scope} {e : E} {T : String} {x : Expr} (c : chk I N sc (.isi e T) x = true) : ∃ p1 y p2 p, x = .Call (.Name ("isinstance" : Str) p1) [y, .Name (Str.ofString T) p2] [] p ∧ glB sc ("isinstance" : Str) = true ∧ chk I N sc e y = true ∧ glB sc (Str.ofString T) = true ∧ T ∈ ["int", "bool", "str", "tuple", "list"] ∧ noStar y = true := by
  cases x with
  | Call fn xs ks p =>
    cases fn with
    | Name n p1 =>
      cases xs with
      | nil => exact Bool.noConfusion (show false = true from c)
      | cons y xs =>
        cases xs with
        | nil => exact Bool.noConfusion (show false = true from c)
        | cons z xs =>
          cases z with
          | Name t p2 =>
            cases xs with
            | cons _ _ => exact Bool.noConfusion (show false = true from c)
            | nil =>
              cases ks with
              | cons _ _ => exact Bool.noConfusion (show false = true from c)
              | nil =>
                simp only [chk, Bool.and_eq_true, decide_eq_true_eq] at c
                obtain ⟨⟨⟨⟨⟨rfl, c2⟩, c3⟩, c4⟩, rfl⟩, c6⟩ := c
                refine ⟨p1, y, p2, p, rfl, c2, c3, c4, c6, ?_⟩
                cases y <;> first | rfl | (cases e <;> exact Bool.noConfusion (show false = true from c3))
          | _ => exact Bool.noConfusion (show false = true from c)
    | _ => exact Bool.noConfusion (show false = true from c)
  | _ => exact Bool.noConfusion (show false = true from c)
theorem ty_boot {T : String} (h : T ∈ ["int", "bool", "str", "tuple", "list"]) : bootBuiltins (Str.ofString T) = some (.type T) ∧ Str.ofString T ≠ "__name__" ∧ (Str.ofString T == ("__debug__" : Str)) = false := by
  simp only [List.mem_cons, List.not_mem_nil, or_false] at h
  rcases h with rfl | rfl | rfl | rfl | rfl <;> exact ⟨by decide +kernel, by decide +kernel, by decide +kernel⟩
theorem isi_boot : bootBuiltins ("isinstance" : Str) = some (.builtin "isinstance") := by decide +kernel
theorem snd_isi {e : E} {T : String} (A : Snd S I Γ N e) : Snd S I Γ N (.isi e T) := by
  refine .dup rfl (fun {x X sc df W} h tk c => ?_) (fun {x sc} c => ?_)
  · obtain ⟨p1, y, p2, p, rfl, c1, c2, c3, c4, c5⟩ := isi_inv c
    obtain ⟨b1, b2, b3⟩ := ty_boot c4
    have pt : PE X (.Name (Str.ofString T) p2) (tC (.ty T)) := pe_bltn (h.gb c3) (h.tys T c4) b1 rfl b2 b3
    refine pe_imp (pe_callB call_isi (h.gb c1) h.isi isi_boot (pa_cons (A.pe h tk c2) (pa_cons pt pa_nil (star_cons rfl)) (star_cons c5)) (by decide +kernel) (by decide +kernel) (star_cons c5) (back_plain rfl)) fun σ H Q q => ?_
    rw [h.hK]
    exact imp_isi q
  · obtain ⟨p1, y, p2, p, rfl, c1, c2, c3, c4, c5⟩ := isi_inv c
    rfl

/-! ### targets, comprehensions -/
mutual
theorem chkT_pg {X : Cx} {sc : Scope} {df : Bool} (h : XOk S I Γ N X sc df) : ∀ (tg : Tg) (x : Expr), chkT N sc df tg x = true → PG X x (gTg S.K tg)
  | .nm i, x, c => by
    cases x with
    | Name n p =>
      simp only [chkT, Bool.and_eq_true, decide_eq_true_eq] at c
      obtain ⟨l1, l2⟩ := h.sto c.2
      exact pg_name (by rw [h.hN]; exact h.nd) (by rw [h.hN]; exact c.1) l1 l2
    | _ => exact Bool.noConfusion (show false = true from c)
  | .tp ts, x, c => by
    cases x with
    | Tuple es k p =>
      obtain ⟨h1, h2, h3⟩ := chkTs_pg h ts es c
      show PG X (.Tuple es k p) (gTup S.K ts.len (gTgs S.K ts))
      rw [← h.hK]
      rw [← h.hK] at h1
      exact pg_tup h.calm h1 (by rw [assign_len]; exact h2) (assign_star h3)
    | _ => exact Bool.noConfusion (show false = true from c)
theorem chkTs_pg {X : Cx} {sc : Scope} {df : Bool} (h : XOk S I Γ N X sc df) : ∀ (ts : Tgs) (xs : List Expr), chkTs N sc df ts xs = true → PGs X xs (gTgs S.K ts) ∧ xs.length = ts.len ∧ xs.all noStar = true
  | .nil, [], _ => ⟨pgs_nil, rfl, rfl⟩
  | .nil, _ :: _, c => Bool.noConfusion (show false = true from c)
  | .cons t ts, [], c => Bool.noConfusion (show false = true from c)
  | .cons t ts, x :: xs, c => by
    simp only [chkTs, Bool.and_eq_true] at c
    obtain ⟨h1, h2, h3⟩ := chkTs_pg h ts xs c.2
    refine ⟨pgs_cons (chkT_pg h t x c.1.1) h1 (assign_cons c.1.2), by show xs.length + 1 = ts.len + 1; rw [h2], by rw [List.all_cons, c.1.2, h3]; rfl⟩
end
theorem lc_inv {sc : Scope} {own : List Nat} {tg : Tg} {it : It} {d : Op} {e : E} {x : Expr} (c : chk I N sc (.lc own tg it d e) x = true) : ∃ elt t y ifs scope p, x = .ListComp elt [⟨t, y, ifs, 0⟩] scope p ∧ chkI I N sc it t y = true ∧ noSet y = true ∧
    blkC N sc scope (own.map fun i => (N.getD i Str.empty, i)) = true ∧ chkT N (relS scope sc) false tg t = true ∧ (∀ i ∈ tg.slots, i ∈ own) ∧ chkF I N (relS scope sc) d ifs = true ∧ chk I N (relS scope sc) e elt = true := by
  cases x with
  | ListComp elt gs scope p =>
    simp only [chk] at c
    split at c
    · rename_i t y ifs
      simp only [Bool.and_eq_true, List.all_eq_true, decide_eq_true_eq] at c
      obtain ⟨⟨⟨⟨⟨⟨c1, c2⟩, c3⟩, c4⟩, c5⟩, c6⟩, c7⟩ := c
      exact ⟨elt, t, y, ifs, scope, p, rfl, c1, c2, c3, c4, c5, c6, c7⟩
    · cases c
  | _ => exact Bool.noConfusion (show false = true from c)
theorem snd_lc {own : List Nat} {tg : Tg} {it : It} {d : Op} {e : E} (J : SndI S I Γ N it) (C : SndO S I Γ N d) (A : Snd S I Γ N e) : Snd S I Γ N (.lc own tg it d e) := by
  refine .dup rfl (fun {x X sc df W} h tk c => ?_) (fun {x sc} c => ?_)
  · obtain ⟨elt, t, y, ifs, scope, p, rfl, c1, c2, c3, c4, c5, c6, c7⟩ := lc_inv c
    have hN : X.N.Nodup := by rw [h.hN]; exact h.nd
    have ok := blkOk_by c3
    rw [← h.hN, ← h.sc] at ok
    have hm : (own.map fun i => (X.N.getD i Str.empty, i)).map (·.2) = own := by rw [List.map_map]; exact List.map_id' own
    have key := pe_lc (own := own.map fun i => (X.N.getD i Str.empty, i)) (pos := p) (elt := elt) h.calm hN (J.pi h tk c1) ok (fun s H K cl fp => chkT_pg (h.blk s H scope K cl fp) tg t c4)
      (fun s H K cl fp => C.pf (h.blk s H scope K cl fp) takes0 c6) (fun s H K cl fp => A.pe (h.blk s H scope K cl fp) takes0 c7) (fold_set c2)
    rw [hm] at key
    exact pe_imp key fun σ H Q q => imp_lc c5 q
  · obtain ⟨elt, t, y, ifs, scope, p, rfl, _⟩ := lc_inv c
    rfl

/-! ### all of them -/
theorem snds_nil : Snds S I Γ N .nil where
  pa := fun {xs X sc df W} h tk c => by
    cases xs with
    | nil =>
      refine ⟨pa_imp pa_nil fun σ H Q q => ?_, rfl, fun _ => rfl⟩
      obtain ⟨φ, ρ, s, re, rs, q⟩ := q
      exact q φ H [] .refl rs .nil
    | cons _ _ => exact Bool.noConfusion (show false = true from c)
  pd0 := fun {ks vs X sc df W pos} h tk c => by
    cases ks with
    | cons _ _ => exact Bool.noConfusion (show false = true from c)
    | nil =>
      cases vs with
      | cons _ _ => exact Bool.noConfusion (show false = true from c)
      | nil =>
        refine ⟨rfl, rfl, [], pps_nil, fun σ H Q ⟨φ, ρ, s, re, rs, q⟩ => ?_⟩
        exact q φ H .refl rs [] .nil
  pd1 := fun {ks vs X sc df W pos} h tk c => Bool.noConfusion (show false = true from c)
  pj := fun {xs X sc df W} h tk c => by
    cases xs with
    | cons _ _ => exact Bool.noConfusion (show false = true from c)
    | nil =>
      refine ⟨[], .nil, fun σ acc H Q ⟨φ, ρ, s, re, rs, q⟩ => ?_⟩
      exact q φ H .refl rs
theorem snds_cons {e : E} {es : Es} (A : Snd S I Γ N e) (B : Snds S I Γ N es) : Snds S I Γ N (.cons e es) where
  pa := fun {xs X sc df W} h tk c => by
    cases xs with
    | nil => exact Bool.noConfusion (show false = true from c)
    | cons x xs =>
      simp only [chks, Bool.and_eq_true] at c
      obtain ⟨pa, ns, _⟩ := B.pa h tk c.2
      refine ⟨pa_imp (pa_cons (A.pe h tk c.1.2) pa (star_cons c.1.1)) fun σ H Q q => ?_, by rw [List.all_cons, c.1.1, ns]; rfl, fun z => nomatch z⟩
      obtain ⟨φ, ρ, s, re, rs, q⟩ := q
      have q : ResL S W σ s φ H ((ev Γ e ρ s).bind fun x s => (evs Γ es ρ s).bind fun xs s => .ok (x :: xs) s) Q := q
      refine ⟨φ, ρ, s, re, rs, (Res.bindL q).mono fun v H1 ⟨φ1, d1, s1, e1, rs1, rv1, h1⟩ => ?_⟩
      refine ⟨φ1, ρ, s1, re.ext e1, rs1, (ResL.bindL h1).mono fun vs H2 ⟨φ2, ds, s2, e2, rs2, rv2, h2⟩ => ?_⟩
      exact h2 φ2 H2 _ .refl rs2 (.cons (rv1.ext e2) rv2)
  pd0 := fun {ks vs X sc df W pos} h tk c => by
    cases ks with
    | nil => exact Bool.noConfusion (show false = true from c)
    | cons k ks =>
      cases k with
      | none => exact Bool.noConfusion (show false = true from c)
      | some kx =>
        simp only [chkD, Bool.and_eq_true] at c
        obtain ⟨c1, c2, tv, trs, pp, im⟩ := B.pd1 (pos := pos) h tk c.2
        refine ⟨by rw [List.all_cons, c1]; rfl, c2, _, pp kx _ (A.pe h tk c.1), fun σ H Q ⟨φ, ρ, s, re, rs, q⟩ => ?_⟩
        have q : ResA S W σ s φ H ((ev Γ e ρ s).bind fun x s => keyR x fun k => evD1 Γ es k ρ s) _ := q
        refine ⟨φ, ρ, s, re, rs, (Res.bindA q).mono fun v H1 ⟨φ1, d1, s1, e1, rs1, rv1, h1⟩ => ?_⟩
        unfold keyR at h1
        cases ek : keyO d1 with
        | none => rw [ek] at h1; exact h1.elim
        | some k =>
          rw [ek] at h1
          cases key_rv rv1 ek
          exact im k σ H1 Q ⟨φ1, ρ, s1, re.ext e1, rs1, h1⟩
  pd1 := fun {ks vs X sc df W pos} h tk c => by
    cases vs with
    | nil => exact Bool.noConfusion (show false = true from c)
    | cons y vs =>
      simp only [chkD1, Bool.and_eq_true] at c
      obtain ⟨c1, c2, trs, pp, im⟩ := B.pd0 (pos := pos) h tk c.2
      refine ⟨c1, by rw [List.length_cons, c2], _, trs, fun kx tk' hk => pps_cons hk (A.pe h tk c.1) pp, fun k σ H Q ⟨φ, ρ, s, re, rs, q⟩ => ?_⟩
      have q : ResA S W σ s φ H ((ev Γ e ρ s).bind fun y s => (evD Γ es ρ s).bind fun r s => .ok ((k, y) :: r) s) _ := q
      refine ⟨φ, ρ, s, re, rs, (Res.bindA q).mono fun v H1 ⟨φ1, d1, s1, e1, rs1, rv1, h1⟩ => ?_⟩
      refine im σ H1 _ ⟨φ1, ρ, s1, re.ext e1, rs1, (ResA.bindA h1).mono fun r s2 φ2 H2 ⟨e2, rs2, h2⟩ ps rv => ?_⟩
      exact h2 φ2 H2 .refl rs2 ((k, v) :: ps) (.cons (rv1.ext e2) rv)
  pj := fun {xs X sc df W} h tk c => by
    cases xs with
    | nil => exact Bool.noConfusion (show false = true from c)
    | cons x xs =>
      simp only [chkJ, Bool.and_eq_true] at c
      obtain ⟨ts, pj, im⟩ := B.pj h tk c.2
      refine ⟨_ :: ts, .cons (A.pe h tk c.1) pj, fun σ acc H Q ⟨φ, ρ, s, re, rs, q⟩ => ?_⟩
      have q : ResA S W σ s φ H ((ev Γ e ρ s).bind fun x s => joinR acc x s fun acc => evJ Γ es acc ρ s) _ := q
      refine ⟨φ, ρ, s, re, rs, (Res.bindA q).mono fun v H1 ⟨φ1, d1, s1, e1, rs1, rv1, h1⟩ => ?_⟩
      unfold joinR at h1
      cases rv1 with
      | str y =>
        simp only at h1
        split at h1
        · rename_i hz
          exact ⟨y, rfl, hz, im σ (acc ++ y) H1 Q ⟨φ1, ρ, s1, re.ext e1, rs1, h1⟩⟩
        · exact h1.elim
      | _ => exact h1.elim
theorem snd_disp {es : Es} (A : Snds S I Γ N es) : Snd S I Γ N (.disp es) := by
  refine .dup rfl (fun {x X sc df W} h tk c => ?_) (fun {x sc} c => ?_)
  · cases x with
    | Dict ks vs p =>
      simp only [chk, Bool.and_eq_true, decide_eq_true_eq, Bool.not_eq_true'] at c
      obtain ⟨⟨c1, c2⟩, c3⟩ := c
      obtain ⟨h1, h2, trs, pp, im⟩ := A.pd0 (pos := p) h tk c3
      exact pe_imp (pe_disp pp h1 h2 (fun e => by rw [e] at c1; cases c1) c2) fun σ H Q q => imp_disp im q
    | _ => exact Bool.noConfusion (show false = true from c)
  · cases x with
    | Dict ks vs p => rfl
    | _ => exact Bool.noConfusion (show false = true from c)
theorem snd_fst {es : Es} (A : Snds S I Γ N es) : Snd S I Γ N (.fst es) := by
  refine .dup rfl (fun {x X sc df W} h tk c => ?_) (fun {x sc} c => ?_)
  · cases x with
    | JoinedStr xs p =>
      simp only [chk, Bool.and_eq_true, decide_eq_true_eq] at c
      obtain ⟨c1, c2⟩ := c
      obtain ⟨ts, pj, im⟩ := A.pj h tk c2
      match xs, c1, pj with
      | x1 :: x2 :: xs, _, pj =>
        refine pe_imp (pe_joined pj) fun σ H Q q => ?_
        obtain ⟨φ, ρ, s, re, rs, q⟩ := q
        have q : Res S W σ s φ H ((evJ Γ es Str.empty ρ s).bind fun z s => .ok (.str z) s) Q := q
        exact im σ _ H _ ⟨φ, ρ, s, re, rs, (ResA.bind q).mono fun z s1 φ1 H1 ⟨e1, rs1, h1⟩ => Res.here h1 rs1 (.str z)⟩
    | _ => exact Bool.noConfusion (show false = true from c)
  · cases x with
    | JoinedStr xs p => rfl
    | _ => exact Bool.noConfusion (show false = true from c)
theorem snd_fmt {e : E} (A : Snd S I Γ N e) : Snd S I Γ N (.fmt e) := by
  refine .dup rfl (fun {x X sc df W} h tk c => ?_) (fun {x sc} c => ?_)
  · cases x with
    | FormattedValue y k f p =>
      cases f with
      | some _ => exact Bool.noConfusion (show false = true from c)
      | none =>
        simp only [chk, Bool.and_eq_true, decide_eq_true_eq] at c
        obtain ⟨rfl, c2⟩ := c
        exact pe_imp (pe_fmt (A.pe h tk c2)) fun σ H Q q => imp_fmt q
    | _ => exact Bool.noConfusion (show false = true from c)
  · cases x with
    | FormattedValue y k f p => rfl
    | _ => exact Bool.noConfusion (show false = true from c)
theorem kget_inv {sc : Scope} {g : Nat} {e : E} {x : Expr} (c : chk I N sc (.kget g e) x = true) : ∃ n p1 ap y p, x = .Call (.Attribute (.Name n p1) ("get" : Str) ap) [y] [] p ∧ glB sc n = true ∧ (n == ("__debug__" : Str)) = false ∧ I.kds.lookup n = some g ∧ noStar y = true ∧ (ap.endLine == p.line) = true ∧ chk I N sc e y = true := by
  cases x with
  | Call fn xs ks p =>
    cases fn with
    | Attribute o m ap =>
      cases o with
      | Name n p1 =>
        cases xs with
        | nil => exact Bool.noConfusion (show false = true from c)
        | cons y xs =>
          cases xs with
          | cons _ _ => exact Bool.noConfusion (show false = true from c)
          | nil =>
            cases ks with
            | cons _ _ => exact Bool.noConfusion (show false = true from c)
            | nil =>
              simp only [chk, Bool.and_eq_true, decide_eq_true_eq] at c
              obtain ⟨⟨⟨⟨⟨⟨rfl, c2⟩, c3⟩, c4⟩, c5⟩, c6⟩, c7⟩ := c
              exact ⟨n, p1, ap, y, p, rfl, c2, nodbg c3, c4, c5, c6, c7⟩
      | _ => exact Bool.noConfusion (show false = true from c)
    | _ => exact Bool.noConfusion (show false = true from c)
  | _ => exact Bool.noConfusion (show false = true from c)
/-- d.get(e), d a dict of the module -/
theorem pe_kget {X : Cx} {n : Str} {a : Addr} {te : TE} {y : Expr} {p1 ap p : Pos} {es : Array DictEntry} {m : Nat} (D : KDict X.K X.w a es m) (hn : PE X (.Name n p1) (tC (.ref a))) (he : PE X y te) (c1 : noStar y = true) (c2 : (ap.endLine == p.line) = true) :
    PE X (.Call (.Attribute (.Name n p1) ("get" : Str) ap) [y] [] p) (fun σ H Q => te σ H fun v H1 => ∃ z r w, v = .str z ∧ PySem.W.nsIn X.K a z = some r ∧ RelV w (r.getD .none) ∧ Q w H1) := by
  refine ⟨fun pins s σ H Q I h => ?_⟩
  refine wpAny_Call_method (base_of rfl) (few_of (es := [y]) (by simp [c1]) (show 1 < 30 by decide)) c2 PySem.F.plainAttrs_dict PySem.F.slot_dict_get PySem.F.type_dict_get (thn (hn.run pins s σ H (fun x H1 => x = .ref a ∧ H1 = H) I ⟨rfl, rfl⟩) fun u s1 ⟨x, H1, I1, rx, ex, eH⟩ => ?_)
  subst ex; subst eH
  obtain rfl : u = Value.ref a := rx
  refine ⟨kd_type D I1, fun b q => ?_, ?_⟩
  · cases q
    exact ⟨_, I1.kIn _ _ D.at_, rfl⟩
  have e1 : backTo p (starEach [y] X.env) = [(false, eval y X.env)] := by rw [star_cons c1]; rfl
  rw [e1]
  refine Calls.callWith_builtin rfl (Calls.evalArgs_plain (Calls.spliced_cons (thn (he.run pins s1 σ H1 _ I1 h) fun iv s2 ⟨v, H2, I2, rv, z, r, w, ev, el, rw', q⟩ => Calls.spliced_nil ?_)))
  subst ev
  obtain ⟨t, rfl⟩ := (show ∃ t, iv = Value.str z t from rv)
  refine call_meetsIn PySem.F.slot_dict_get (kd_type D I2) PySem.F.entry_dict_get (PySem.F.args_dict_get_2 _ _) (meets_dict_get (strKind X.prog X.w) a (PySem.strKind_is X.prog X.w z t) D.low) ⟨_, PySem.W.mapOf_K (prog := X.prog) I2.kIn D.at_ D.lit, ⟨w, H2, I2.tok _, ?_, q⟩⟩
  rw [PySem.W.find_K D.at_ el]
  exact rw'
theorem snd_kget {g : Nat} {e : E} (A : Snd S I Γ N e) : Snd S I Γ N (.kget g e) := by
  refine .dup rfl (fun {x X sc df W} h tk c => ?_) (fun {x sc} c => ?_)
  · obtain ⟨n, p1, ap, y, p, rfl, c1, c2, c3, c4, c5, c6⟩ := kget_inv c
    obtain ⟨a, h1, ⟨es, m, hd⟩, h2⟩ := h.kd n g c3
    rw [← h.hK] at hd
    refine pe_imp (pe_kget hd (pe_glob (h.gb c1) h1 rfl c2) (A.pe h tk c6) c4 c5) fun σ H Q q => ?_
    obtain ⟨φ, ρ, s, re, rs, q⟩ := q
    have q : Res S W σ s φ H ((ev Γ e ρ s).bind fun x s => strR x fun z => .ok (((Γ.kd g).lookup z).getD .non) s) Q := q
    refine ⟨φ, ρ, s, re, rs, (Res.bind q).mono fun v H1 ⟨φ1, d1, s1, e1, rs1, rv1, q1⟩ => ?_⟩
    cases rv1 with
    | str z =>
      have q1 : Res S W σ s1 φ1 H1 (.ok (((Γ.kd g).lookup z).getD .non) s1) Q := q1
      rcases h2 z with ⟨d, u, w, l1, l2, l3, l4⟩ | ⟨l1, l2⟩
      · rw [l1] at q1
        exact ⟨z, some u, w, rfl, by rw [h.hK]; exact l2, l3, Res.here q1 rs1 (l4 _ _ _)⟩
      · rw [l1] at q1
        exact ⟨z, none, .non, rfl, by rw [h.hK]; exact l2, rfl, Res.here q1 rs1 .non⟩
    | _ => exact q1.elim
  · obtain ⟨n, p1, ap, y, p, rfl, _⟩ := kget_inv c
    rfl
theorem kin_inv {sc : Scope} {neg : Bool} {g : Nat} {e : E} {x : Expr} (c : chk I N sc (.kin neg g e) x = true) : ∃ y n p1 p, x = .Compare y [if neg then CmpOp.NotIn else CmpOp.In] [.Name n p1] p ∧ glB sc n = true ∧ (n == ("__debug__" : Str)) = false ∧ I.kds.lookup n = some g ∧ chk I N sc e y = true := by
  cases x with
  | Compare y ops rs p =>
    cases ops with
    | nil => exact Bool.noConfusion (show false = true from c)
    | cons op ops =>
      cases ops with
      | cons _ _ => exact Bool.noConfusion (show false = true from c)
      | nil =>
        cases rs with
        | nil => exact Bool.noConfusion (show false = true from c)
        | cons r rs =>
          cases r with
          | Name n p1 =>
            cases rs with
            | cons _ _ => exact Bool.noConfusion (show false = true from c)
            | nil =>
              simp only [chk, Bool.and_eq_true, decide_eq_true_eq] at c
              obtain ⟨⟨⟨⟨rfl, c2⟩, c3⟩, c4⟩, c5⟩ := c
              exact ⟨y, n, p1, p, rfl, c2, nodbg c3, c4, c5⟩
          | _ => exact Bool.noConfusion (show false = true from c)
  | _ => exact Bool.noConfusion (show false = true from c)
def rKin (K : PySem.W.Frag) (a : Addr) (neg : Bool) : R2 := fun x y H Q => ∃ (z : Str) (r : Option Value), x = .str z ∧ y = .ref a ∧ PySem.W.nsIn K a z = some r ∧ Q (.bl (r.isSome != neg)) H
theorem op_kin {X : Cx} {a : Addr} {es : Array DictEntry} {m : Nat} (D : KDict X.K X.w a es m) (neg : Bool) : OpR X (compareOp (if neg then CmpOp.NotIn else CmpOp.In)) (rKin X.K a neg) := by
  intro pins s σ H x y v u Q I rx ry ⟨z, r, e1, e2, e3, q⟩
  cases neg with
  | true => exact op_notIn_kd D pins s σ H x y v u Q I rx ry ⟨z, r, e1, e2, e3, by simpa using q⟩
  | false => exact op_in_kd D pins s σ H x y v u Q I rx ry ⟨z, r, e1, e2, e3, by simpa using q⟩
theorem snd_kin {neg : Bool} {g : Nat} {e : E} (A : Snd S I Γ N e) : Snd S I Γ N (.kin neg g e) where
  pe := fun {x X sc df W} h tk c => by
    obtain ⟨y, n, p1, p, rfl, c1, c2, c3, c4⟩ := kin_inv c
    obtain ⟨a, h1, ⟨es, m, hd⟩, h2⟩ := h.kd n g c3
    rw [← h.hK] at hd
    refine pe_imp (pe_cmpR (op_kin hd neg) (A.pe h tk c4) (pe_glob (v := .ref a) (h.gb c1) h1 rfl c2) (by cases neg <;> rfl)) fun σ H Q q => ?_
    obtain ⟨φ, ρ, s, re, rs, q⟩ := q
    have q : Res S W σ s φ H ((ev Γ e ρ s).bind fun x s => strR x fun z => .ok (.bl (((Γ.kd g).lookup z).isSome != neg)) s) Q := q
    refine ⟨φ, ρ, s, re, rs, (Res.bind q).mono fun v H1 ⟨φ1, d1, s1, e1, rs1, rv1, q1⟩ => ?_⟩
    cases rv1 with
    | str z =>
      have q1 : Res S W σ s1 φ1 H1 (.ok (.bl (((Γ.kd g).lookup z).isSome != neg)) s1) Q := q1
      rcases h2 z with ⟨d, u, w, l1, l2, l3, l4⟩ | ⟨l1, l2⟩
      · rw [l1] at q1
        exact ⟨z, some u, rfl, rfl, by rw [h.hK]; exact l2, Res.here q1 rs1 (.bl _)⟩
      · rw [l1] at q1
        exact ⟨z, none, rfl, rfl, by rw [h.hK]; exact l2, Res.here q1 rs1 (.bl _)⟩
    | _ => exact q1.elim
  pt := fun {x X sc df W} h tk c => by
    obtain ⟨y, n, p1, p, rfl, c1, c2, c3, c4⟩ := kin_inv c
    obtain ⟨a, h1, ⟨es, m, hd⟩, h2⟩ := h.kd n g c3
    rw [← h.hK] at hd
    refine pt_imp (pt_cmpR (op_kin hd neg) (A.pe h tk c4) (pe_glob (v := .ref a) (h.gb c1) h1 rfl c2) (by cases neg <;> rfl)) fun σ H Q q => ?_
    obtain ⟨φ, ρ, s, re, rs, q⟩ := q
    have q : ResB S W σ s φ H (((ev Γ e ρ s).bind fun x s => strR x fun z => .ok (.bl (((Γ.kd g).lookup z).isSome != neg)) s).bind truR) Q := q
    have bb : ∀ (r : R D) (f : D → Sto → R D) (k : D → Sto → R Bool), (r.bind f).bind k = r.bind fun x s => (f x s).bind k := fun r f k => by cases r <;> rfl
    rw [bb] at q
    refine ⟨φ, ρ, s, re, rs, (Res.bindB q).mono fun v H1 ⟨φ1, d1, s1, e1, rs1, rv1, q1⟩ => ?_⟩
    cases rv1 with
    | str z =>
      have q1 : ResB S W σ s1 φ1 H1 (.ok (((Γ.kd g).lookup z).isSome != neg) s1) Q := q1
      rcases h2 z with ⟨d, u, w, l1, l2, l3, l4⟩ | ⟨l1, l2⟩
      · rw [l1] at q1
        exact ⟨z, some u, rfl, rfl, by rw [h.hK]; exact l2, _, rfl, ResB.here q1 rs1⟩
      · rw [l1] at q1
        exact ⟨z, none, rfl, rfl, by rw [h.hK]; exact l2, _, rfl, ResB.here q1 rs1⟩
    | _ => exact q1.elim
  pw := fun h tk c => by exact Bool.noConfusion (show false = true from c)
theorem snd_lock {e b : E} (B : Snd S I Γ N b) : Snd S I Γ N (.lock e b) := by
  refine .dup rfl (fun {x X sc df W} h tk c => ?_) (fun {x sc} c => ?_)
  · have c : (noStar x && plainTest x && chk I N sc b x) = true := by
      cases x <;> exact c
    rw [Bool.and_eq_true] at c
    exact pe_imp (pe_lock (B.pe h takes0 c.2)) fun σ H Q q => imp_lock q
  · have c : (noStar x && plainTest x && chk I N sc b x) = true := by
      cases x <;> exact c
    rw [Bool.and_eq_true, Bool.and_eq_true] at c
    exact c.1.2
theorem sndI_keys {a : E} (A : Snd S I Γ N a) : SndI S I Γ N (.keys a) := ⟨fun {tg x X sc df W} h tk c => by
  have c : chk I N sc a x = true := by cases x <;> exact c
  exact pi_imp (pi_keys (A.pe h tk c)) fun σ H R q => imp_keys q⟩
theorem sndI_rng3 {a b d : E} (A : Snd S I Γ N a) (B : Snd S I Γ N b) (C : Snd S I Γ N d) : SndI S I Γ N (.rng3 a b d) := ⟨fun {tg x X sc df W} h tk c => by
  cases x with
  | Call fn xs ks p =>
    cases fn with
    | Name n p1 =>
      match xs, ks, c with
      | [], _, c => exact Bool.noConfusion (show false = true from c)
      | [_], _, c => exact Bool.noConfusion (show false = true from c)
      | [_, _], _, c => exact Bool.noConfusion (show false = true from c)
      | _ :: _ :: _ :: _ :: _, _, c => exact Bool.noConfusion (show false = true from c)
      | [_, _, _], _ :: _, c => exact Bool.noConfusion (show false = true from c)
      | [x, y, z], [], c =>
        simp only [chkI, Bool.and_eq_true, decide_eq_true_eq] at c
        obtain ⟨⟨⟨⟨⟨⟨⟨rfl, c2⟩, c3⟩, c4⟩, c5⟩, c6⟩, c7⟩, c8⟩ := c
        exact pi_imp (pi_range3 (h.gb c2) h.rng (pa_cons (A.pe h tk c6) (pa_cons (B.pe h tk c7) (pa_cons (C.pe h tk c8) pa_nil (star_cons c5)) (star_cons c4)) (star_cons c3)) (star_cons c3) (back_plain (by simp [c4, c5]))) fun σ H R q => imp_rng3 q
    | _ => exact Bool.noConfusion (show false = true from c)
  | _ => exact Bool.noConfusion (show false = true from c)⟩
theorem sndO_none : SndO S I Γ N .none where
  po := fun {x X sc df W} h tk c => by
    cases x with
    | none =>
      refine po_imp po_none fun σ H Q q => ?_
      obtain ⟨φ, ρ, s, re, rs, q⟩ := q
      exact q φ H .refl rs
    | some _ => exact Bool.noConfusion (show false = true from c)
  pf := fun {xs X sc df W} h tk c => by
    cases xs with
    | nil =>
      refine pts_imp pts_nil fun σ H Q q => ?_
      obtain ⟨φ, ρ, s, re, rs, q⟩ := q
      exact q φ H .refl rs
    | cons _ _ => exact Bool.noConfusion (show false = true from c)
theorem sndO_some {e : E} (A : Snd S I Γ N e) : SndO S I Γ N (.some e) where
  po := fun {x X sc df W} h tk c => by
    cases x with
    | none => exact Bool.noConfusion (show false = true from c)
    | some x => exact po_imp (po_some (A.pe h tk c)) fun σ H Q q => imp_part q
  pf := fun {xs X sc df W} h tk c => by
    cases xs with
    | nil => exact Bool.noConfusion (show false = true from c)
    | cons x xs =>
      cases xs with
      | nil => exact pts_one (A.pt h tk c)
      | cons _ _ => exact Bool.noConfusion (show false = true from c)
theorem sndI_seq {e : E} (A : Snd S I Γ N e) : SndI S I Γ N (.seq e) := ⟨fun {tg x X sc df W} h tk c => by
  refine pi_imp (pi_seq (A.pe h tk c)) fun σ H R q => ?_
  rw [h.hK]
  exact imp_seq q⟩
theorem sndI_rng1 {a : E} (A : Snd S I Γ N a) : SndI S I Γ N (.rng1 a) := ⟨fun {tg x X sc df W} h tk c => by
  cases x with
  | Call fn xs ks p =>
    cases fn with
    | Name n p1 =>
      cases xs with
      | nil => exact Bool.noConfusion (show false = true from c)
      | cons y xs =>
        cases xs with
        | cons _ _ => exact Bool.noConfusion (show false = true from c)
        | nil =>
          cases ks with
          | cons _ _ => exact Bool.noConfusion (show false = true from c)
          | nil =>
            simp only [chkI, Bool.and_eq_true, decide_eq_true_eq] at c
            obtain ⟨⟨⟨rfl, c2⟩, c3⟩, c4⟩ := c
            exact pi_imp (pi_range1 (h.gb c2) h.rng (pa_cons (A.pe h tk c4) pa_nil (star_cons c3)) (star_cons c3)) fun σ H R q => imp_rng1 q
    | _ => exact Bool.noConfusion (show false = true from c)
  | _ => exact Bool.noConfusion (show false = true from c)⟩
theorem sndI_rng2 {a b : E} (A : Snd S I Γ N a) (B : Snd S I Γ N b) : SndI S I Γ N (.rng2 a b) := ⟨fun {tg x X sc df W} h tk c => by
  cases x with
  | Call fn xs ks p =>
    cases fn with
    | Name n p1 =>
      cases xs with
      | nil => exact Bool.noConfusion (show false = true from c)
      | cons y xs =>
        cases xs with
        | nil => exact Bool.noConfusion (show false = true from c)
        | cons z xs =>
          cases xs with
          | cons _ _ => exact Bool.noConfusion (show false = true from c)
          | nil =>
            cases ks with
            | cons _ _ => exact Bool.noConfusion (show false = true from c)
            | nil =>
              simp only [chkI, Bool.and_eq_true, decide_eq_true_eq] at c
              obtain ⟨⟨⟨⟨⟨rfl, c2⟩, c3⟩, c4⟩, c5⟩, c6⟩ := c
              have e2 : starEach [z] X.env = [(false, eval z X.env)] := star_cons c4
              exact pi_imp (pi_range2 (h.gb c2) h.rng (pa_cons (A.pe h tk c5) (pa_cons (B.pe h tk c6) pa_nil (star_cons c4)) (star_cons c3)) (by rw [star_cons c3, e2]) e2) fun σ H R q => imp_rng2 q
    | _ => exact Bool.noConfusion (show false = true from c)
  | _ => exact Bool.noConfusion (show false = true from c)⟩
theorem sndI_zp {a b : E} (A : Snd S I Γ N a) (B : Snd S I Γ N b) : SndI S I Γ N (.zp a b) := ⟨fun {tg x X sc df W} h tk c => by
  cases x with
  | Call fn xs ks p =>
    cases fn with
    | Name n p1 =>
      cases xs with
      | nil => exact Bool.noConfusion (show false = true from c)
      | cons y xs =>
        cases xs with
        | nil => exact Bool.noConfusion (show false = true from c)
        | cons z xs =>
          cases xs with
          | cons _ _ => exact Bool.noConfusion (show false = true from c)
          | nil =>
            cases ks with
            | cons _ _ => exact Bool.noConfusion (show false = true from c)
            | nil =>
              simp only [chkI, Bool.and_eq_true, decide_eq_true_eq] at c
              obtain ⟨⟨⟨⟨⟨⟨rfl, c2⟩, c3⟩, c4⟩, c5⟩, c6⟩, c7⟩ := c
              cases tg with
              | Tuple es k p2 =>
                refine pi_imp (RZ.pi_zipA (h.gb c2) h.zip (pa_cons (A.pe h tk c6) (pa_cons (B.pe h tk c7) pa_nil (star_cons c5)) (star_cons c4)) (star_cons c4) (back_plain (by simp [c5]))) fun σ H R q => ?_
                rw [h.hK]
                exact imp_zip q
              | _ => exact Bool.noConfusion (show false = true from c3)
    | _ => exact Bool.noConfusion (show false = true from c)
  | _ => exact Bool.noConfusion (show false = true from c)⟩
theorem sndI_enm {a : E} (A : Snd S I Γ N a) : SndI S I Γ N (.enm a) := ⟨fun {tg x X sc df W} h tk c => by
  cases x with
  | Call fn xs ks p =>
    cases fn with
    | Name n p1 =>
      cases xs with
      | nil => exact Bool.noConfusion (show false = true from c)
      | cons y xs =>
        cases xs with
        | cons _ _ => exact Bool.noConfusion (show false = true from c)
        | nil =>
          cases ks with
          | cons _ _ => exact Bool.noConfusion (show false = true from c)
          | nil =>
            simp only [chkI, Bool.and_eq_true, decide_eq_true_eq] at c
            obtain ⟨⟨⟨⟨rfl, c2⟩, c3⟩, c4⟩, c5⟩ := c
            cases tg with
            | Tuple es k p2 =>
              refine pi_imp (pi_enum (h.gb c2) h.enm (pa_cons (A.pe h tk c5) pa_nil (star_cons c4)) (star_cons c4)) fun σ H R q => ?_
              rw [h.hK]
              exact imp_enm q
            | _ => exact Bool.noConfusion (show false = true from c3)
    | _ => exact Bool.noConfusion (show false = true from c)
  | _ => exact Bool.noConfusion (show false = true from c)⟩
theorem snd_false {e : E} (h : ∀ sc x, chk I N sc e x = false) : Snd S I Γ N e :=
  ⟨fun _ _ c => (by rw [h] at c; cases c), fun _ _ c => (by rw [h] at c; cases c), fun _ _ c => (by rw [h] at c; cases c)⟩
mutual
theorem snd : ∀ e : E, Snd S I Γ N e
  | .var i => snd_var i
  | .cst d => snd_cst d
  | .glob g => snd_glob g
  | .bin o a b => snd_bin o (snd a) (snd b)
  | .neg a => snd_neg (snd a)
  | .cmp o a b => snd_cmp o (snd a) (snd b)
  | .chain o o' a b c => snd_chain o o' (snd a) (snd b) (snd c)
  | .and a b => snd_and (snd a) (snd b)
  | .or a b => snd_or (snd a) (snd b)
  | .not a => snd_not (snd a)
  | .ite c a b => snd_ite (snd c) (snd a) (snd b)
  | .ix a b => snd_ix (snd a) (snd b)
  | .sl a lo hi => snd_sl (snd a) (sndO lo) (sndO hi)
  | .rev a => snd_rev (snd a)
  | .tup es => snd_tup (snds es)
  | .lst es => snd_lst (snds es)
  | .dnew k => snd_dnew k
  | .disp es => snd_disp (snds es)
  | .fld a f => snd_fld (snd a)
  | .call f es => snd_call (snds es)
  | .make c es => snd_make (snds es)
  | .meth c f m o es => snd_meth (snd o) (snds es)
  | .bf f es => snd_bf (snds es)
  | .bm m o es => snd_bm (snd o) (snds es)
  | .isi e T => snd_isi (snd e)
  | .lc own tg it c e => snd_lc (sndI it) (sndO c) (snd e)
  | .fst es => snd_fst (snds es)
  | .fmt e => snd_fmt (snd e)
  | .kget g e => snd_kget (snd e)
  | .kin neg g e => snd_kin (snd e)
  | .lock e b => snd_lock (snd b)
theorem snds : ∀ es : Es, Snds S I Γ N es
  | .nil => snds_nil
  | .cons e es => snds_cons (snd e) (snds es)
theorem sndO : ∀ o : Op, SndO S I Γ N o
  | .none => sndO_none
  | .some e => sndO_some (snd e)
theorem sndI : ∀ it : It, SndI S I Γ N it
  | .seq e => sndI_seq (snd e)
  | .rng1 a => sndI_rng1 (snd a)
  | .rng2 a b => sndI_rng2 (snd a) (snd b)
  | .rng3 a b c => sndI_rng3 (snd a) (snd b) (snd c)
  | .zp a b => sndI_zp (snd a) (snd b)
  | .enm a => sndI_enm (snd a)
  | .keys a => sndI_keys (snd a)
end
end
end Ab
set_option Elab.async false
set_option linter.all false
set_option maxRecDepth 100000
set_option maxHeartbeats 2000000
/-! Ab12: statements: their terms and meanings -/
namespace Ab
open PySem L2

mutual
inductive Stt where
  | pass | doc | brk | cnt | never | retN
  | expr (e : E)
  | asg (i : Nat) (e : E)
  | asgL (i : Nat) (own : List Nat) (tg : Tg) (it : It) (c : Op) (e : E)
  | asgT (tg : Tg) (e : E)
  | par (i j : Nat) (a b : E)
  | asgI (o i e : E)
  | asgF (o : E) (f : Str) (e : E)
  | augN (i : Nat) (op : BO) (e : E)
  | augF (o : E) (f : Str) (op : BO) (k : Int)
  | augI (o i : E) (op : BO) (e : E)
  | ret (e : E)
  | iff (c : E) (a b : Sts)
  | whl (c : E) (b : Sts)
  | for_ (tg : Tg) (it : It) (b : Sts)
  | tryN (b : Sts)
  | lock (e : E) (a : Stt)
inductive Sts where
  | nil
  | cons (s : Stt) (r : Sts)
end

inductive Out where
  | nx (ρ : Env) (s : Sto)
  | rt (d : D) (s : Sto)
  | bk (ρ : Env) (s : Sto)
  | ct (ρ : Env) (s : Sto)
  | ex (c : Nat) (ρ : Env) (s : Sto)
  | bad
abbrev MS := Env → Sto → Out
def R.to {α : Type} (r : R α) (ρ : Env) (f : α → Sto → Out) : Out := match r with
  | .ok a s => f a s
  | .ex c s => .ex c ρ s
  | .bad => .bad
@[simp] theorem R.to_ok {α : Type} (a : α) (s : Sto) (ρ : Env) (f : α → Sto → Out) : (R.ok a s).to ρ f = f a s := rfl
@[simp] theorem R.to_ex {α : Type} (c : Nat) (s : Sto) (ρ : Env) (f : α → Sto → Out) : (R.ex c s : R α).to ρ f = .ex c ρ s := rfl
@[simp] theorem R.to_bad {α : Type} (ρ : Env) (f : α → Sto → Out) : (R.bad : R α).to ρ f = .bad := rfl
def Out.seq (o : Out) (f : MS) : Out := match o with
  | .nx ρ s => f ρ s
  | o => o
@[simp] theorem Out.seq_nx (ρ : Env) (s : Sto) (f : MS) : (Out.nx ρ s).seq f = f ρ s := rfl
@[simp] theorem Out.seq_rt (d : D) (s : Sto) (f : MS) : (Out.rt d s).seq f = .rt d s := rfl
@[simp] theorem Out.seq_bk (ρ : Env) (s : Sto) (f : MS) : (Out.bk ρ s).seq f = .bk ρ s := rfl
@[simp] theorem Out.seq_ct (ρ : Env) (s : Sto) (f : MS) : (Out.ct ρ s).seq f = .ct ρ s := rfl
@[simp] theorem Out.seq_ex (c : Nat) (ρ : Env) (s : Sto) (f : MS) : (Out.ex c ρ s).seq f = .ex c ρ s := rfl
@[simp] theorem Out.seq_bad (f : MS) : Out.bad.seq f = .bad := rfl
/-- o.f = v -/
def putFd (f : Str) (v : D) : List (Str × D) → List (Str × D)
  | [] => [(f, v)]
  | (g, x) :: r => if g = f then (g, v) :: r else (g, x) :: putFd f v r
def setF (nc : Nat) (o : D) (f : Str) (v : D) (s : Sto) : Option Sto := match o with
  | .ref r => match s.g r with
    | .ins c fs => if c < nc ∧ fs.length < 1000 then some (s.put r (.ins c (putFd f v fs))) else none
    | _ => none
  | _ => none
def outS (ρ : Env) : Option Sto → Out
  | some s => .nx ρ s
  | none => .bad
def outE : Option Env → Sto → Out
  | some ρ, s => .nx ρ s
  | none, _ => .bad
def outO (r : O) (f : D → Sto → Out) : Out := match r with
  | some (d, s) => f d s
  | none => .bad
@[simp] theorem outO_some (d : D) (s : Sto) (f : D → Sto → Out) : outO (some (d, s)) f = f d s := rfl
def dgetR (o i : D) (s : Sto) (f : D → Out) : Out := match o with
  | .ref r => match dgetO s r i with
    | some (some d) => f d
    | _ => .bad
  | _ => .bad
/-- an entry of a dict is put anew -/
def dputO (o i v : D) (s : Sto) : Option Sto := match o with
  | .ref r => if (dgetO s r i).isSome = true then setO (.ref r) i v s else none
  | _ => none
def sExpr (m : Env → Sto → R D) : MS := fun ρ s => (m ρ s).to ρ fun _ s => .nx ρ s
def sAsg (i : Nat) (m : Env → Sto → R D) : MS := fun ρ s => (m ρ s).to ρ fun d s => .nx (ρ.set i (some d)) s
def sAsgT (tg : Tg) (m : Env → Sto → R D) : MS := fun ρ s => (m ρ s).to ρ fun d s => outE (bindT tg d ρ) s
def sPar (i j : Nat) (a b : Env → Sto → R D) : MS := fun ρ s => (a ρ s).to ρ fun x s => (b ρ s).to ρ fun y s => .nx ((ρ.set i (some x)).set j (some y)) s
def sAsgI (o i e : Env → Sto → R D) : MS := fun ρ s => (e ρ s).to ρ fun v s => (o ρ s).to ρ fun x s => (i ρ s).to ρ fun y s => outS ρ (setO x y v s)
def sAsgF (nc : Nat) (o : Env → Sto → R D) (f : Str) (e : Env → Sto → R D) : MS := fun ρ s => (e ρ s).to ρ fun v s => (o ρ s).to ρ fun x s => outS ρ (setF nc x f v s)
def sAugN (i : Nat) (op : BO) (e : Env → Sto → R D) : MS := fun ρ s => (mVar i ρ s).to ρ fun x s => (e ρ s).to ρ fun y s => outO (ipB op x y s) fun z s => .nx (ρ.set i (some z)) s
def sAugF (nc : Nat) (o : Env → Sto → R D) (f : Str) (op : BO) (k : Int) : MS := fun ρ s => (o ρ s).to ρ fun x s => outO (fldO nc x f s) fun v s => outO (ipB op v (.int k) s) fun z s => outS ρ (setF nc x f z s)
def sAugI (o i : Env → Sto → R D) (op : BO) (e : Env → Sto → R D) : MS := fun ρ s => (o ρ s).to ρ fun x s => (i ρ s).to ρ fun k s => dgetR x k s fun v => (e ρ s).to ρ fun y s => outO (ipB op v y s) fun z s => outS ρ (dputO x k z s)
def sRet (m : Env → Sto → R D) : MS := fun ρ s => (m ρ s).to ρ fun d s => .rt d s
def sIf (c : Env → Sto → R Bool) (a b : MS) : MS := fun ρ s => (c ρ s).to ρ fun k s => match k with
  | true => a ρ s
  | false => b ρ s
/-- a loop's turn is over -/
def Out.turn (o : Out) (f : MS) : Out := match o with
  | .nx ρ s => f ρ s
  | .ct ρ s => f ρ s
  | .bk ρ s => .nx ρ s
  | o => o
@[simp] theorem Out.turn_nx (ρ : Env) (s : Sto) (f : MS) : (Out.nx ρ s).turn f = f ρ s := rfl
@[simp] theorem Out.turn_ct (ρ : Env) (s : Sto) (f : MS) : (Out.ct ρ s).turn f = f ρ s := rfl
@[simp] theorem Out.turn_bk (ρ : Env) (s : Sto) (f : MS) : (Out.bk ρ s).turn f = .nx ρ s := rfl
@[simp] theorem Out.turn_rt (d : D) (s : Sto) (f : MS) : (Out.rt d s).turn f = .rt d s := rfl
@[simp] theorem Out.turn_ex (c : Nat) (ρ : Env) (s : Sto) (f : MS) : (Out.ex c ρ s).turn f = .ex c ρ s := rfl
@[simp] theorem Out.turn_bad (f : MS) : Out.bad.turn f = .bad := rfl
def wLoop (c : Env → Sto → R Bool) (b : MS) : Nat → MS
  | 0 => fun _ _ => .bad
  | n + 1 => fun ρ s => (c ρ s).to ρ fun k s => match k with
    | true => (b ρ s).turn (wLoop c b n)
    | false => .nx ρ s
def fLoop (src : Src) (tg : D → Env → Option Env) (b : MS) : Nat → Nat → MS
  | 0, _ => fun _ _ => .bad
  | f + 1, i => fun ρ s => match sItem src i s with
    | none => .bad
    | some none => .nx ρ s
    | some (some d) => match tg d ρ with
      | none => .bad
      | some ρ' => (b ρ' s).turn (fLoop src tg b f (i + 1))
def sFor (tg : Tg) (it : Env → Sto → R Src) (b : MS) : MS := fun ρ s => (it ρ s).to ρ fun src s => fLoop src (bindT tg) b (sMany src s) 0 ρ s
/-- no exception may leave -/
def Out.noex : Out → Out
  | .ex _ _ _ => .bad
  | o => o
def Out.unlock (r : Nat) : Out → Out
  | .nx ρ s => match openS r s with
    | some s' => .nx ρ s'
    | none => .bad
  | .rt d s => match openS r s with
    | some s' => .rt d s'
    | none => .bad
  | .bk ρ s => match openS r s with
    | some s' => .bk ρ s'
    | none => .bad
  | .ct ρ s => match openS r s with
    | some s' => .ct ρ s'
    | none => .bad
  | _ => .bad
def sLock (me : Env → Sto → R D) (mb : MS) : MS := fun ρ s => match refOf (me ρ s) with
  | none => .bad
  | some r => match lockS r s with
    | none => .bad
    | some s0 => (mb ρ s0).unlock r
section
variable (Γ : Gam) (fuel : Nat)
mutual
def sv : Stt → MS
  | .pass => .nx
  | .doc => .nx
  | .brk => .bk
  | .cnt => .ct
  | .never => fun _ _ => .bad
  | .retN => fun _ s => .rt .non s
  | .expr e => sExpr (ev Γ e)
  | .asg i e => sAsg i (ev Γ e)
  | .asgL i own tg it c e => sAsg i (mLc own tg (evI Γ it) (evC Γ c) (ev Γ e))
  | .asgT tg e => sAsgT tg (ev Γ e)
  | .par i j a b => sPar i j (ev Γ a) (ev Γ b)
  | .asgI o i e => sAsgI (ev Γ o) (ev Γ i) (ev Γ e)
  | .asgF o f e => sAsgF Γ.ncls (ev Γ o) f (ev Γ e)
  | .augN i op e => sAugN i op (ev Γ e)
  | .augF o f op k => sAugF Γ.ncls (ev Γ o) f op k
  | .augI o i op e => sAugI (ev Γ o) (ev Γ i) op (ev Γ e)
  | .ret e => sRet (ev Γ e)
  | .iff c a b => sIf (evT Γ c) (svs a) (svs b)
  | .whl c b => wLoop (evT Γ c) (svs b) fuel
  | .for_ tg it b => sFor tg (evI Γ it) (svs b)
  | .tryN b => fun ρ s => (svs b ρ s).noex
  | .lock e a => sLock (ev Γ e) (sv a)
def svs : Sts → MS
  | .nil => .nx
  | .cons a r => fun ρ s => (sv a ρ s).seq (svs r)
end
end

/-! ### readings -/
section
variable (S : St0) (W : WX)
def ResT (s₀ : Sto) (φ₀ : Nat → Addr) (H₀ : Hp) (o : Out) (D : Ends) : Prop :=
  match o with
  | .nx ρ s => ∀ φ H σ, Ext s₀.n φ₀ H₀ s.n φ H → RS S φ H s → RE S s.n φ H ρ σ → D.nx σ H
  | .rt d s => ∀ φ H v, Ext s₀.n φ₀ H₀ s.n φ H → RS S φ H s → RV S.K s.n φ H v d → D.rt v H
  | .bk ρ s => ∀ φ H σ, Ext s₀.n φ₀ H₀ s.n φ H → RS S φ H s → RE S s.n φ H ρ σ → D.bk σ H
  | .ct ρ s => ∀ φ H σ, Ext s₀.n φ₀ H₀ s.n φ H → RS S φ H s → RE S s.n φ H ρ σ → D.ct σ H
  | .ex c ρ s => ∀ φ H σ, Ext s₀.n φ₀ H₀ s.n φ H → RS S φ H s → RE S s.n φ H ρ σ → W (.ref (S.cls c)) none σ H
  | .bad => False
def tS (m : MS) : TS := fun D σ H => ∃ φ ρ s, RE S s.n φ H ρ σ ∧ RS S φ H s ∧ ResT S W s φ H (m ρ s) D
end
section
variable {S : St0} {W : WX} {σ : St} {s₀ s₁ : Sto} {φ₀ φ₁ : Nat → Addr} {H₀ H₁ : Hp} {D : Ends} {ρ : Env}
theorem ResT.ext {o : Out} (e : Ext s₀.n φ₀ H₀ s₁.n φ₁ H₁) (h : ResT S W s₀ φ₀ H₀ o D) : ResT S W s₁ φ₁ H₁ o D := by
  cases o with
  | bad => exact h
  | _ => exact fun φ H v e' rs rv => h φ H v (e.trans e') rs rv
theorem Res.to {r : R Ab.D} {f : Ab.D → Sto → Out} (h : ResT S W s₀ φ₀ H₀ (r.to ρ f) D) (re : RE S s₀.n φ₀ H₀ ρ σ) :
    Res S W σ s₀ φ₀ H₀ r fun v H => ∃ φ d s, Ext s₀.n φ₀ H₀ s.n φ H ∧ RS S φ H s ∧ RV S.K s.n φ H v d ∧ ResT S W s φ H (f d s) D := by
  cases r with
  | ok d s => exact fun φ H v e rs rv => ⟨φ, d, s, e, rs, rv, ResT.ext e h⟩
  | ex c s => exact fun φ H e rs => h φ H σ e rs (re.ext e)
  | bad => exact h
theorem ResB.to {r : R Bool} {f : Bool → Sto → Out} (h : ResT S W s₀ φ₀ H₀ (r.to ρ f) D) (re : RE S s₀.n φ₀ H₀ ρ σ) :
    ResB S W σ s₀ φ₀ H₀ r fun b H => ∃ φ s, Ext s₀.n φ₀ H₀ s.n φ H ∧ RS S φ H s ∧ ResT S W s φ H (f b s) D := by
  cases r with
  | ok d s => exact fun φ H e rs => ⟨φ, s, e, rs, ResT.ext e h⟩
  | ex c s => exact fun φ H e rs => h φ H σ e rs (re.ext e)
  | bad => exact h
theorem ResA.to {α : Type} {r : R α} {f : α → Sto → Out} (h : ResT S W s₀ φ₀ H₀ (r.to ρ f) D) (re : RE S s₀.n φ₀ H₀ ρ σ) :
    ResA S W σ s₀ φ₀ H₀ r fun a s φ H => Ext s₀.n φ₀ H₀ s.n φ H ∧ RS S φ H s ∧ ResT S W s φ H (f a s) D := by
  cases r with
  | ok d s => exact fun φ H e rs => ⟨e, rs, ResT.ext e h⟩
  | ex c s => exact fun φ H e rs => h φ H σ e rs (re.ext e)
  | bad => exact h
variable {H : Hp} {ma mb mc : Env → Sto → R Ab.D} {b : MS}
theorem imp_expr (h : tS S W (sExpr ma) D σ H) : tDrop (tE S W ma) D σ H := by
  obtain ⟨φ, ρ, s, re, rs, h⟩ := h
  exact ⟨φ, ρ, s, re, rs, (Res.to h re).mono fun v H1 ⟨φ1, d1, s1, e1, rs1, rv1, h1⟩ => h1 φ1 H1 _ .refl rs1 (re.ext e1)⟩
theorem imp_ret (h : tS S W (sRet ma) D σ H) : tRet (tE S W ma) D σ H := by
  obtain ⟨φ, ρ, s, re, rs, h⟩ := h
  exact ⟨φ, ρ, s, re, rs, (Res.to h re).mono fun v H1 ⟨φ1, d1, s1, e1, rs1, rv1, h1⟩ => h1 φ1 H1 _ .refl rs1 rv1⟩
theorem imp_asg {te : TE} {i : Nat} (ht : ∀ σ H Q, tE S W ma σ H Q → te σ H Q) (h : tS S W (sAsg i ma) D σ H) : tAsg te (gName i) D σ H := by
  obtain ⟨φ, ρ, s, re, rs, h⟩ := h
  refine ht σ H _ ⟨φ, ρ, s, re, rs, (Res.to h re).mono fun v H1 ⟨φ1, d1, s1, e1, rs1, rv1, h1⟩ => h1 φ1 H1 _ .refl rs1 ((re.ext e1).set i rv1)⟩
theorem imp_asgT {tg : Tg} (h : tS S W (sAsgT tg ma) D σ H) : tAsg (tE S W ma) (gTg S.K tg) D σ H := by
  obtain ⟨φ, ρ, s, re, rs, h⟩ := h
  refine ⟨φ, ρ, s, re, rs, (Res.to h re).mono fun v H1 ⟨φ1, d1, s1, e1, rs1, rv1, h1⟩ => ?_⟩
  cases hb : bindT tg d1 ρ with
  | none => rw [hb] at h1; exact h1.elim
  | some ρ' =>
    rw [hb] at h1
    exact bind_g tg hb (re.ext e1) rv1 fun σ' re' _ => h1 φ1 H1 _ .refl rs1 re'
theorem imp_par {i j : Nat} (h : tS S W (sPar i j ma mb) D σ H) : tPar i j (tCons (tE S W ma) (tCons (tE S W mb) tNil)) D σ H := by
  obtain ⟨φ, ρ, s, re, rs, h⟩ := h
  refine ⟨φ, ρ, s, re, rs, (Res.to h re).mono fun v H1 ⟨φ1, d1, s1, e1, rs1, rv1, h1⟩ => ?_⟩
  refine ⟨φ1, ρ, s1, re.ext e1, rs1, (Res.to h1 (re.ext e1)).mono fun w H2 ⟨φ2, d2, s2, e2, rs2, rv2, h2⟩ => ?_⟩
  exact ⟨v, w, rfl, h2 φ2 H2 _ .refl rs2 ((((re.ext e1).ext e2).set i (rv1.ext e2)).set j rv2)⟩
theorem imp_asgI (h : tS S W (sAsgI ma mb mc) D σ H) : tAsg (tE S W mc) (gSub (tE S W ma) (tE S W mb) (rSetG S)) D σ H := by
  obtain ⟨φ, ρ, s, re, rs, h⟩ := h
  refine ⟨φ, ρ, s, re, rs, (Res.to h re).mono fun v H1 ⟨φ1, d1, s1, e1, rs1, rv1, h1⟩ => ?_⟩
  have re1 := re.ext e1
  refine ⟨φ1, ρ, s1, re1, rs1, (Res.to h1 re1).mono fun w H2 ⟨φ2, d2, s2, e2, rs2, rv2, h2⟩ => ?_⟩
  have re2 := re1.ext e2
  refine ⟨φ2, ρ, s2, re2, rs2, (Res.to h2 re2).mono fun x H3 ⟨φ3, d3, s3, e3, rs3, rv3, h3⟩ => ?_⟩
  refine ⟨φ3, s3, d2, d3, d1, rs3, rv2.ext e3, rv3, rv1.ext (e2.trans e3), ?_⟩
  cases hs : setO d2 d3 d1 s3 with
  | none => rw [hs] at h3; exact h3.elim
  | some s4 =>
    rw [hs] at h3
    exact fun φ4 H4 e4 rs4 => h3 φ4 H4 σ e4 rs4 ((re2.ext e3).ext e4)
theorem RKs.putF {K : PySem.W.Frag} {n : Nat} {φ : Nat → Addr} {H : Hp} (f : Str) {v : V} {d : Ab.D} (r : RV K n φ H v d) : ∀ {vs : List (Str × V)} {ds : List (Str × Ab.D)}, RKs K n φ H vs ds → RKs K n φ H (L2.putF f v vs) (putFd f d ds)
  | _, _, .nil => .cons r .nil
  | _, _, .cons (k := k) q t => by
    unfold L2.putF putFd
    split
    · exact .cons r t
    · exact .cons q (RKs.putF f r t)
theorem RKs.len {κ : Type} {K : PySem.W.Frag} {n : Nat} {φ : Nat → Addr} {H : Hp} : ∀ {vs : List (κ × V)} {ds : List (κ × Ab.D)}, RKs K n φ H vs ds → vs.length = ds.length
  | _, _, .nil => rfl
  | _, _, .cons _ t => by rw [List.length_cons, List.length_cons, RKs.len t]
/-- a field is put -/
theorem setF_at {nc : Nat} {f : Str} {s s' : Sto} {φ : Nat → Addr} {x y : V} {d e : Ab.D} (hc : ∀ c, c < nc → Cls S.K (S.cls c) ∧ NoAttr S.K (S.cls c) f) (rs : RS S φ H s) (rx : RV S.K s.n φ H x d) (ry : RV S.K s.n φ H y e) (h : setF nc d f e s = some s') :
    ∃ a C dx fs, x = .ref a ∧ H a = some (.ins C dx fs) ∧ Cls S.K C ∧ NoAttr S.K C f ∧ fs.length < 1000 ∧ Ext s.n φ H s'.n φ (upd H a (.ins C dx (putF f y fs))) ∧ RS S φ (upd H a (.ins C dx (putF f y fs))) s' := by
  cases rx with
  | @ref r hr =>
    have g := rs.ob r hr
    simp only [setF] at h
    cases eg : s.g r with
    | ins c fs =>
      rw [eg] at g h
      obtain ⟨dx, vs, k1, k2⟩ := g
      simp only at h
      split at h
      · rename_i hcl
        cases h
        obtain ⟨c1, c2⟩ := hc c hcl.1
        have w : (s.g r).mu = true := by rw [eg]; rfl
        have ex := rs.ext_upd (u := .ins (S.cls c) dx (putF f y vs)) hr w
        exact ⟨_, _, dx, vs, rfl, k1, c1, c2, by rw [k2.len]; exact hcl.2, ex, rs.upd hr w ⟨dx, _, upd_same, RKs.putF f (ry.ext ex) (k2.ext ex)⟩⟩
      · cases h
    | _ => rw [eg] at h; cases h
  | _ => cases h
theorem imp_asgF {nc : Nat} {f : Str} (hc : ∀ c, c < nc → Cls S.K (S.cls c) ∧ NoAttr S.K (S.cls c) f) (h : tS S W (sAsgF nc ma f mb) D σ H) : sFld S.K (tE S W ma) (tE S W mb) f D σ H := by
  obtain ⟨φ, ρ, s, re, rs, h⟩ := h
  refine ⟨φ, ρ, s, re, rs, (Res.to h re).mono fun y H1 ⟨φ1, d1, s1, e1, rs1, rv1, h1⟩ => ?_⟩
  have re1 := re.ext e1
  refine ⟨φ1, ρ, s1, re1, rs1, (Res.to h1 re1).mono fun x H2 ⟨φ2, d2, s2, e2, rs2, rv2, h2⟩ => ?_⟩
  cases hs : setF nc d2 f d1 s2 with
  | none => rw [hs] at h2; exact h2.elim
  | some s3 =>
    rw [hs] at h2
    obtain ⟨a, C, dx, fs, q1, q2, q3, q4, q5, ex, rs3⟩ := setF_at hc rs2 rv2 (rv1.ext e2) hs
    exact ⟨a, C, dx, fs, q1, q2, q3, q4, q5, h2 _ _ _ ex rs3 ((re1.ext e2).ext ex)⟩
theorem outO.of {r : O} {f : Ab.D → Sto → Out} {s : Sto} {φ : Nat → Addr} {H : Hp} (h : ResT S W s φ H (outO r f) D) : ResO S s φ H r fun v H1 => ∃ φ1 d1 s1, Ext s.n φ H s1.n φ1 H1 ∧ RS S φ1 H1 s1 ∧ RV S.K s1.n φ1 H1 v d1 ∧ ResT S W s1 φ1 H1 (f d1 s1) D := by
  cases r with
  | none => exact h
  | some p => obtain ⟨d, s'⟩ := p; exact fun φ1 H1 v e rs rv => ⟨φ1, d, s', e, rs, rv, ResT.ext e h⟩
theorem imp_augN {i : Nat} {op : BO} (h : tS S W (sAugN i op ma) D σ H) : tAug i (tE S W ma) (rOp S (ipB op)) D σ H := by
  obtain ⟨φ, ρ, s, re, rs, h⟩ := h
  unfold sAugN at h
  cases hx : ρ[i]? with
  | none =>
    have e0 : mVar i ρ s = .bad := by unfold mVar; rw [hx]
    rw [e0] at h; exact h.elim
  | some o =>
    cases o with
    | none =>
      have e0 : mVar i ρ s = .bad := by unfold mVar; rw [hx]
      rw [e0] at h; exact h.elim
    | some d =>
      have e0 : mVar i ρ s = .ok d s := by unfold mVar; rw [hx]
      rw [e0] at h
      have h : ResT S W s φ H ((ma ρ s).to ρ fun y s => outO (ipB op d y s) fun z s => .nx (ρ.set i (some z)) s) D := h
      obtain ⟨v, h1, h2⟩ := re.2 i d hx
      refine ⟨v, h1, φ, ρ, s, re, rs, (Res.to h re).mono fun y H1 ⟨φ1, d1, s1, e1, rs1, rv1, h3⟩ => ?_⟩
      refine ⟨φ1, s1, d, d1, rs1, h2.ext e1, rv1, ?_⟩
      have h4 := outO.of h3
      cases hr : ipB op d d1 s1 with
      | none => rw [hr] at h4; exact h4.elim
      | some p =>
        obtain ⟨z, s2⟩ := p
        rw [hr] at h4
        intro φ2 H2 zv e2 rs2 rz
        obtain ⟨φ3, d3, s3, e3, rs3, rv3, h5⟩ := h4 φ2 H2 zv e2 rs2 rz
        exact h5 φ3 H2 _ .refl rs3 (((re.ext e1).ext e3).set i rv3)
theorem ipB_s {op : BO} {x y z : Ab.D} {s s' : Sto} (h : ipB op x y s = some (z, s')) : s' = s := by
  unfold ipB at h
  split at h <;> first | (cases h; done) | (cases h; rfl)
theorem imp_augF {nc : Nat} {f : Str} {op : BO} {k : Int} (hc : ∀ c, c < nc → Cls S.K (S.cls c) ∧ NoAttr S.K (S.cls c) f) (h : tS S W (sAugF nc ma f op k) D σ H) : sFldAug S.K (tE S W ma) (tC (.int k)) (rOp S (ipB op)) f D σ H := by
  obtain ⟨φ, ρ, s, re, rs, h⟩ := h
  refine ⟨φ, ρ, s, re, rs, (Res.to h re).mono fun x H1 ⟨φ1, d1, s1, e1, rs1, rv1, h1⟩ => ?_⟩
  have re1 := re.ext e1
  cases rv1 with
  | @ref r hr =>
    have g := rs1.ob r hr
    cases eg : s1.g r with
    | ins c fs =>
      rw [eg] at g
      obtain ⟨dx, vs, k1, k2⟩ := g
      by_cases hcl : c < nc
      · obtain ⟨c1, c2⟩ := hc c hcl
        rcases k2.look f with ⟨a, b⟩ | ⟨v, d, a, b, rv⟩
        · have e0 : fldO nc (.ref r) f s1 = none := by simp only [fldO, eg, if_pos hcl, b]; rfl
          rw [e0] at h1; exact h1.elim
        · have e0 : fldO nc (.ref r) f s1 = some (d, s1) := by simp only [fldO, eg, if_pos hcl, b]; rfl
          rw [e0] at h1
          refine ⟨_, S.cls c, dx, vs, v, rfl, k1, c1, c2, a, φ1, s1, d, .int k, rs1, rv, .int k, ?_⟩
          have h1 : ResT S W s1 φ1 H1 (outO (ipB op d (.int k) s1) fun z s => outS ρ (setF nc (.ref r) f z s)) D := h1
          cases hp : ipB op d (.int k) s1 with
          | none => rw [hp] at h1; exact h1.elim
          | some p =>
            obtain ⟨z, s2⟩ := p
            cases ipB_s hp
            rw [hp] at h1
            intro φ2 H2 zv e2 rs2 rz
            have h1 : ResT S W s1 φ1 H1 (outS ρ (setF nc (.ref r) f z s1)) D := h1
            by_cases hl : fs.length < 1000
            · have es : setF nc (.ref r) f z s1 = some (s1.put r (.ins c (putFd f z fs))) := by simp only [setF, eg]; rw [if_pos ⟨hcl, hl⟩]
              rw [es] at h1
              have g2 := rs2.ob r hr
              rw [eg] at g2
              obtain ⟨dx', vs', q1, q2⟩ := g2
              rw [e2.φ r hr] at q1
              have w : (s1.g r).mu = true := by rw [eg]; rfl
              have ex := rs2.ext_upd (u := .ins (S.cls c) dx' (putF f zv vs')) hr w
              have rs3 := rs2.upd (u := .ins (S.cls c) dx' (putF f zv vs')) (o := .ins c (putFd f z fs)) hr w ⟨dx', _, upd_same, RKs.putF f (rz.ext ex) (q2.ext ex)⟩
              rw [e2.φ r hr] at ex rs3
              exact ⟨dx', vs', q1, by rw [q2.len]; exact hl, h1 φ2 _ σ (e2.trans ex) rs3 ((re1.ext e2).ext ex)⟩
            · have es : setF nc (.ref r) f z s1 = none := by simp only [setF, eg]; rw [if_neg (fun z => hl z.2)]
              rw [es] at h1; exact h1.elim
      · have e0 : fldO nc (.ref r) f s1 = none := by simp only [fldO, eg, if_neg hcl]
        rw [e0] at h1; exact h1.elim
    | _ =>
      have e0 : fldO nc (.ref r) f s1 = none := by simp only [fldO, eg]
      rw [e0] at h1; exact h1.elim
  | _ => exact h1.elim
theorem dput_at {r : Nat} {s s' : Sto} {φ : Nat → Addr} {v y : V} {d e : Ab.D} (R : RS S φ H s) (hr : r < s.n) (rv : RV S.K s.n φ H y d) (rx : RV S.K s.n φ H v e) (h : dputO (.ref r) d e s = some s') :
    ∃ H', DPut H (φ r) y v H' ∧ Ext s.n φ H s'.n φ H' ∧ RS S φ H' s' := by
  have hd : ∃ o, dgetO s r d = some o := by
    unfold dputO at h
    simp only at h
    split at h
    · rename_i z; exact Option.isSome_iff_exists.mp z
    · cases h
  have h : setO (.ref r) d e s = some s' := by
    unfold dputO at h
    simp only at h
    split at h
    · exact h
    · cases h
  have g := R.ob r hr
  simp only [setO] at h
  cases eg : s.g r with
  | dk lk kvs =>
    rw [eg] at g h
    cases lk with
    | true => cases h
    | false =>
      simp only at h
      obtain ⟨vs, h1, h2⟩ := g
      have h1 : H (φ r) = some (.dK vs) := h1
      cases ek : keyO d with
      | none => rw [ek] at h; cases h
      | some k =>
        rw [ek] at h
        simp only [Option.bind_some] at h
        split at h
        · rename_i hz
          cases h
          have w : (s.g r).mu = true := by rw [eg]; rfl
          have ex := R.ext_upd (u := .dK (putK vs k v)) hr w
          exact ⟨_, .inl ⟨vs, k, h1, key_rv rv ek, by rw [h2.length]; exact hz, rfl⟩, ex, R.upd hr w ⟨_, upd_same, RKs.put k (rx.ext ex) (h2.ext ex)⟩⟩
        · cases h
  | dt lk kvs =>
    rw [eg] at g h
    cases lk with
    | true => cases h
    | false =>
      simp only at h
      obtain ⟨vs, h1, h2⟩ := g
      have h1 : H (φ r) = some (.dT vs) := h1
      cases ek : keysO d with
      | none => rw [ek] at h; cases h
      | some k =>
        rw [ek] at h
        simp only [Option.bind_some] at h
        split at h
        · rename_i hz
          cases h
          have w : (s.g r).mu = true := by rw [eg]; rfl
          obtain ⟨b, e1, e2⟩ := keysO_tup rv ek
          have ex := R.ext_upd (u := .dT (putK vs k v)) hr w
          exact ⟨_, .inr ⟨vs, k, b, h1, e1, e2, by rw [h2.length]; exact hz, rfl⟩, ex, R.upd hr w ⟨_, upd_same, RKs.put k (rx.ext ex) (h2.ext ex)⟩⟩
        · cases h
  | lst xs =>
    unfold dgetO at hd
    rw [eg] at hd
    obtain ⟨_, hd⟩ := hd
    cases hd
  | _ => rw [eg] at h; cases h
theorem imp_augI {op : BO} (h : tS S W (sAugI ma mb op mc) D σ H) : sDAug (tE S W ma) (tE S W mb) (tE S W mc) (rOp S (ipB op)) D σ H := by
  obtain ⟨φ, ρ, s, re, rs, h⟩ := h
  refine ⟨φ, ρ, s, re, rs, (Res.to h re).mono fun x H1 ⟨φ1, d1, s1, e1, rs1, rv1, h1⟩ => ?_⟩
  have re1 := re.ext e1
  refine ⟨φ1, ρ, s1, re1, rs1, (Res.to h1 re1).mono fun y H2 ⟨φ2, d2, s2, e2, rs2, rv2, h2⟩ => ?_⟩
  have re2 := re1.ext e2
  have rv1 := rv1.ext e2
  cases rv1 with
  | @ref r hr =>
    cases hg : dgetO s2 r d2 with
    | none =>
      have h2 : ResT S W s2 φ2 H2 (match dgetO s2 r d2 with | some (some d) => _ | _ => .bad) D := h2
      rw [hg] at h2; exact h2.elim
    | some o =>
      cases o with
      | none =>
        have h2 : ResT S W s2 φ2 H2 (match dgetO s2 r d2 with | some (some d) => _ | _ => .bad) D := h2
        rw [hg] at h2; exact h2.elim
      | some d =>
        have h2 : ResT S W s2 φ2 H2 (match dgetO s2 r d2 with | some (some d) => (mc ρ s2).to ρ fun y s => outO (ipB op d y s) fun z s => outS ρ (dputO (.ref r) d2 z s) | _ => .bad) D := h2
        rw [hg] at h2
        have h2 : ResT S W s2 φ2 H2 ((mc ρ s2).to ρ fun y s => outO (ipB op d y s) fun z s => outS ρ (dputO (.ref r) d2 z s)) D := h2
        obtain ⟨o', g1, g2⟩ := dget_at rs2 hr rv2 hg
        rcases g2 with ⟨z, _⟩ | ⟨x', v, ex, rfl, rv⟩
        · cases z
        · cases ex
          refine ⟨_, v, rfl, g1, φ2, ρ, s2, re2, rs2, (Res.to h2 re2).mono fun w H3 ⟨φ3, d3, s3, e3, rs3, rv3, h3⟩ => ?_⟩
          refine ⟨φ3, s3, d, d3, rs3, rv.ext e3, rv3, ?_⟩
          have h3 := outO.of h3
          cases hp : ipB op d d3 s3 with
          | none => rw [hp] at h3; exact h3.elim
          | some p =>
            obtain ⟨z, s4⟩ := p
            rw [hp] at h3
            intro φ4 H4 zv e4 rs4 rz
            obtain ⟨φ5, d5, s5, e5, rs5, rv5, h5⟩ := h3 φ4 H4 zv e4 rs4 rz
            have ee := e3.trans e5
            cases hs : dputO (.ref r) d2 d5 s5 with
            | none => rw [hs] at h5; exact h5.elim
            | some s6 =>
              rw [hs] at h5
              have hr5 : r < s5.n := Nat.lt_of_lt_of_le hr ee.le
              obtain ⟨H6, p1, ex, rs6⟩ := dput_at rs5 hr5 (rv2.ext ee) rv5 hs
              rw [ee.φ r hr] at p1
              exact ⟨H6, p1, h5 φ5 H6 σ ex rs6 ((re2.ext ee).ext ex)⟩
  | _ => exact h2.elim
end
end Ab
set_option Elab.async false
set_option linter.all false
set_option maxRecDepth 100000
set_option maxHeartbeats 2000000
/-! Ab13: loops; the checker of statements; checked statements mean what they say -/
namespace Ab
open PySem L2

section
variable {S : St0} {W : WX} {σ : St} {H : Hp} {D : Ends} {ρ : Env}
theorem RE.ext0 {n n' : Nat} {φ φ' : Nat → Addr} {H H' : Hp} {ρ : Env} (h : RE S n φ H ρ σ) (e : E0 n φ H n' φ' H') : RE S n' φ' H' ρ σ :=
  ⟨h.1, fun i d hi => let ⟨v, h1, h2⟩ := h.2 i d hi; ⟨v, h1, h2.ext0 e⟩⟩
theorem ResT.seq {o : Out} {f : MS} {s : Sto} {φ : Nat → Addr} (h : ResT S W s φ H (o.seq f) D) : ResT S W s φ H o { D with nx := tS S W f D } := by
  cases o with
  | nx ρ s => exact fun φ H σ e rs re => ⟨φ, ρ, s, re, rs, ResT.ext e h⟩
  | _ => exact h
theorem ResT.turn {o : Out} {f : MS} {s : Sto} {φ : Nat → Addr} (h : ResT S W s φ H (o.turn f) D) : ResT S W s φ H o { D with nx := tS S W f D, ct := tS S W f D, bk := D.nx } := by
  cases o with
  | nx ρ s => exact fun φ H σ e rs re => ⟨φ, ρ, s, re, rs, ResT.ext e h⟩
  | ct ρ s => exact fun φ H σ e rs re => ⟨φ, ρ, s, re, rs, ResT.ext e h⟩
  | _ => exact h
theorem ResT.nox {o : Out} {s : Sto} {φ : Nat → Addr} (h : ResT S W s φ H o.noex D) : ResT S W0 s φ H o D := by
  cases o with
  | ex c ρ s => exact h.elim
  | _ => exact h
theorem imp_lockS {ma : Env → Sto → R Ab.D} {b : MS} (h : tS S W (sLock ma b) D σ H) : tLock (tS S W0 b) D σ H := by
  obtain ⟨φ, ρ, s, re, rs, h⟩ := h
  unfold sLock at h
  cases er : refOf (ma ρ s) with
  | none => rw [er] at h; exact h.elim
  | some r =>
    rw [er] at h
    simp only at h
    cases el : lockS r s with
    | none => rw [el] at h; exact h.elim
    | some s0 =>
      rw [el] at h
      simp only at h
      obtain ⟨hr, hn, u, hu, mt, nt, nf, key⟩ := lock_at rs el
      refine ⟨φ r, u, hu, mt, fun od => ?_⟩
      obtain ⟨ex, rs0, op⟩ := key od
      refine ⟨φ, ρ, s0, re.ext ex, rs0, ?_⟩
      generalize b ρ s0 = m at h
      cases m with
      | nx ρ1 s1 =>
        intro φ1 H1 σ1 e1 rs1 re1
        have h : ResT S W s φ H (match openS r s1 with | some s' => .nx ρ1 s' | none => .bad) D := h
        cases eo : openS r s1 with
        | none => rw [eo] at h; exact h.elim
        | some s2 =>
          rw [eo] at h
          obtain ⟨h1, h2, h3, h4⟩ := op s1 s2 φ1 H1 e1 rs1 eo
          exact ⟨h1, h φ1 _ σ1 h2 h3 (re1.ext0 h4)⟩
      | rt d s1 =>
        intro φ1 H1 v e1 rs1 rv1
        have h : ResT S W s φ H (match openS r s1 with | some s' => .rt d s' | none => .bad) D := h
        cases eo : openS r s1 with
        | none => rw [eo] at h; exact h.elim
        | some s2 =>
          rw [eo] at h
          obtain ⟨h1, h2, h3, h4⟩ := op s1 s2 φ1 H1 e1 rs1 eo
          exact ⟨h1, h φ1 _ v h2 h3 (rv1.ext0 h4)⟩
      | bk ρ1 s1 =>
        intro φ1 H1 σ1 e1 rs1 re1
        have h : ResT S W s φ H (match openS r s1 with | some s' => .bk ρ1 s' | none => .bad) D := h
        cases eo : openS r s1 with
        | none => rw [eo] at h; exact h.elim
        | some s2 =>
          rw [eo] at h
          obtain ⟨h1, h2, h3, h4⟩ := op s1 s2 φ1 H1 e1 rs1 eo
          exact ⟨h1, h φ1 _ σ1 h2 h3 (re1.ext0 h4)⟩
      | ct ρ1 s1 =>
        intro φ1 H1 σ1 e1 rs1 re1
        have h : ResT S W s φ H (match openS r s1 with | some s' => .ct ρ1 s' | none => .bad) D := h
        cases eo : openS r s1 with
        | none => rw [eo] at h; exact h.elim
        | some s2 =>
          rw [eo] at h
          obtain ⟨h1, h2, h3, h4⟩ := op s1 s2 φ1 H1 e1 rs1 eo
          exact ⟨h1, h φ1 _ σ1 h2 h3 (re1.ext0 h4)⟩
      | ex c ρ1 s1 => exact h.elim
      | bad => exact h.elim
theorem tS_seq {a b : MS} (h : tS S W (fun ρ s => (a ρ s).seq b) D σ H) : tSeq (tS S W a) (tS S W b) D σ H := by
  obtain ⟨φ, ρ, s, re, rs, h⟩ := h
  exact ⟨φ, ρ, s, re, rs, ResT.seq h⟩
theorem imp_if {c : Env → Sto → R Bool} {a b : MS} (h : tS S W (sIf c a b) D σ H) : tIfS (tT S W c) (tS S W a) (tS S W b) D σ H := by
  obtain ⟨φ, ρ, s, re, rs, h⟩ := h
  refine ⟨φ, ρ, s, re, rs, (ResB.to h re).mono fun k H1 ⟨φ1, s1, e1, rs1, h1⟩ => ?_⟩
  cases k with
  | true => exact iteT ⟨φ1, ρ, s1, re.ext e1, rs1, h1⟩
  | false => exact iteF ⟨φ1, ρ, s1, re.ext e1, rs1, h1⟩
theorem imp_whl {c : Env → Sto → R Bool} {b : MS} {n : Nat} (h : tS S W (wLoop c b n) D σ H) : tWhile (tT S W c) (tS S W b) D σ H := by
  refine ⟨fun m σ H => tS S W (wLoop c b m) D σ H, ⟨n, h⟩, ?_⟩
  rintro m σ H ⟨φ, ρ, s, re, rs, h⟩
  cases m with
  | zero => exact h.elim
  | succ m =>
    refine ⟨φ, ρ, s, re, rs, (ResB.to h re).mono fun k H1 ⟨φ1, s1, e1, rs1, h1⟩ => ?_⟩
    cases k with
    | true => exact iteT ⟨tS S W (wLoop c b m) D, fun σ' H' q => ⟨m, Nat.lt_succ_self _, q⟩, φ1, ρ, s1, re.ext e1, rs1, ResT.turn h1⟩
    | false => exact iteF (h1 φ1 H1 σ .refl rs1 (re.ext e1))
theorem imp_for {tg : Tg} {mi : Env → Sto → R Src} {b : MS} (h : tS S W (sFor tg mi b) D σ H) : tFor (tI S W mi) (gTg S.K tg) (tS S W b) D σ H := by
  obtain ⟨φ, ρ, s, re, rs, h⟩ := h
  refine ⟨φ, ρ, s, re, rs, (ResA.to h re).mono fun src s1 φ1 H1 ⟨e1, rs1, h1⟩ J hJ => ?_⟩
  refine ⟨fun i m σ Hc => ∃ φc ρc sc, Ext s1.n φ1 H1 sc.n φc Hc ∧ RE S sc.n φc Hc ρc σ ∧ RS S φc Hc sc ∧ ResT S W sc φc Hc (fLoop src (bindT tg) b m i ρc sc) D, ⟨sMany src s1, φ1, ρ, s1, .refl, re.ext e1, rs1, h1⟩, ?_⟩
  rintro i m σ Hc ⟨φc, ρc, sc, exc, rec, rsc, hr⟩
  cases m with
  | zero => exact hr.elim
  | succ f =>
    have J1 := hJ sc φc Hc exc rsc i
    unfold fLoop at hr
    cases hi : sItem src i sc with
    | none => rw [hi] at hr; exact hr.elim
    | some o =>
      rw [hi] at hr J1
      cases o with
      | none => exact .inl ⟨J1, hr φc Hc σ .refl rsc rec⟩
      | some d =>
        obtain ⟨J1, J2⟩ := J1
        refine .inr ⟨J1, fun σ H' => ∃ φc ρc sc, Ext s1.n φ1 H1 sc.n φc H' ∧ RE S sc.n φc H' ρc σ ∧ RS S φc H' sc ∧ ResT S W sc φc H' (fLoop src (bindT tg) b f (i + 1) ρc sc) D, fun σ' H' hN => ⟨f, Nat.lt_succ_self _, hN⟩, fun x H' hy => ?_⟩
        obtain ⟨ey, rsy, rvy⟩ := J2 x H' hy
        simp only at hr
        cases hb : bindT tg d ρc with
        | none => rw [hb] at hr; exact hr.elim
        | some ρ' =>
          rw [hb] at hr
          simp only at hr
          refine bind_g tg hb (rec.ext ey) rvy fun σ2 re2 _ => ⟨φc, ρ', sc, re2, rsy, ?_⟩
          have hr := ResT.ext ey hr
          generalize hb2 : b ρ' sc = o at hr
          have base := exc.trans ey
          cases o with
          | nx ρ2 s2 => exact fun φ2 H2 σ2 e2 rs2 re2 => ⟨φ2, ρ2, s2, base.trans e2, re2, rs2, ResT.ext e2 hr⟩
          | ct ρ2 s2 => exact fun φ2 H2 σ2 e2 rs2 re2 => ⟨φ2, ρ2, s2, base.trans e2, re2, rs2, ResT.ext e2 hr⟩
          | _ => exact hr
end

/-! ### the checker -/
def notTup : Expr → Bool
  | .Tuple .. => false
  | _ => true
def locB (sc : Scope) (x : Str) : Bool := match sc.names.lookup x with
  | some .local => true
  | _ => false
def lineOk (y : Str) (py : Pos) : Expr → Bool
  | .ListComp _ _ scope p => (py.line == p.line) && !(scope.names.any fun (n, k) => n == y && (k == .local || k == .cell))
  | _ => false
section
variable (I : Inf) (N : List Str) (sc : Scope)
mutual
def chkS : Stt → Stmt → Bool
  | .pass, .Pass _ => true
  | .doc, .Expr (.Constant (.str _) _ _) _ => true
  | .brk, .Break _ => true
  | .cnt, .Continue _ => true
  | .never, _ => true
  | .retN, .Return none _ => true
  | .ret e, .Return (some x) _ => chk I N sc e x
  | .expr e, .Expr x _ => noComp x && chk I N sc e x
  | .asg i e, .Assign [.Name x _] v _ => decide (N[i]? = some x) && stoB true sc x && noComp v && chk I N sc e v
  | .asgL i own tg it c e, .Assign [.Name x py] v _ => decide (N[i]? = some x) && locB sc x && lineOk x py v && chk I N sc (.lc own tg it c e) v
  | .asgT tg e, .Assign [t] v _ => isTup t && chkT N sc true tg t && notTup v && noComp v && noStar t && chk I N sc e v
  | .par i j a b, .Assign [.Tuple [.Name x px, .Name y py] _ _] (.Tuple [u, v] _ _) _ => decide (N[i]? = some x) && decide (N[j]? = some y) && decide (i ≠ j) && locB sc x && locB sc y && (x != y) && (py.line == px.line) && noStar u && noStar v
      && !([u, v].all (foldedForSure 8)) && !([u, v].all (constantsAlone 8)) && chk I N sc a u && chk I N sc b v
  | .asgI o i e, .Assign [.Subscript x y _] v _ => noSlice y && chk I N sc o x && chk I N sc i y && chk I N sc e v
  | .asgF o f e, .Assign [.Attribute x g _] v _ => decide (f = g) && decide (f ∈ I.fld) && chk I N sc o x && chk I N sc e v
  | .augN i op e, .AugAssign (.Name x _) o v _ => decide (o = op.ast) && decide (N[i]? = some x) && stoB true sc x && chk I N sc e v
  | .augF o f op k, .AugAssign (.Attribute x g _) p (.Constant (.int k') _ _) _ => decide (p = op.ast) && decide (k = k') && decide (f = g) && decide (f ∈ I.fld) && chk I N sc o x
  | .augI o i op e, .AugAssign (.Subscript x y _) p v _ => decide (p = op.ast) && noSlice y && chk I N sc o x && chk I N sc i y && chk I N sc e v
  | .iff c a b, .If x p q _ => chk I N sc c x && chkSs a p && chkSs b q
  | .whl c b, .While x p [] _ => chk I N sc c x && chkSs b p
  | .for_ tg it b, .For t y p [] _ => chkT N sc true tg t && chkI I N sc it t y && noSet y && chkSs b p
  | .tryN b, .Try p (_ :: _) [] [] _ => chkSs b p
  | .lock _ a, x => chkS a x
  | _, _ => false
def chkSs : Sts → List Stmt → Bool
  | .nil, [] => true
  | .cons a r, x :: xs => chkS a x && chkSs r xs
  | _, _ => false
end
end
end Ab
set_option Elab.async false
set_option linter.all false
set_option maxRecDepth 100000
set_option maxHeartbeats 4000000
/-! Ab14: checked statements mean what their terms say -/
namespace Ab
open PySem L2

structure SOk (S : St0) (I : Inf) (Γ : Gam) (N : List Str) (X : Cx) (sc : Scope) : Prop where
  x : XOk S I Γ N X sc true
  kind : X.env.scope.kind = .function
  po : PassesOwn (model X.prog X.w) X.A X.env X.xe
  stk : X.stack = X.env :: X.outer
  fr : X.env.frame = some X.env.locals
section
variable {S : St0} {I : Inf} {Γ : Gam} {N : List Str} {X : Cx} {sc : Scope}
theorem XOk.wish {df : Bool} (h : XOk S I Γ N X sc df) (E : Value → Shared → Prop) : XOk S I Γ N (X.wish E) sc df :=
  ⟨h.hK, h.hN, h.nd, h.sc, h.fn, h.calm, h.units, h.bf, h.isi, h.tys, h.rng, h.zip, h.enm, h.gl, h.guard,
    fun x f e => let ⟨a, h1, h2, ⟨h3⟩⟩ := h.fns x f e; ⟨a, h1, h2, ⟨h3⟩⟩, fun x c e => let ⟨a, h1, h2, ⟨h3⟩⟩ := h.cls x c e; ⟨a, h1, h2, ⟨h3⟩⟩, fun c m f e => let ⟨a, h1, h2, ⟨h3⟩⟩ := h.mth c m f e; ⟨a, h1, h2, ⟨h3⟩⟩, h.fld, h.kd⟩
theorem SOk.nox (h : SOk S I Γ N X sc) : SOk S I Γ N X.nox sc := ⟨h.x.wish _, h.kind, PassesOwn.never, h.stk, h.fr⟩
theorem locB_of {x : Str} (h : locB sc x = true) : sc.names.lookup x = some .local := by
  unfold locB at h
  split at h
  · rename_i e; exact e
  · cases h
theorem swaps_sub {e o i : Expr} {p : Pos} {l : Nat} {env : PySem.Env} : swapsWith e (some (.Subscript o i p)) l env = pure false := by
  cases e <;> rfl
theorem swaps_att {e o : Expr} {f : Str} {p : Pos} {l : Nat} {env : PySem.Env} : swapsWith e (some (.Attribute o f p)) l env = pure false := by
  cases e <;> rfl
theorem swapped_notTup {t e : Expr} {env : PySem.Env} (h : notTup e = true) : swappedStores [t] e env = pure none := by
  unfold swappedStores
  cases t <;> cases e <;> first | rfl | cases h
theorem swapped_sub {o i e : Expr} {p : Pos} {env : PySem.Env} : swappedStores [.Subscript o i p] e env = pure none := by
  unfold swappedStores
  cases e <;> rfl
theorem assign_one {e : Expr} {env : PySem.Env} (h : noStar e = true) : (assignEach [e] env).map (·.2) = [assign e env] := assign_cons h
theorem assign_sub {o i : Expr} {p : Pos} {env : PySem.Env} (h : noSlice i = true) : ∀ v, assign (.Subscript o i p) env v = (do
      let ov ← holding [v] (eval o env)
      let iv ← holding [v, ov] (eval i env)
      standAt p
      holding [v, ov, iv] (setItem ov iv v)
      release [v, ov, iv] []) := by
  intro v
  cases i <;> first | rfl | cases h
theorem augStore_plain {i : Expr} (h : noSlice i = true) : ∀ ov iv new, augStore i ov iv new = (do holding [new, ov, iv] (setItem ov iv new); release [new, ov, iv] []; pure .next) := by
  intro ov iv new
  cases i <;> first | rfl | cases h
theorem swapped_par {x y : Str} {px py pt pt2 : Pos} {k k2 : Nat} {u v : Expr} {env : PySem.Env} (hk : env.scope.kind = .function) (hx : env.scope.names.lookup x = some .local) (hy : env.scope.names.lookup y = some .local)
    (hl : (py.line == px.line) = true) (hne : (x != y) = true) (hu : noStar u = true) (hv : noStar v = true) (h1 : (!([u, v].all (foldedForSure 8))) = true) (h2 : (!([u, v].all (constantsAlone 8))) = true) :
    swappedStores [.Tuple [.Name x px, .Name y py] k pt] (.Tuple [u, v] k2 pt2) env = pure (some [x, y]) := by
  have kx : env.kindOf x = some .local := hx
  have ky : env.kindOf y = some .local := hy
  have hb : env.blockKind = .function := by unfold Env.blockKind; rw [hk]; rfl
  have hst : ([u, v].any fun | .Starred .. => true | _ => false) = false := by
    cases u <;> first | (cases hu; done) | (cases v <;> first | (cases hv; done) | rfl)
  have hne' : x ≠ y := by simpa using hne
  have h1 : ([u, v].all (foldedForSure 8)) = false := by
    cases e : [u, v].all (foldedForSure 8) with
    | false => rfl
    | true => rw [e] at h1; cases h1
  have h2 : ([u, v].all (constantsAlone 8)) = false := by
    cases e : [u, v].all (constantsAlone 8) with
    | false => rfl
    | true => rw [e] at h2; cases h2
  have e2 : (y == x) = false := by simpa using hne'.symm
  have hl' : py.line = px.line := by simpa using hl
  unfold swappedStores
  simp only [hb, hst, h1, h2]
  simp [kx, ky, hl', Expr.pos, List.eraseDups, hne', hne'.symm, List.eraseDupsBy, List.eraseDupsBy.loop, h1, h2]
  rw [if_neg]
  · rw [e2]
    simp
  · rintro (z | z)
    · cases u <;> first | (cases z; done) | (cases hu; done)
    · cases v <;> first | (cases z; done) | (cases hv; done)
theorem rd_of (op : BO) : InOp X op.ast (rOp S (ipB op)) := fun pins s σ H x y v u Q I r1 r2 q => ip_sound (S := S) op pins s σ H x y v u Q I r1 r2 q
theorem ti_of (op : BO) : PIp X op.ast (rOp S (ipB op)) := fun pins s σ H x y v u Q I r1 r2 q => ip_sound (S := S) op pins s σ H x y v u Q I r1 r2 q
structure SndS (S : St0) (I : Inf) (Γ : Gam) (N : List Str) (fuel : Nat) (a : Stt) : Prop where
  ps : ∀ {x : Stmt} {X : Cx} {sc : Scope} {W : WX}, SOk S I Γ N X sc → Takes X W → chkS I N sc a x = true → PS X x (tS S W (sv Γ fuel a))
structure SndSs (S : St0) (I : Inf) (Γ : Gam) (N : List Str) (fuel : Nat) (a : Sts) : Prop where
  ps : ∀ {x : List Stmt} {X : Cx} {sc : Scope} {W : WX}, SOk S I Γ N X sc → Takes X W → chkSs I N sc a x = true → PSs X x (tS S W (svs Γ fuel a))
variable {fuel : Nat}
theorem sn_pass : SndS S I Γ N fuel .pass := ⟨fun {x X sc W} h tk c => by
  cases x with
  | Pass p => exact ps_imp ps_pass fun D σ H ⟨φ, ρ, s, re, rs, q⟩ => q φ H σ .refl rs re
  | _ => exact Bool.noConfusion (show false = true from c)⟩
theorem sn_brk : SndS S I Γ N fuel .brk := ⟨fun {x X sc W} h tk c => by
  cases x with
  | Break p => exact ps_imp ps_break fun D σ H ⟨φ, ρ, s, re, rs, q⟩ => q φ H σ .refl rs re
  | _ => exact Bool.noConfusion (show false = true from c)⟩
theorem sn_cnt : SndS S I Γ N fuel .cnt := ⟨fun {x X sc W} h tk c => by
  cases x with
  | Continue p => exact ps_imp ps_continue fun D σ H ⟨φ, ρ, s, re, rs, q⟩ => q φ H σ .refl rs re
  | _ => exact Bool.noConfusion (show false = true from c)⟩
theorem sn_never : SndS S I Γ N fuel .never := ⟨fun {x X sc W} h tk c => ps_imp ps_never fun D σ H ⟨φ, ρ, s, re, rs, q⟩ => q⟩
theorem sn_doc : SndS S I Γ N fuel .doc := ⟨fun {x X sc W} h tk c => by
  cases x with
  | Expr e p =>
    cases e with
    | Constant k a b =>
      cases k with
      | str z => exact ps_imp ps_doc fun D σ H ⟨φ, ρ, s, re, rs, q⟩ => q φ H σ .refl rs re
      | _ => exact Bool.noConfusion (show false = true from c)
    | _ => exact Bool.noConfusion (show false = true from c)
  | _ => exact Bool.noConfusion (show false = true from c)⟩
theorem sn_retN : SndS S I Γ N fuel .retN := ⟨fun {x X sc W} h tk c => by
  cases x with
  | Return e p =>
    cases e with
    | none => exact ps_imp ps_retN fun D σ H ⟨φ, ρ, s, re, rs, q⟩ => q φ H _ .refl rs .non
    | _ => exact Bool.noConfusion (show false = true from c)
  | _ => exact Bool.noConfusion (show false = true from c)⟩
theorem sn_ret (e : E) : SndS S I Γ N fuel (.ret e) := ⟨fun {x X sc W} h tk c => by
  cases x with
  | Return o p =>
    cases o with
    | some y => exact ps_imp (ps_ret ((snd e).pe h.x tk c)) fun D σ H q => imp_ret q
    | _ => exact Bool.noConfusion (show false = true from c)
  | _ => exact Bool.noConfusion (show false = true from c)⟩
theorem sn_expr (e : E) : SndS S I Γ N fuel (.expr e) := ⟨fun {x X sc W} h tk c => by
  cases x with
  | Expr y p =>
    simp only [chkS, Bool.and_eq_true] at c
    exact ps_imp (ps_expr ((snd e).pe h.x tk c.2) (swaps_no c.1)) fun D σ H q => imp_expr q
  | _ => exact Bool.noConfusion (show false = true from c)⟩
theorem sn_asg (i : Nat) (e : E) : SndS S I Γ N fuel (.asg i e) := ⟨fun {x X sc W} h tk c => by
  cases x with
  | Assign ts v p =>
    cases ts with
    | nil => exact Bool.noConfusion (show false = true from c)
    | cons t ts =>
      cases t with
      | Name n np =>
        cases ts with
        | cons _ _ => exact Bool.noConfusion (show false = true from c)
        | nil =>
          simp only [chkS, Bool.and_eq_true, decide_eq_true_eq] at c
          obtain ⟨⟨⟨c1, c2⟩, c3⟩, c4⟩ := c
          obtain ⟨l1, l2⟩ := h.x.sto c2
          exact ps_imp (ps_set (by rw [h.x.hN]; exact h.x.nd) (by rw [h.x.hN]; exact c1) l1 ((snd e).pe h.x tk c4) (swaps_no c3) l2) fun D σ H q => imp_asg (fun _ _ _ z => z) q
      | _ => exact Bool.noConfusion (show false = true from c)
  | _ => exact Bool.noConfusion (show false = true from c)⟩
theorem sn_asgL (i : Nat) (own : List Nat) (tg : Tg) (it : It) (d : Op) (e : E) : SndS S I Γ N fuel (.asgL i own tg it d e) := ⟨fun {x X sc W} h tk c => by
  cases x with
  | Assign ts v p =>
    cases ts with
    | nil => exact Bool.noConfusion (show false = true from c)
    | cons t ts =>
      cases t with
      | Name n np =>
        cases ts with
        | cons _ _ => exact Bool.noConfusion (show false = true from c)
        | nil =>
          simp only [chkS, Bool.and_eq_true, decide_eq_true_eq] at c
          obtain ⟨⟨⟨d1, d2⟩, d3⟩, d4⟩ := c
          obtain ⟨elt, t, y, ifs, scope, p2, rfl, c1, c2, c3, c4, c5, c6, c7⟩ := lc_inv d4
          have hN : X.N.Nodup := by rw [h.x.hN]; exact h.x.nd
          have ok := blkOk_by c3
          rw [← h.x.hN, ← h.x.sc] at ok
          have hm : (own.map fun i => (X.N.getD i Str.empty, i)).map (·.2) = own := by rw [List.map_map]; exact List.map_id' own
          have hl : X.env.scope.names.lookup n = some .local := by rw [h.x.sc]; exact locB_of d2
          simp only [lineOk, Bool.and_eq_true, Bool.not_eq_true'] at d3
          have key := ps_setLc (own := own.map fun i => (X.N.getD i Str.empty, i)) (pos := p2) (elt := elt) (py := np) (spos := p) h.x.calm hN (by rw [h.x.hN]; exact d1) hl (sw_true h.kind hl d3.1 d3.2) ((sndI it).pi h.x tk c1) ok (fun s H K cl fp => chkT_pg (h.x.blk s H scope K cl fp) tg t c4)
            (fun s H K cl fp => (sndO d).pf (h.x.blk s H scope K cl fp) takes0 c6) (fun s H K cl fp => (snd e).pe (h.x.blk s H scope K cl fp) takes0 c7) (fold_set c2)
          rw [hm] at key
          exact ps_imp key fun D σ H q => imp_asg (fun σ H Q z => imp_lc c5 z) q
      | _ => exact Bool.noConfusion (show false = true from c)
  | _ => exact Bool.noConfusion (show false = true from c)⟩
theorem sn_asgT (tg : Tg) (e : E) : SndS S I Γ N fuel (.asgT tg e) := ⟨fun {x X sc W} h tk c => by
  cases x with
  | Assign ts v p =>
    cases ts with
    | nil => exact Bool.noConfusion (show false = true from c)
    | cons t ts =>
      cases ts with
      | cons _ _ => cases t <;> exact Bool.noConfusion (show false = true from c)
      | nil =>
        have c : (isTup t && chkT N sc true tg t && notTup v && noComp v && noStar t && chk I N sc e v) = true := by
          cases t <;> first | exact c | exact Bool.noConfusion (show false = true from c)
        simp only [Bool.and_eq_true] at c
        obtain ⟨⟨⟨⟨⟨c1, c2⟩, c3⟩, c4⟩, c5⟩, c6⟩ := c
        exact ps_imp (ps_asg ((snd e).pe h.x tk c6) (chkT_pg h.x tg t c2) (swaps_no c4) (swapped_notTup c3) (assign_one c5)) fun D σ H q => imp_asgT q
  | _ => exact Bool.noConfusion (show false = true from c)⟩
theorem par_inv {i j : Nat} {a b : E} {x : Stmt} (c : chkS I N sc (.par i j a b) x = true) : ∃ n px m py k pt u v k2 pt2 p, x = .Assign [.Tuple [.Name n px, .Name m py] k pt] (.Tuple [u, v] k2 pt2) p ∧
    (decide (N[i]? = some n) && decide (N[j]? = some m) && decide (i ≠ j) && locB sc n && locB sc m && (n != m) && (py.line == px.line) && noStar u && noStar v
      && !([u, v].all (foldedForSure 8)) && !([u, v].all (constantsAlone 8)) && chk I N sc a u && chk I N sc b v) = true := by
  cases x with
  | Assign ts w p =>
    cases ts with
    | nil => exact Bool.noConfusion (show false = true from c)
    | cons t ts =>
      cases t with
      | Tuple es k pt =>
        cases es with
        | nil => exact Bool.noConfusion (show false = true from c)
        | cons e1 es =>
          cases e1 with
          | Name n px =>
            cases es with
            | nil => exact Bool.noConfusion (show false = true from c)
            | cons e2 es =>
              cases e2 with
              | Name m py =>
                cases es with
                | cons _ _ => exact Bool.noConfusion (show false = true from c)
                | nil =>
                  cases ts with
                  | cons _ _ => exact Bool.noConfusion (show false = true from c)
                  | nil =>
                    cases w with
                    | Tuple us k2 pt2 =>
                      cases us with
                      | nil => exact Bool.noConfusion (show false = true from c)
                      | cons u us =>
                        cases us with
                        | nil => exact Bool.noConfusion (show false = true from c)
                        | cons v us =>
                          cases us with
                          | cons _ _ => exact Bool.noConfusion (show false = true from c)
                          | nil => exact ⟨n, px, m, py, k, pt, u, v, k2, pt2, p, rfl, c⟩
                    | _ => exact Bool.noConfusion (show false = true from c)
              | _ => exact Bool.noConfusion (show false = true from c)
          | _ => exact Bool.noConfusion (show false = true from c)
      | _ => exact Bool.noConfusion (show false = true from c)
  | _ => exact Bool.noConfusion (show false = true from c)
theorem sn_par (i j : Nat) (a b : E) : SndS S I Γ N fuel (.par i j a b) := ⟨fun {x X sc W} h tk c => by
  obtain ⟨n, px, m, py, k, pt, u, v, k2, pt2, p, rfl, d⟩ := par_inv c
  simp only [Bool.and_eq_true, decide_eq_true_eq] at d
  obtain ⟨⟨⟨⟨⟨⟨⟨⟨⟨⟨⟨⟨c1, c2⟩, c3⟩, c4⟩, c5⟩, c6⟩, c7⟩, c8⟩, c9⟩, c10⟩, c11⟩, c12⟩, c13⟩ := d
  have hx : X.env.scope.names.lookup n = some .local := by rw [h.x.sc]; exact locB_of c4
  have hy : X.env.scope.names.lookup m = some .local := by rw [h.x.sc]; exact locB_of c5
  refine ps_imp (ps_par h.x.calm (by rw [h.x.hN]; exact h.x.nd) (by rw [h.x.hN]; exact c1) (by rw [h.x.hN]; exact c2) c3 hx hy
    (pa_cons ((snd a).pe h.x tk c12) (pa_cons ((snd b).pe h.x tk c13) pa_nil (star_cons c9)) (star_cons c8)) (swapped_par h.kind hx hy c7 c6 c8 c9 c10 c11) rfl) fun D σ H q => imp_par q⟩
theorem sn_asgI (o i e : E) : SndS S I Γ N fuel (.asgI o i e) := ⟨fun {x X sc W} h tk c => by
  cases x with
  | Assign ts v p =>
    cases ts with
    | nil => exact Bool.noConfusion (show false = true from c)
    | cons t ts =>
      cases t with
      | Subscript a b np =>
        cases ts with
        | cons _ _ => exact Bool.noConfusion (show false = true from c)
        | nil =>
          simp only [chkS, Bool.and_eq_true, decide_eq_true_eq] at c
          obtain ⟨⟨⟨c1, c2⟩, c3⟩, c4⟩ := c
          exact ps_imp (ps_asg ((snd e).pe h.x tk c4) (pg_sub ((snd o).pe h.x tk c2) ((snd i).pe h.x tk c3) (set_sound (by have := h.x.units; omega)) (assign_sub c1)) (swaps_sub (e := v) (o := a) (i := b) (p := np) (l := p.line) (env := X.env)) swapped_sub rfl) fun D σ H q => imp_asgI q
      | _ => exact Bool.noConfusion (show false = true from c)
  | _ => exact Bool.noConfusion (show false = true from c)⟩
theorem sn_asgF (o : E) (f : Str) (e : E) : SndS S I Γ N fuel (.asgF o f e) := ⟨fun {x X sc W} h tk c => by
  cases x with
  | Assign ts v p =>
    cases ts with
    | nil => exact Bool.noConfusion (show false = true from c)
    | cons t ts =>
      cases t with
      | Attribute a g np =>
        cases ts with
        | cons _ _ => exact Bool.noConfusion (show false = true from c)
        | nil =>
          simp only [chkS, Bool.and_eq_true, decide_eq_true_eq] at c
          obtain ⟨⟨⟨rfl, c2⟩, c3⟩, c4⟩ := c
          refine ps_imp (ps_fld ((snd o).pe h.x tk c3) ((snd e).pe h.x tk c4) swaps_att) fun D σ H q => ?_
          have hf := h.x.fld f c2
          rw [h.x.hK] at hf ⊢
          exact imp_asgF hf q
      | _ => exact Bool.noConfusion (show false = true from c)
  | _ => exact Bool.noConfusion (show false = true from c)⟩
theorem sn_augN (i : Nat) (op : BO) (e : E) : SndS S I Γ N fuel (.augN i op e) := ⟨fun {x X sc W} h tk c => by
  cases x with
  | AugAssign t o v p =>
    cases t with
    | Name n np =>
      simp only [chkS, Bool.and_eq_true, decide_eq_true_eq] at c
      obtain ⟨⟨⟨rfl, c2⟩, c3⟩, c4⟩ := c
      obtain ⟨l1, l2⟩ := h.x.sto c3
      exact ps_imp (ps_aug (by rw [h.x.hN]; exact h.x.nd) (by rw [h.x.hN]; exact c2) l1 ((snd e).pe h.x tk c4) (ti_of (S := S) op) l2) fun D σ H q => imp_augN q
    | _ => exact Bool.noConfusion (show false = true from c)
  | _ => exact Bool.noConfusion (show false = true from c)⟩
theorem sn_augF (o : E) (f : Str) (op : BO) (k : Int) : SndS S I Γ N fuel (.augF o f op k) := ⟨fun {x X sc W} h tk c => by
  cases x with
  | AugAssign t p v q =>
    cases t with
    | Attribute a g np =>
      cases v with
      | Constant d _ _ =>
        cases d with
        | int k' =>
          simp only [chkS, Bool.and_eq_true, decide_eq_true_eq] at c
          obtain ⟨⟨⟨⟨rfl, rfl⟩, rfl⟩, c4⟩, c5⟩ := c
          refine ps_imp (ps_fldaug ((snd o).pe h.x tk c5) pe_int (rd_of (S := S) op)) fun D σ H q => ?_
          have hf := h.x.fld f c4
          rw [h.x.hK] at hf ⊢
          exact imp_augF hf q
        | _ => exact Bool.noConfusion (show false = true from c)
      | _ => exact Bool.noConfusion (show false = true from c)
    | _ => exact Bool.noConfusion (show false = true from c)
  | _ => exact Bool.noConfusion (show false = true from c)⟩
theorem sn_augI (o i : E) (op : BO) (e : E) : SndS S I Γ N fuel (.augI o i op e) := ⟨fun {x X sc W} h tk c => by
  cases x with
  | AugAssign t p v q =>
    cases t with
    | Subscript a b np =>
      simp only [chkS, Bool.and_eq_true, decide_eq_true_eq] at c
      obtain ⟨⟨⟨⟨rfl, c2⟩, c3⟩, c4⟩, c5⟩ := c
      exact ps_imp (ps_daug (by have := h.x.units; omega) ((snd o).pe h.x tk c3) ((snd i).pe h.x tk c4) ((snd e).pe h.x tk c5) (rd_of (S := S) op) (augStore_plain c2)) fun D σ H q => imp_augI q
    | _ => exact Bool.noConfusion (show false = true from c)
  | _ => exact Bool.noConfusion (show false = true from c)⟩
theorem sn_iff (e : E) {a b : Sts} (A : SndSs S I Γ N fuel a) (B : SndSs S I Γ N fuel b) : SndS S I Γ N fuel (.iff e a b) := ⟨fun {x X sc W} h tk c => by
  cases x with
  | If y p q r =>
    simp only [chkS, Bool.and_eq_true] at c
    exact ps_imp (ps_if ((snd e).pt h.x tk c.1.1) (A.ps h tk c.1.2) (B.ps h tk c.2)) fun D σ H q => imp_if q
  | _ => exact Bool.noConfusion (show false = true from c)⟩
theorem sn_whl (e : E) {b : Sts} (B : SndSs S I Γ N fuel b) : SndS S I Γ N fuel (.whl e b) := ⟨fun {x X sc W} h tk c => by
  cases x with
  | While y p q r =>
    cases q with
    | cons _ _ => exact Bool.noConfusion (show false = true from c)
    | nil =>
      simp only [chkS, Bool.and_eq_true] at c
      exact ps_imp (ps_while h.po ((snd e).pt h.x tk c.1) (B.ps h tk c.2)) fun D σ H q => imp_whl q
  | _ => exact Bool.noConfusion (show false = true from c)⟩
theorem sn_for (tg : Tg) (it : It) {b : Sts} (B : SndSs S I Γ N fuel b) : SndS S I Γ N fuel (.for_ tg it b) := ⟨fun {x X sc W} h tk c => by
  cases x with
  | For t y p q r =>
    cases q with
    | cons _ _ => exact Bool.noConfusion (show false = true from c)
    | nil =>
      simp only [chkS, Bool.and_eq_true] at c
      obtain ⟨⟨⟨c1, c2⟩, c3⟩, c4⟩ := c
      exact ps_imp (ps_for h.po h.x.calm ((sndI it).pi h.x tk c2) (chkT_pg h.x tg t c1) (B.ps h tk c4) (fold_set c3)) fun D σ H q => imp_for q
  | _ => exact Bool.noConfusion (show false = true from c)⟩
theorem sn_tryN {b : Sts} (B : SndSs S I Γ N fuel b) : SndS S I Γ N fuel (.tryN b) := ⟨fun {x X sc W} h tk c => by
  cases x with
  | Try p hs q f r =>
    cases hs with
    | nil => exact Bool.noConfusion (show false = true from c)
    | cons h0 hs =>
      cases q with
      | cons _ _ => exact Bool.noConfusion (show false = true from c)
      | nil =>
        cases f with
        | cons _ _ => exact Bool.noConfusion (show false = true from c)
        | nil =>
          exact ps_imp (ps_try_thru0 (B.ps h.nox takes0 c)) fun D σ H ⟨φ, ρ, s, re, rs, q⟩ => ⟨φ, ρ, s, re, rs, ResT.nox q⟩
  | _ => exact Bool.noConfusion (show false = true from c)⟩
theorem sn_lock (e : E) {a : Stt} (A : SndS S I Γ N fuel a) : SndS S I Γ N fuel (.lock e a) := ⟨fun {x X sc W} h tk c => by
  have c : chkS I N sc a x = true := by cases x <;> exact c
  exact ps_imp (ps_lock (A.ps h takes0 c)) fun D σ H q => imp_lockS q⟩
mutual
theorem snS : ∀ a : Stt, SndS S I Γ N fuel a
  | .pass => sn_pass
  | .doc => sn_doc
  | .brk => sn_brk
  | .cnt => sn_cnt
  | .never => sn_never
  | .retN => sn_retN
  | .expr e => sn_expr e
  | .asg i e => sn_asg i e
  | .asgL i own tg it c e => sn_asgL i own tg it c e
  | .asgT tg e => sn_asgT tg e
  | .par i j a b => sn_par i j a b
  | .asgI o i e => sn_asgI o i e
  | .asgF o f e => sn_asgF o f e
  | .augN i op e => sn_augN i op e
  | .augF o f op k => sn_augF o f op k
  | .augI o i op e => sn_augI o i op e
  | .ret e => sn_ret e
  | .iff c a b => sn_iff c (snSs a) (snSs b)
  | .whl c b => sn_whl c (snSs b)
  | .for_ tg it b => sn_for tg it (snSs b)
  | .tryN b => sn_tryN (snSs b)
  | .lock e a => sn_lock e (snS a)
theorem snSs : ∀ a : Sts, SndSs S I Γ N fuel a
  | .nil => ⟨fun {x X sc W} h tk c => by
    cases x with
    | nil => exact pss_imp pss_nil fun D σ H ⟨φ, ρ, s, re, rs, q⟩ => q φ H σ .refl rs re
    | cons _ _ => exact Bool.noConfusion (show false = true from c)⟩
  | .cons a r => ⟨fun {x X sc W} h tk c => by
    cases x with
    | nil => exact Bool.noConfusion (show false = true from c)
    | cons y ys =>
      simp only [chkSs, Bool.and_eq_true] at c
      exact pss_imp (pss_cons ((snS a).ps h tk c.1) ((snSs r).ps h tk c.2)) fun D σ H q => tS_seq q⟩
end
end
end Ab
set_option Elab.async false
set_option linter.all false
set_option maxRecDepth 100000
set_option maxHeartbeats 4000000
/-! Ab15: the defs of a law, level by level -/
namespace Ab
open PySem L2

/-- one def: where it stands, its statement, its slots, its parameters, its body's term -/
structure Df where
  at_ : Str × Option Str
  nm : Str
  qual : Str
  st : Stmt
  N : List Str
  ps : List Str
  body : Sts
structure Tb where
  dfs : List Df
  inf : Inf
  clsN : List Str
  inits : List Nat
  glv : List D
  kdv : List (List (Str × D))
def Tb.ar (T : Tb) (f : Nat) : Nat := match T.dfs[f]? with
  | some d => d.ps.length
  | none => 0
def Out.fin : Out → R D
  | .nx _ s => .ok .non s
  | .rt d s => .ok d s
  | .ex c _ s => .ex c s
  | _ => .bad
def startD (N : List Str) (ds : List D) : Env := ds.map some ++ List.replicate (N.length - ds.length) none
def runDf (Γ : Gam) (fuel : Nat) (d : Df) (ds : List D) (s : Sto) : R D := match decide (ds.length = d.ps.length) with
  | true => (svs Γ fuel d.body (startD d.N ds) s).fin
  | false => .bad
def Tb.call (T : Tb) (Γ : Gam) (fuel : Nat) (f : Nat) (ds : List D) (s : Sto) : R D := match T.dfs[f]? with
  | some d => runDf Γ fuel d ds s
  | none => .bad
def Tb.gam (T : Tb) (fuel : Nat) : Nat → Gam
  | 0 => ⟨fun _ _ _ => .bad, T.ar, fun c => T.inits.getD c 0, fun g => T.glv.getD g .non, T.clsN.length, fun g => T.kdv.getD g []⟩
  | k + 1 => ⟨T.call (T.gam fuel k) fuel, T.ar, fun c => T.inits.getD c 0, fun g => T.glv.getD g .non, T.clsN.length, fun g => T.kdv.getD g []⟩
theorem gam_ar (T : Tb) (fuel : Nat) : ∀ k, (T.gam fuel k).ar = T.ar
  | 0 => rfl
  | _ + 1 => rfl
theorem gam_init (T : Tb) (fuel : Nat) : ∀ k, (T.gam fuel k).init = fun c => T.inits.getD c 0
  | 0 => rfl
  | _ + 1 => rfl
theorem gam_gl (T : Tb) (fuel : Nat) : ∀ k, (T.gam fuel k).gl = fun g => T.glv.getD g .non
  | 0 => rfl
  | _ + 1 => rfl
theorem gam_ncls (T : Tb) (fuel : Nat) : ∀ k, (T.gam fuel k).ncls = T.clsN.length
  | 0 => rfl
  | _ + 1 => rfl
theorem gam_kd (T : Tb) (fuel : Nat) : ∀ k, (T.gam fuel k).kd = fun g => T.kdv.getD g []
  | 0 => rfl
  | _ + 1 => rfl
theorem gam_guard (T : Tb) (fuel : Nat) : ∀ k, Guard (T.gam fuel k)
  | 0 => fun f ds s h => rfl
  | k + 1 => fun f ds s h => by
    show T.call (T.gam fuel k) fuel f ds s = .bad
    have h : ds.length ≠ T.ar f := h
    unfold Tb.call
    unfold Tb.ar at h
    cases e : T.dfs[f]? with
    | none => rfl
    | some d =>
      rw [e] at h
      have h : ds.length ≠ d.ps.length := h
      show runDf _ fuel d ds s = .bad
      unfold runDf
      rw [decide_eq_false h]

structure DfOk (I : Inf) (d : Df) : Prop where
  sc : FnScope d.N d.ps (defScope d.st)
  ck : chkSs I d.N (defScope d.st) d.body (defBody d.st) = true
  bi : ∀ (kV doc pm : Value) (an : Option Addr) (cdv ct : Value) (us : List Value), us.length = d.ps.length → bindArgs (PySem.W.fnOf d.nm d.qual (defArgs d.st) (defBody d.st) (defScope d.st) .none kV doc pm an cdv ct) ⟨us, []⟩ = pure (d.ps.zip us)

/-- f is a def of the table; it stands at a -/
def Dat (T : Tb) (K : PySem.W.Frag) (f : Nat) (a : Addr) : Prop := ∃ d fd, T.dfs[f]? = some d ∧ FunD K d.nm d.qual (defArgs d.st) (defBody d.st) (defScope d.st) [] [] a fd ∧ DfOk T.inf d
structure Tops (T : Tb) (S : St0) (w : World) (mg : Str → Option Value) : Prop where
  bf : ∀ f : BF, mg f.name = none
  isi : mg "isinstance" = none
  tys : ∀ t ∈ ["int", "bool", "str", "tuple", "list"], mg (Str.ofString t) = none
  rng : mg "range" = none
  zip : mg "zip" = none
  enm : mg "enumerate" = none
  gl : ∀ x g, T.inf.gls.lookup x = some g → ∃ u v, mg x = some u ∧ RelV v u ∧ ∀ n φ H, RV S.K n φ H v (T.glv.getD g .non)
  fns : ∀ x f, T.inf.fns.lookup x = some f → ∃ a, mg x = some (.ref a) ∧ Dat T S.K f a
  cls : ∀ x c, T.inf.cls.lookup x = some c → ∃ a, mg x = some (.ref (S.cls c)) ∧ Mk S.K (S.cls c) a ∧ Dat T S.K (T.inits.getD c 0) a
  mth : ∀ c m f, T.inf.mth.lookup (c, m) = some f → ∃ a, Cls S.K (S.cls c) ∧ Meth S.K (S.cls c) m a ∧ Dat T S.K f a
  fld : ∀ f ∈ T.inf.fld, ∀ c, c < T.clsN.length → Cls S.K (S.cls c) ∧ NoAttr S.K (S.cls c) f
  kd : ∀ x g, T.inf.kds.lookup x = some g → ∃ a, mg x = some (.ref a) ∧ KdOk S w (T.kdv.getD g []) a

section
variable {T : Tb} {S : St0} {mg : Str → Option Value} {P : Program} {w : World} {base : Heap}
theorem ResT.fin {E : XK} {o : Out} {s : Sto} {φ : Nat → Addr} {H : Hp} {Q : VK} (h : Res S (fun c d _ H => E c d H) [] s φ H o.fin Q) : ResT S (fun c d _ H => E c d H) s φ H o { nx := fun _ H' => Q .non H', rt := Q } := by
  cases o with
  | nx ρ s' => exact fun φ' H' σ' e rs re => h φ' H' _ e rs .non
  | rt d s' => exact h
  | ex c ρ s' => exact fun φ' H' σ' e rs re => h φ' H' e rs
  | bk ρ s' => exact h.elim
  | ct ρ s' => exact h.elim
  | bad => exact h.elim
theorem re_start {n : Nat} {φ : Nat → Addr} {H : Hp} {N : List Str} {vs : List V} {ds : List D} (rv : RVs S.K n φ H vs ds) : RE S n φ H (startD N ds) (L2.start N vs) := by
  refine ⟨by unfold startD L2.start; simp [rv.length], fun i d hi => ?_⟩
  unfold startD at hi
  unfold L2.start
  by_cases h : i < ds.length
  · rw [List.getElem?_append_left (by simpa using h), List.getElem?_map] at hi
    cases hd : ds[i]? with
    | none => rw [hd] at hi; cases hi
    | some d' =>
      rw [hd] at hi
      cases hi
      obtain ⟨v, h1, h2⟩ := rv.get hd
      refine ⟨v, ?_, h2⟩
      rw [List.getElem?_append_left (by simpa [rv.length] using h), List.getElem?_map, h1]
      rfl
  · rw [List.getElem?_append_right (by simpa using h), List.getElem?_replicate] at hi
    split at hi <;> cases hi
/-- every def keeps its meaning's promise, at every level -/
theorem fn_all (tops : Tops T S w mg) (fuel : Nat) : ∀ (k f : Nat) (a : Addr) (d : Df) (fd : FuncData), T.dfs[f]? = some d → FunD S.K d.nm d.qual (defArgs d.st) (defBody d.st) (defScope d.st) [] [] a fd → DfOk T.inf d →
    FnOk P w S.K mg base (L2.CX P w) (2 * k) a fd d.ps (spOf S (T.ar f) ((T.gam fuel k).fn f))
  | 0, f, a, d, fd, hd, F, ok => by
    refine ⟨fun vs H Q E h => ?_, fun A outer s H args us vs Q E hr e0 hb r h => ?_⟩
    · obtain ⟨φ, s, ds, _, _, _, h⟩ := h
      exact h.elim
    · obtain ⟨φ, s, ds, _, _, _, h⟩ := h
      exact h.elim
  | k + 1, f, a, d, fd, hd, F, ok => by
    have har : T.ar f = d.ps.length := by unfold Tb.ar; rw [hd]
    refine FunD.ok (k := 2 * k + 1) F ok.sc (fun vs H Q E h => by rw [← har]; exact spOf_len h) (fun cdv A outer s0 H vs Q E hr h => ?_)
    obtain ⟨φ, s, ds, rs, rv, hl, h⟩ := h
    have e1 : (T.gam fuel (k + 1)).fn f ds s = (svs (T.gam fuel k) fuel d.body (startD d.N ds) s).fin := by
      show T.call (T.gam fuel k) fuel f ds s = _
      unfold Tb.call
      rw [hd]
      show runDf _ fuel d ds s = _
      unfold runDf
      rw [decide_eq_true (by rw [hl, har])]
    rw [e1] at h
    have room : Room (2 * k + 1) (cxOf (L2.CX P w) P w S.K mg base d.N d.qual (defScope d.st) a cdv A outer s0 H E).A := hr
    have fnat : ∀ (f' : Nat) (a' : Addr) (m : Nat), m ≤ 1 → Dat T S.K f' a' → FnAt S (T.gam fuel k) (cxOf (L2.CX P w) P w S.K mg base d.N d.qual (defScope d.st) a cdv A outer s0 H E) f' a' m := by
      rintro f' a' m hm ⟨d', fd', hd', F', ok'⟩
      refine ⟨2 * k, fd', d'.ps, ?_, room.mono (by omega), F'.bindsN ok'.bi⟩
      rw [gam_ar]
      exact fn_all tops fuel k f' a' d' fd' hd' F' ok'
    have x : XOk S T.inf (T.gam fuel k) d.N (cxOf (L2.CX P w) P w S.K mg base d.N d.qual (defScope d.st) a cdv A outer s0 H E) (defScope d.st) true :=
      ⟨rfl, rfl, ok.sc.nd, rfl, fun _ _ => rfl, rfl, by have := room.un; omega, tops.bf, tops.isi, tops.tys, tops.rng, tops.zip, tops.enm,
        fun x g e => by rw [gam_gl]; exact tops.gl x g e, gam_guard T fuel k,
        fun x f' e => let ⟨a', h1, h2⟩ := tops.fns x f' e; ⟨a', h1, (let ⟨_, _, _, F', _⟩ := h2; F'.kp), fnat f' a' 0 (by omega) h2⟩,
        fun x c e => let ⟨a', h1, h2, h3⟩ := tops.cls x c e; ⟨a', h1, h2, by rw [gam_init]; exact fnat _ a' 1 (by omega) h3⟩,
        fun c m f' e => let ⟨a', h1, h2, h3⟩ := tops.mth c m f' e; ⟨a', h1, h2, fnat f' a' 0 (by omega) h3⟩,
        by rw [gam_ncls]; exact tops.fld, fun x g e => by rw [gam_kd]; exact tops.kd x g e⟩
    have so : SOk S T.inf (T.gam fuel k) d.N (cxOf (L2.CX P w) P w S.K mg base d.N d.qual (defScope d.st) a cdv A outer s0 H E) (defScope d.st) := ⟨x, ok.sc.kind, passes_of rfl, rfl, rfl⟩
    have tk : Takes (cxOf (L2.CX P w) P w S.K mg base d.N d.qual (defScope d.st) a cdv A outer s0 H E) (fun cls d _ H => E cls d H) := takes_of rfl rfl rfl rfl
    exact ⟨_, (snSs d.body).ps so tk ok.ck, φ, _, s, re_start rv, rs, ResT.fin h⟩
end

/-! ### what the head tells -/
/-- a constant's value -/
def relD (K : PySem.W.Frag) : Nat → D → Value → Bool
  | _, .non, .none => true
  | _, .bl b, .bool c => b == c
  | _, .int i, .int j _ => decide (i = j)
  | _, .str x, .str y _ => decide (x = y)
  | n + 1, .kt ds, .ref a => (match K.lookup a with
    | some ⟨.type c, _, .seq its _, _⟩ => decide (c = "tuple") && (decide (its.size ≤ sizeLine) && (decide (ds.length = its.toList.length) && (ds.zip its.toList).all fun p => relD K n p.1 p.2))
    | _ => false)
  | _, _, _ => false
theorem relDs_ok {K : PySem.W.Frag} {n : Nat} (ih : ∀ {d : D} {u : Value}, relD K n d u = true → ∃ v, RelV v u ∧ ∀ n φ H, RV K n φ H v d) : ∀ {ds : List D} {us : List Value}, ds.length = us.length → ((ds.zip us).all fun p => relD K n p.1 p.2) = true → ∃ vs, Vals vs us ∧ ∀ n φ H, RVs K n φ H vs ds
  | [], [], _, _ => ⟨[], .nil, fun _ _ _ => .nil⟩
  | [], _ :: _, h, _ => by cases h
  | _ :: _, [], h, _ => by cases h
  | d :: ds, u :: us, h, c => by
    rw [List.zip_cons_cons, List.all_cons, Bool.and_eq_true] at c
    obtain ⟨v, h1, h2⟩ := ih c.1
    obtain ⟨vs, h3, h4⟩ := relDs_ok ih (by simpa using h) c.2
    exact ⟨v :: vs, .cons h1 h3, fun n φ H => .cons (h2 n φ H) (h4 n φ H)⟩
theorem relD_ok {K : PySem.W.Frag} : ∀ (n : Nat) {d : D} {u : Value}, relD K n d u = true → ∃ v, RelV v u ∧ ∀ n φ H, RV K n φ H v d := by
  intro n
  induction n with
  | zero =>
    intro d u h
    cases d with
    | non => cases u with
      | none => exact ⟨.non, rfl, fun _ _ _ => .non⟩
      | _ => cases h
    | bl b => cases u with
      | bool c =>
        have e : b = c := eq_of_beq (show (b == c) = true from h)
        exact ⟨.bl b, by rw [e]; rfl, fun _ _ _ => .bl b⟩
      | _ => cases h
    | int i => cases u with
      | int j t => exact ⟨.int i, ⟨t, by rw [of_decide_eq_true (show decide (i = j) = true from h)]⟩, fun _ _ _ => .int i⟩
      | _ => cases h
    | str x => cases u with
      | str y t => exact ⟨.str x, ⟨t, by rw [of_decide_eq_true (show decide (x = y) = true from h)]⟩, fun _ _ _ => .str x⟩
      | _ => cases h
    | _ => cases u <;> cases h
  | succ n ih =>
    intro d u h
    cases d with
    | non => cases u with
      | none => exact ⟨.non, rfl, fun _ _ _ => .non⟩
      | _ => cases h
    | bl b => cases u with
      | bool c =>
        have e : b = c := eq_of_beq (show (b == c) = true from h)
        exact ⟨.bl b, by rw [e]; rfl, fun _ _ _ => .bl b⟩
      | _ => cases h
    | int i => cases u with
      | int j t => exact ⟨.int i, ⟨t, by rw [of_decide_eq_true (show decide (i = j) = true from h)]⟩, fun _ _ _ => .int i⟩
      | _ => cases h
    | str x => cases u with
      | str y t => exact ⟨.str x, ⟨t, by rw [of_decide_eq_true (show decide (x = y) = true from h)]⟩, fun _ _ _ => .str x⟩
      | _ => cases h
    | kt ds => cases u with
      | ref a =>
        have h : (match K.lookup a with
          | some ⟨.type c, _, .seq its _, _⟩ => decide (c = "tuple") && (decide (its.size ≤ sizeLine) && (decide (ds.length = its.toList.length) && (ds.zip its.toList).all fun p => relD K n p.1 p.2))
          | _ => false) = true := h
        split at h
        · rename_i c od its m sl q
          simp only [Bool.and_eq_true, decide_eq_true_eq] at h
          obtain ⟨h1, h2, h3, h4⟩ := h
          obtain ⟨vs, r1, r2⟩ := relDs_ok ih h3 h4
          refine ⟨.ref a, rfl, fun n φ H => .kt (vs := vs) (.inr ⟨_, its, m, q, congrArg Value.type h1, rfl, h2, r1⟩) (r2 n φ H)⟩
        · cases h
      | _ => cases h
    | _ => cases u <;> cases h
end Ab
set_option Elab.async false
set_option linter.all false
set_option maxRecDepth 100000
set_option maxHeartbeats 4000000
/-! Ab16: the head's facts; a law's end -/
namespace Ab
open PySem PySem.Spec PyProof.Rows L2

def freeN : List Str := ["len", "int", "str", "list", "tuple", "sorted", "all", "sum", "max", "min", "dict", "isinstance", "bool", "range", "zip", "enumerate"]
def relAt (K : PySem.W.Frag) (ns : Addr) (x : Str) (d : D) : Bool := match PySem.W.nsIn K ns x with
  | some (some u) => relD K 6 d u
  | _ => false
def topB (T : Tb) (K : PySem.W.Frag) : Bool :=
  (freeN.all fun x => (He.Fa.free x).ok K)
  && ((T.inf.fns.all fun p => (He.Fa.glo p.1).ok K && (match T.dfs[p.2]? with | some d => decide (d.at_ = (p.1, none)) | none => false))
  && ((T.inf.cls.all fun p => decide (T.clsN[p.2]? = some p.1) && ((He.Fa.glo p.1).ok K && ((He.Fa.mkr p.1).ok K && (match T.dfs[T.inits.getD p.2 0]? with | some d => decide (d.at_ = (p.1, some ("__init__" : Str))) | none => false))))
  && ((T.inf.mth.all fun p => (match T.clsN[p.1.1]?, T.dfs[p.2]? with | some n, some d => decide (d.at_ = (n, some p.1.2)) && (He.Fa.meth n p.1.2).ok K | _, _ => false))
  && ((T.clsN.all fun n => (He.Fa.cls n).ok K && T.inf.fld.all fun f => (He.Fa.noat n f).ok K)
  && ((T.inf.gls.all fun p => relAt K mainGlobals p.1 (T.glv.getD p.2 .non))
  && (T.inf.kds.all fun p => (He.Fa.glo p.1).ok K && (T.kdv.getD p.2 []).all fun q => relAt K (He.ga K p.1) q.1 q.2))))))
def dd (d : Df) : He.DefD := ⟨d.at_, d.nm, d.qual, defArgs d.st, defBody d.st, defScope d.st, [], []⟩
abbrev AlA : Type := Bool × List He.FnW × List (Option (List (Option (Str × Int))))
def obsA (T : Tb) (K : PySem.W.Frag) : AlA := (topB T K && T.dfs.all fun d => (dd d).ok K, T.dfs.map fun d => He.fnW K d.at_, T.inf.kds.map fun p => He.dicW K (He.ga K p.1))
def valA (T : Tb) (w : World) : AlA := (true, T.dfs.map fun d => (dd d).val, T.inf.kds.map fun p => some (He.keysIn w.params ((T.kdv.getD p.2 []).map (·.1))))
def obsAG (n : Nat) (T : Tb) (g : Addr → Option Obj) : AlA := obsA T (He.frG g (He.asD g n))
def hookA (n : Nat) (T : Tb) : PySem.W.Hook where
  α := AlA
  obs := fun s => obsAG n T s.heap.get?
  val := fun w => valA T w
  says := fun w h => ∃ K : PySem.W.Frag, K.In h ∧ obsA T K = valA T w
  of := fun _ _ e => ⟨_, He.frG_in, e⟩
  keeps := fun _ _ _ ⟨K, hK, c⟩ k => ⟨K, PySem.W.Frag.In.keeps hK k, c⟩
theorem obsAG_eq {n : Nat} {T : Tb} {g : Addr → Option Obj} {s : Shared} (h : ∀ a, g a = s.heap.get? a) : obsAG n T g = (hookA n T).obs s := by
  have e : g = s.heap.get? := funext h
  rw [e] <;> rfl

theorem mem_lookup {κ β : Type} [BEq κ] [LawfulBEq κ] {x : κ} {b : β} : ∀ {l : List (κ × β)}, l.lookup x = some b → (x, b) ∈ l
  | [], h => by cases h
  | (y, c) :: r, h => by
    have h2 : (match x == y with | true => some c | false => r.lookup x) = some b := h
    cases q : (x == y) with
    | true =>
      rw [q] at h2
      have e : c = b := Option.some.inj h2
      rw [beq_iff_eq.mp q, e]
      exact List.mem_cons_self
    | false =>
      rw [q] at h2
      exact List.mem_cons_of_mem _ (mem_lookup h2)
theorem not_lookup {κ β : Type} [BEq κ] [LawfulBEq κ] {x : κ} : ∀ {l : List (κ × β)}, l.lookup x = none → x ∉ l.map (·.1)
  | [], _ => by simp
  | (y, c) :: r, h => by
    have h2 : (match x == y with | true => some c | false => r.lookup x) = none := h
    cases q : (x == y) with
    | true => rw [q] at h2; cases h2
    | false =>
      rw [q] at h2
      have := not_lookup h2
      simp only [List.map_cons, List.mem_cons, not_or]
      exact ⟨by intro e; rw [e] at q; simp at q, this⟩
def sOf (T : Tb) (K : PySem.W.Frag) : St0 := ⟨K, fun c => He.ga K (T.clsN.getD c Str.empty)⟩
section
variable {T : Tb} {K : PySem.W.Frag} {w : World} {h : Heap} {mg : Str → Option Value}
theorem keys_none {P : Params} {z : Str} : ∀ {l : List DictEntry} {ks : List Str}, l.map He.keyOf = He.keysIn P ks → z ∉ ks → l.find? (·.key.isStr z) = none ∧ l.any (·.refKey) = false
  | [], _, _, _ => ⟨rfl, rfl⟩
  | e :: r, [], h, _ => by cases h
  | e :: r, k :: ks, h, hz => by
    have h1 : He.keyOf e :: r.map He.keyOf = some (k, PyData.keyHash P k) :: He.keysIn P ks := h
    injection h1 with h2 h3
    simp only [List.mem_cons, not_or] at hz
    obtain ⟨i1, i2⟩ := keys_none h3 hz.2
    unfold He.keyOf at h2
    split at h2
    · rename_i x t q
      have h4 := Option.some.inj h2
      obtain ⟨h5, h6⟩ := Prod.mk.inj h4
      have e1 : e.key.isStr z = false := by
        rw [q]
        show (x == z) = false
        rw [h5]
        cases e : (k == z) with
        | false => rfl
        | true => exact absurd (beq_iff_eq.mp e).symm hz.1
      refine ⟨?_, ?_⟩
      · rw [List.find?_cons, e1]; exact i1
      · rw [List.any_cons, i2]
        unfold DictEntry.refKey
        rw [q]; rfl
    · cases h2
theorem dicW_at {a : Addr} {ks : List (Option (Str × Int))} (h : He.dicW K a = some ks) : ∃ c es n sl, K.lookup a = some ⟨.type c, none, .dict es n, sl⟩ ∧ es.toList.map He.keyOf = ks := by
  unfold He.dicW at h
  split at h
  · rename_i c es m sl q
    split at h
    · exact ⟨c, es, m, sl, q, Option.some.inj h⟩
    · cases h
  · cases h
theorem kd_of {kvs : List (Str × D)} {a : Addr} (h1 : He.dicW K a = some (He.keysIn w.params (kvs.map (·.1)))) (h2 : (kvs.all fun q => relAt K a q.1 q.2) = true) : KdOk (sOf T K) w kvs a := by
  refine ⟨He.dicW_ok h1, fun z => ?_⟩
  cases hz : kvs.lookup z with
  | some d =>
    have := List.all_eq_true.mp h2 _ (mem_lookup hz)
    unfold relAt at this
    split at this
    · rename_i u e
      obtain ⟨v, r1, r2⟩ := relD_ok 6 this
      exact .inl ⟨d, u, v, rfl, e, r1, r2⟩
    · cases this
  | none =>
    refine .inr ⟨rfl, ?_⟩
    obtain ⟨c, es, n, sl, e1, e2⟩ := dicW_at h1
    obtain ⟨e3, e4⟩ := keys_none e2 (not_lookup hz)
    show PySem.W.nsIn K a z = some none
    unfold PySem.W.nsIn
    rw [e1]
    simp only
    rw [e3]
    simp only
    rw [e4]
    rfl
theorem says_def (c : obsA T K = valA T w) (ok : ∀ d ∈ T.dfs, DfOk T.inf d) {f : Nat} {d : Df} (hd : T.dfs[f]? = some d) : Dat T K f (He.fAd K d.at_) := by
  have c1 := (He.ba (show (topB T K && T.dfs.all fun d => (dd d).ok K) = true from congrArg (fun z : AlA => z.1) c)).2
  have e : T.dfs.map (fun d => He.fnW K d.at_) = T.dfs.map fun d => (dd d).val := congrArg (fun z : AlA => z.2.1) c
  have e2 : (T.dfs.map fun d => He.fnW K d.at_)[f]? = (T.dfs.map fun d => (dd d).val)[f]? := by rw [e]
  rw [List.getElem?_map, List.getElem?_map, hd] at e2
  obtain ⟨fd, F⟩ := He.DefD.funD (d := dd d) (Option.some.inj e2) (List.all_eq_true.mp c1 d (List.mem_of_getElem? hd))
  exact ⟨d, fd, hd, F, ok d (List.mem_of_getElem? hd)⟩
theorem tops_of (X : K.In h) (G : h.Ns mainGlobals mg) (c : obsA T K = valA T w) (ok : ∀ d ∈ T.dfs, DfOk T.inf d) : Tops T (sOf T K) w mg := by
  have c1 := (He.ba (show (topB T K && T.dfs.all fun d => (dd d).ok K) = true from congrArg (fun z : AlA => z.1) c)).1
  unfold topB at c1
  obtain ⟨f1, c1⟩ := He.ba c1
  obtain ⟨f2, c1⟩ := He.ba c1
  obtain ⟨f3, c1⟩ := He.ba c1
  obtain ⟨f4, c1⟩ := He.ba c1
  obtain ⟨f5, c1⟩ := He.ba c1
  obtain ⟨f6, f7⟩ := He.ba c1
  have fr : ∀ x ∈ freeN, mg x = none := fun x hx => He.free_ok X G (List.all_eq_true.mp f1 x hx)
  have dAt : ∀ {f : Nat} {q : Str × Option Str}, (match T.dfs[f]? with | some d => decide (d.at_ = q) | none => false) = true → Dat T K f (He.fAd K q) := by
    intro f q e
    cases hd : T.dfs[f]? with
    | none => rw [hd] at e; cases e
    | some d =>
      rw [hd] at e
      have e : d.at_ = q := of_decide_eq_true e
      rw [← e]
      exact says_def c ok hd
  refine ⟨fun f => fr _ (by cases f <;> decide +kernel), fr _ (by decide +kernel), fun t ht => fr _ ?_, fr _ (by decide +kernel), fr _ (by decide +kernel), fr _ (by decide +kernel), fun x g e => ?_, fun x f e => ?_, fun x cl e => ?_, fun cl m f e => ?_, fun f hf cl hcl => ?_, fun x g e => ?_⟩
  · simp only [List.mem_cons, List.not_mem_nil, or_false] at ht
    rcases ht with rfl | rfl | rfl | rfl | rfl <;> decide +kernel
  · have q := List.all_eq_true.mp f6 _ (mem_lookup e)
    unfold relAt at q
    split at q
    · rename_i u e2
      obtain ⟨v, r1, r2⟩ := relD_ok 6 q
      exact ⟨u, v, PySem.W.mg_of X G e2, r1, r2⟩
    · cases q
  · obtain ⟨q1, q2⟩ := He.ba (List.all_eq_true.mp f2 _ (mem_lookup e))
    exact ⟨_, He.glo_ok X G q1, dAt q2⟩
  · obtain ⟨q0, q⟩ := He.ba (List.all_eq_true.mp f3 _ (mem_lookup e))
    obtain ⟨q1, q⟩ := He.ba q
    obtain ⟨q2, q3⟩ := He.ba q
    have e0 : T.clsN.getD cl Str.empty = x := by
      have : T.clsN[cl]? = some x := of_decide_eq_true q0
      rw [List.getD_eq_getElem?_getD, this]; rfl
    refine ⟨He.ma K (He.ga K x) "__init__", ?_, ?_, dAt q3⟩
    · show mg x = some (.ref (He.ga K (T.clsN.getD cl Str.empty)))
      rw [e0]
      exact He.glo_ok X G q1
    · show Mk K (He.ga K (T.clsN.getD cl Str.empty)) _
      rw [e0]
      exact He.mkr_ok q2
  · have q := List.all_eq_true.mp f4 _ (mem_lookup e)
    cases hn : T.clsN[cl]? with
    | none => simp only [hn] at q; cases q
    | some n =>
      cases hd : T.dfs[f]? with
      | none => simp only [hn, hd] at q; cases q
      | some d =>
        simp only [hn, hd] at q
        obtain ⟨q1, q2⟩ := He.ba q
        have q1 : d.at_ = (n, some m) := of_decide_eq_true q1
        have e0 : T.clsN.getD cl Str.empty = n := by rw [List.getD_eq_getElem?_getD, hn]; rfl
        obtain ⟨q3, _⟩ := He.ba (List.all_eq_true.mp f5 n (List.mem_of_getElem? hn))
        refine ⟨He.ma K (He.ga K n) m, ?_, ?_, ?_⟩
        · show Cls K (He.ga K (T.clsN.getD cl Str.empty))
          rw [e0]
          exact He.cls_ok q3
        · show Meth K (He.ga K (T.clsN.getD cl Str.empty)) m _
          rw [e0]
          exact He.meth_ok q2
        · have := says_def c ok hd
          rw [q1] at this
          exact this
  · have e0 : T.clsN[cl]? = some T.clsN[cl] := List.getElem?_eq_getElem hcl
    have e1 : T.clsN.getD cl Str.empty = T.clsN[cl] := by rw [List.getD_eq_getElem?_getD, e0]; rfl
    obtain ⟨q3, q4⟩ := He.ba (List.all_eq_true.mp f5 T.clsN[cl] (List.getElem_mem hcl))
    refine ⟨?_, ?_⟩
    · show Cls K (He.ga K (T.clsN.getD cl Str.empty))
      rw [e1]
      exact He.cls_ok q3
    · show NoAttr K (He.ga K (T.clsN.getD cl Str.empty)) f
      rw [e1]
      exact He.noat_ok (List.all_eq_true.mp q4 f hf)
  · obtain ⟨q1, q2⟩ := He.ba (List.all_eq_true.mp f7 _ (mem_lookup e))
    have e3 : T.inf.kds.map (fun p => He.dicW K (He.ga K p.1)) = T.inf.kds.map fun p => some (He.keysIn w.params ((T.kdv.getD p.2 []).map (·.1))) := congrArg (fun z : AlA => z.2.2) c
    have e4 := List.map_inj_left.mp e3 _ (mem_lookup e)
    exact ⟨_, He.glo_ok X G q1, kd_of e4 q2⟩
end

/-! ### a law's end -/
theorem walk_ofA {l : PySem.W.OpenLaw} {n k : Nat} {q : Program} {loose : List Str} {XP : (Str → Option Value) → Heap → Prop} {YP : World → Heap → Prop} {d : DefRec} {CX : World → CXT} {x : Str}
    (hn : l.most = some n) (hn2 : n ≤ sizeLine) (hdf : d.params.defaults = []) (hr : Room k callerA)
    (F : ∀ (w : World) (mg : Str → Option Value) (fa : Addr) (h : Heap), YP w h → h.Ns mainGlobals mg → mg d.name = some (.ref fa) →
      ∃ (K : PySem.W.Frag) (fd : FuncData) (sp : Sp), K.In h ∧ (∀ (s : Shared) (u : Value), BindsTo s fd ⟨[u], []⟩ [(x, u)]) ∧
        (∀ (H : Hp) (a : Addr) (ns : List Int), ns.length ≤ n → (∀ z ∈ ns, Builtin.Int.intBits z ≤ 1048576) → Only H → SqL K H a (ns.map V.int) → sp [.ref a] H (fun v _ => v = .bl true) fun _ _ _ => False) ∧
        ∀ base : Heap, K.In base → base.Ns mainGlobals mg → FnOk l.prog w K mg base (CX w) k fa fd [x] sp)
    (hCX : ∀ (w : World) (H : Hp) (s : Shared) (e : Value) (s' : Shared), CX w [] H s (fun _ _ _ => False) e s' → False) :
    PySem.W.WalkO q loose XP YP l.row.toRowW d [] (fun f vs => PySem.call f vs) := by
  refine Att.attach_callB hn hdf fun w s₀ s₁ mg mb fa o pm cd doc a vs ns G Y ho hd hcd hmg hobj hints hlen hbits hg => ?_
  obtain ⟨K, fd, sp, KX, hb, hsp, hF⟩ := F w mg fa _ Y G.T.g hmg
  exact law_call KX G.T.g G.T.b G.T.builtins G.T.nolimit hg hobj hints (Nat.le_trans hlen hn2) hr hF hb (fun H hO hS => hsp H a ns hlen hbits hO hS) fun H e s' => hCX w H s₁ e s'
/-- the script alone stands in the store -/
def sto0 (ns : List Int) : Sto := ⟨1, fun _ => .fro (ns.map .int)⟩
theorem rs0 {S : St0} {H : Hp} {a : Addr} {ns : List Int} (hO : Only H) (hS : SqL S.K H a (ns.map V.int)) : RS S (fun _ => a) H (sto0 ns) := by
  refine ⟨fun r hr => ⟨ns.map V.int, ?_, RVs.ofInts ns⟩, fun r q _ _ w => by cases w⟩
  rcases hS with (h | ⟨o, h⟩) | h
  · rcases hO a with e | ⟨o, xs, e⟩
    · rw [e] at h; cases h
    · rw [e] at h; cases h
  · exact .inl ⟨o, h⟩
  · exact .inr (.inr h)
theorem law_walk {l : PySem.W.OpenLaw} {n kk lf m : Nat} {q : Program} {loose : List Str} {XP : (Str → Option Value) → Heap → Prop} {d : DefRec} {x lname : Str} (T : Tb) {dl : Df}
    (hn : l.most = some n) (hn2 : n ≤ sizeLine) (hdf : d.params.defaults = []) (hr : Room (2 * kk) callerA) (hname : d.name = lname) (ok : ∀ d ∈ T.dfs, DfOk T.inf d) (hl : T.inf.fns.lookup lname = some lf) (hd : T.dfs[lf]? = some dl) (hps : dl.ps = [x])
    (plain : ∀ ns : List Int, ns.length ≤ n → (∀ z ∈ ns, Builtin.Int.intBits z ≤ 1048576) → ∃ fuel s', (T.gam fuel kk).fn lf [.ref 0] (sto0 ns) = .ok (.bl true) s') :
    PySem.W.WalkO q loose XP (hookA m T).says l.row.toRowW d [] (fun f vs => PySem.call f vs) := by
  refine walk_ofA (k := 2 * kk) (x := x) (CX := fun w => L2.CX l.prog w) hn hn2 hdf hr (fun w mg fa h Y G hmg => ?_) fun w H s e s' ⟨_, _, _, _, _, _, _, _, _, _, _, _, z⟩ => z
  obtain ⟨K, KX, c⟩ := Y
  have tops := tops_of KX G c ok
  obtain ⟨a', h1, d', fd, hd', F, ok'⟩ := tops.fns lname lf hl
  rw [hname, h1] at hmg
  cases hmg
  rw [hd] at hd'
  cases hd'
  have hb : ∀ (s : Shared) (u : Value), BindsTo s fd ⟨[u], []⟩ [(x, u)] := fun s u => by
    have := F.bindsA ok'.bi s [u] (by rw [hps]; rfl)
    rw [hps] at this
    exact this
  refine ⟨K, fd, fun vs H Q E => ∃ fuel, spOf (sOf T K) (T.ar lf) ((T.gam fuel kk).fn lf) vs H Q E, KX, hb, fun H a ns hlen hbits hO hS => ?_, fun base hk hG => ?_⟩
  · obtain ⟨fuel, s', e⟩ := plain ns hlen hbits
    refine ⟨fuel, fun _ => a, sto0 ns, [.ref 0], rs0 hO hS, .cons (.ref (φ := fun _ => a) (Nat.zero_lt_one)) .nil, ?_, ?_⟩
    · unfold Tb.ar; rw [hd]; show 1 = dl.ps.length; rw [hps]; rfl
    · rw [e]
      intro φ H' v ex rs rv
      cases rv
      rfl
  · have key := fun fuel => fn_all (P := l.prog) (w := w) (base := base) tops fuel kk lf fa dl fd hd F ok'
    rw [hps] at key
    exact ⟨fun vs H Q E ⟨fuel, z⟩ => (key fuel).len vs H Q E z, fun A outer s H args us vs Q E hr he hb hv ⟨fuel, z⟩ => (key fuel).run A outer s H args us vs Q E hr he hb hv z⟩
end Ab
set_option Elab.async false
set_option linter.all false
set_option maxRecDepth 100000
set_option maxHeartbeats 1000000
/-! Ab17: the inner language run by simp. Printed by gen17.py -/
namespace Ab
open PySem
abbrev ME := Env → Sto → R D
theorem fin_nx (ρ : Env) (s : Sto) : (Out.nx ρ s).fin = .ok .non s := rfl
theorem fin_rt (d : D) (s : Sto) : (Out.rt d s).fin = .ok d s := rfl
theorem fin_ex (c : Nat) (ρ : Env) (s : Sto) : (Out.ex c ρ s).fin = .ex c s := rfl
theorem ofO_some (d : D) (s : Sto) : R.ofO (some (d, s)) = .ok d s := rfl
theorem ofO_none : R.ofO none = .bad := rfl
theorem asB_bl (b : Bool) (s : Sto) : asB (.bl b) s = .ok b s := rfl
theorem asI_int (i : Int) (s : Sto) : asI (.int i) s = .ok i s := rfl
theorem truR_bl (b : Bool) (s : Sto) : truR (.bl b) s = .ok b s := rfl
theorem outS_some (ρ : Env) (s : Sto) : outS ρ (some s) = .nx ρ s := rfl
theorem outE_some (ρ : Env) (s : Sto) : outE (some ρ) s = .nx ρ s := rfl
theorem mVar_at {i : Nat} {ρ : Env} {s : Sto} {d : D} (h : ρ[i]? = some (some d)) : mVar i ρ s = .ok d s := by unfold mVar; rw [h]
/-- a def's call, a level down -/
theorem call_at {T : Tb} {f : Nat} {d : Df} (hd : T.dfs[f]? = some d) {k fuel : Nat} {ds : List D} {s : Sto} (hl : ds.length = d.ps.length) :
    (T.gam fuel (k + 1)).fn f ds s = (svs (T.gam fuel k) fuel d.body (startD d.N ds) s).fin := by
  show T.call (T.gam fuel k) fuel f ds s = _
  unfold Tb.call
  rw [hd]
  show runDf _ fuel d ds s = _
  unfold runDf
  rw [decide_eq_true hl]

def k2 {α : Type} (b : ME) (ρ : Env) (g : D → D → Sto → R α) (x : D) (s : Sto) : R α := (b ρ s).bind (g x)
theorem k2_ap {α : Type} (b : ME) (ρ : Env) (g : D → D → Sto → R α) (x : D) (s : Sto) : k2 b ρ g x s = (b ρ s).bind (g x) := rfl
def gBin (o : BO) (x : D) (y : D) (s : Sto) : R D := .ofO (opB o x y s)
theorem gBin_ap (o : BO) (x : D) (y : D) (s : Sto) : gBin o x y s = .ofO (opB o x y s) := rfl
def gCmp (o : CO) (x : D) (y : D) (s : Sto) : R D := .ofO (opC o x y s)
theorem gCmp_ap (o : CO) (x : D) (y : D) (s : Sto) : gCmp o x y s = .ofO (opC o x y s) := rfl
def gCmpT (o : CO) (x : D) (y : D) (s : Sto) : R Bool := (R.ofO (opC o x y s)).bind asB
theorem gCmpT_ap (o : CO) (x : D) (y : D) (s : Sto) : gCmpT o x y s = (R.ofO (opC o x y s)).bind asB := rfl
def gNeg  (x : D) (s : Sto) : R D := .ofO (opN x s)
theorem gNeg_ap  (x : D) (s : Sto) : gNeg  x s = .ofO (opN x s) := rfl
def gCh3 (o : CO) (c : ME) (ρ : Env) (y : D) (k : Bool) (s : Sto) : R D := bif k then (c ρ s).bind (gCmp o y) else .ok (.bl false) s
theorem gCh3_ap (o : CO) (c : ME) (ρ : Env) (y : D) (k : Bool) (s : Sto) : gCh3 o c ρ y k s = bif k then (c ρ s).bind (gCmp o y) else .ok (.bl false) s := rfl
def gCh2 (o : CO) (c : ME) (ρ : Env) (y : D) (z : D) (s : Sto) : R D := (asB z s).bind (gCh3 o c ρ y)
theorem gCh2_ap (o : CO) (c : ME) (ρ : Env) (y : D) (z : D) (s : Sto) : gCh2 o c ρ y z s = (asB z s).bind (gCh3 o c ρ y) := rfl
def gCh (p o : CO) (c : ME) (ρ : Env) (x : D) (y : D) (s : Sto) : R D := (R.ofO (opC p x y s)).bind (gCh2 o c ρ y)
theorem gCh_ap (p o : CO) (c : ME) (ρ : Env) (x : D) (y : D) (s : Sto) : gCh p o c ρ x y s = (R.ofO (opC p x y s)).bind (gCh2 o c ρ y) := rfl
def gCh3T (o : CO) (c : ME) (ρ : Env) (y : D) (k : Bool) (s : Sto) : R Bool := bif k then (c ρ s).bind (gCmpT o y) else .ok false s
theorem gCh3T_ap (o : CO) (c : ME) (ρ : Env) (y : D) (k : Bool) (s : Sto) : gCh3T o c ρ y k s = bif k then (c ρ s).bind (gCmpT o y) else .ok false s := rfl
def gCh2T (o : CO) (c : ME) (ρ : Env) (y : D) (z : D) (s : Sto) : R Bool := (asB z s).bind (gCh3T o c ρ y)
theorem gCh2T_ap (o : CO) (c : ME) (ρ : Env) (y : D) (z : D) (s : Sto) : gCh2T o c ρ y z s = (asB z s).bind (gCh3T o c ρ y) := rfl
def gChT (p o : CO) (c : ME) (ρ : Env) (x : D) (y : D) (s : Sto) : R Bool := (R.ofO (opC p x y s)).bind (gCh2T o c ρ y)
theorem gChT_ap (p o : CO) (c : ME) (ρ : Env) (x : D) (y : D) (s : Sto) : gChT p o c ρ x y s = (R.ofO (opC p x y s)).bind (gCh2T o c ρ y) := rfl
def gAnd2 (b : ME) (ρ : Env) (k : Bool) (s : Sto) : R D := bif k then b ρ s else .ok (.bl false) s
theorem gAnd2_ap (b : ME) (ρ : Env) (k : Bool) (s : Sto) : gAnd2 b ρ k s = bif k then b ρ s else .ok (.bl false) s := rfl
def gAnd (b : ME) (ρ : Env) (x : D) (s : Sto) : R D := (asB x s).bind (gAnd2 b ρ)
theorem gAnd_ap (b : ME) (ρ : Env) (x : D) (s : Sto) : gAnd b ρ x s = (asB x s).bind (gAnd2 b ρ) := rfl
def gOr2 (b : ME) (ρ : Env) (k : Bool) (s : Sto) : R D := bif k then .ok (.bl true) s else b ρ s
theorem gOr2_ap (b : ME) (ρ : Env) (k : Bool) (s : Sto) : gOr2 b ρ k s = bif k then .ok (.bl true) s else b ρ s := rfl
def gOr (b : ME) (ρ : Env) (x : D) (s : Sto) : R D := (asB x s).bind (gOr2 b ρ)
theorem gOr_ap (b : ME) (ρ : Env) (x : D) (s : Sto) : gOr b ρ x s = (asB x s).bind (gOr2 b ρ) := rfl
def gNot2  (k : Bool) (s : Sto) : R D := .ok (.bl (!k)) s
theorem gNot2_ap  (k : Bool) (s : Sto) : gNot2  k s = .ok (.bl (!k)) s := rfl
def gNot  (x : D) (s : Sto) : R D := (asB x s).bind gNot2
theorem gNot_ap  (x : D) (s : Sto) : gNot  x s = (asB x s).bind gNot2 := rfl
def gIte (a b : ME) (ρ : Env) (k : Bool) (s : Sto) : R D := bif k then a ρ s else b ρ s
theorem gIte_ap (a b : ME) (ρ : Env) (k : Bool) (s : Sto) : gIte a b ρ k s = bif k then a ρ s else b ρ s := rfl
def gIx  (x : D) (y : D) (s : Sto) : R D := .ofO (ixO x y s)
theorem gIx_ap  (x : D) (y : D) (s : Sto) : gIx  x y s = .ofO (ixO x y s) := rfl
def gSl2 (x : D) (l : Option Int) (h : Option Int) (s : Sto) : R D := .ofO (slO x l h s)
theorem gSl2_ap (x : D) (l : Option Int) (h : Option Int) (s : Sto) : gSl2 x l h s = .ofO (slO x l h s) := rfl
def gSl1 (hi : Env → Sto → R (Option Int)) (ρ : Env) (x : D) (l : Option Int) (s : Sto) : R D := (hi ρ s).bind (gSl2 x l)
theorem gSl1_ap (hi : Env → Sto → R (Option Int)) (ρ : Env) (x : D) (l : Option Int) (s : Sto) : gSl1 hi ρ x l s = (hi ρ s).bind (gSl2 x l) := rfl
def gSl (lo hi : Env → Sto → R (Option Int)) (ρ : Env) (x : D) (s : Sto) : R D := (lo ρ s).bind (gSl1 hi ρ x)
theorem gSl_ap (lo hi : Env → Sto → R (Option Int)) (ρ : Env) (x : D) (s : Sto) : gSl lo hi ρ x s = (lo ρ s).bind (gSl1 hi ρ x) := rfl
def gRev  (x : D) (s : Sto) : R D := .ofO (revO x s)
theorem gRev_ap  (x : D) (s : Sto) : gRev  x s = .ofO (revO x s) := rfl
def gFld (n : Nat) (f : Str) (x : D) (s : Sto) : R D := .ofO (fldO n x f s)
theorem gFld_ap (n : Nat) (f : Str) (x : D) (s : Sto) : gFld n f x s = .ofO (fldO n x f s) := rfl
def gMk2 (n : Nat) (x : D) (s : Sto) : R D := mkR n x s
theorem gMk2_ap (n : Nat) (x : D) (s : Sto) : gMk2 n x s = mkR n x s := rfl
def gMk (Γ : Gam) (c : Nat) (xs : List D) (s : Sto) : R D := (Γ.fn (Γ.init c) (.ref s.n :: xs) (s.new (.ins c []))).bind (gMk2 s.n)
theorem gMk_ap (Γ : Gam) (c : Nat) (xs : List D) (s : Sto) : gMk Γ c xs s = (Γ.fn (Γ.init c) (.ref s.n :: xs) (s.new (.ins c []))).bind (gMk2 s.n) := rfl
def gMt2 (Γ : Gam) (f : Nat) (x : D) (xs : List D) (s : Sto) : R D := Γ.fn f (x :: xs) s
theorem gMt2_ap (Γ : Gam) (f : Nat) (x : D) (xs : List D) (s : Sto) : gMt2 Γ f x xs s = Γ.fn f (x :: xs) s := rfl
def gMt (Γ : Gam) (c f : Nat) (m : Str) (es : Env → Sto → R (List D)) (ρ : Env) (x : D) (s : Sto) : R D := if isIns c m x s = true then (es ρ s).bind (gMt2 Γ f x) else .bad
theorem gMt_ap (Γ : Gam) (c f : Nat) (m : Str) (es : Env → Sto → R (List D)) (ρ : Env) (x : D) (s : Sto) : gMt Γ c f m es ρ x s = if isIns c m x s = true then (es ρ s).bind (gMt2 Γ f x) else .bad := rfl
def gBf (f : BF) (xs : List D) (s : Sto) : R D := .ofO (fO f xs s)
theorem gBf_ap (f : BF) (xs : List D) (s : Sto) : gBf f xs s = .ofO (fO f xs s) := rfl
def gBm2 (m : BM) (x : D) (xs : List D) (s : Sto) : R D := .ofO (mO m x xs s)
theorem gBm2_ap (m : BM) (x : D) (xs : List D) (s : Sto) : gBm2 m x xs s = .ofO (mO m x xs s) := rfl
def gBm (m : BM) (es : Env → Sto → R (List D)) (ρ : Env) (x : D) (s : Sto) : R D := if tyO m x s = true then (es ρ s).bind (gBm2 m x) else .bad
theorem gBm_ap (m : BM) (es : Env → Sto → R (List D)) (ρ : Env) (x : D) (s : Sto) : gBm m es ρ x s = if tyO m x s = true then (es ρ s).bind (gBm2 m x) else .bad := rfl
def gIsi (t : String) (x : D) (s : Sto) : R D := .ofO (isiO x t s)
theorem gIsi_ap (t : String) (x : D) (s : Sto) : gIsi t x s = .ofO (isiO x t s) := rfl
def gLc (own : List Nat) (tg : Tg) (c : Env → Sto → R Bool) (e : ME) (ρ : Env) (src : Src) (s : Sto) : R D := lcLoop src s.n (fun d => bindT tg d (wipeD ρ own)) c e (sMany src s) 0 (s.new (.lst []))
theorem gLc_ap (own : List Nat) (tg : Tg) (c : Env → Sto → R Bool) (e : ME) (ρ : Env) (src : Src) (s : Sto) : gLc own tg c e ρ src s = lcLoop src s.n (fun d => bindT tg d (wipeD ρ own)) c e (sMany src s) 0 (s.new (.lst [])) := rfl
def gStr  (z : Str) (s : Sto) : R D := .ok (.str z) s
theorem gStr_ap  (z : Str) (s : Sto) : gStr  z s = .ok (.str z) s := rfl
def gKget (kvs : List (Str × D)) (x : D) (s : Sto) : R D := strR x fun z => .ok ((kvs.lookup z).getD .non) s
theorem gKget_ap (kvs : List (Str × D)) (x : D) (s : Sto) : gKget kvs x s = strR x fun z => .ok ((kvs.lookup z).getD .non) s := rfl
def gKin (neg : Bool) (kvs : List (Str × D)) (x : D) (s : Sto) : R D := strR x fun z => .ok (.bl ((kvs.lookup z).isSome != neg)) s
theorem gKin_ap (neg : Bool) (kvs : List (Str × D)) (x : D) (s : Sto) : gKin neg kvs x s = strR x fun z => .ok (.bl ((kvs.lookup z).isSome != neg)) s := rfl
def gCo2 (x : D) (xs : List D) (s : Sto) : R (List D) := .ok (x :: xs) s
theorem gCo2_ap (x : D) (xs : List D) (s : Sto) : gCo2 x xs s = .ok (x :: xs) s := rfl
def gCo (es : Env → Sto → R (List D)) (ρ : Env) (x : D) (s : Sto) : R (List D) := (es ρ s).bind (gCo2 x)
theorem gCo_ap (es : Env → Sto → R (List D)) (ρ : Env) (x : D) (s : Sto) : gCo es ρ x s = (es ρ s).bind (gCo2 x) := rfl
def gOs2  (i : Int) (s : Sto) : R (Option Int) := .ok (some i) s
theorem gOs2_ap  (i : Int) (s : Sto) : gOs2  i s = .ok (some i) s := rfl
def gOs  (x : D) (s : Sto) : R (Option Int) := (asI x s).bind gOs2
theorem gOs_ap  (x : D) (s : Sto) : gOs  x s = (asI x s).bind gOs2 := rfl
def gRn1  (x : D) (s : Sto) : R Src := (asI x s).bind rng1R
theorem gRn1_ap  (x : D) (s : Sto) : gRn1  x s = (asI x s).bind rng1R := rfl
def gRn3 (i : Int) (j : Int) (s : Sto) : R Src := rng2R i j s
theorem gRn3_ap (i : Int) (j : Int) (s : Sto) : gRn3 i j s = rng2R i j s := rfl
def gRn2 (y : D) (i : Int) (s : Sto) : R Src := (asI y s).bind (gRn3 i)
theorem gRn2_ap (y : D) (i : Int) (s : Sto) : gRn2 y i s = (asI y s).bind (gRn3 i) := rfl
def gRn  (x : D) (y : D) (s : Sto) : R Src := (asI x s).bind (gRn2 y)
theorem gRn_ap  (x : D) (y : D) (s : Sto) : gRn  x y s = (asI x s).bind (gRn2 y) := rfl
def gZp  (x : D) (y : D) (s : Sto) : R Src := zipR x y s
theorem gZp_ap  (x : D) (y : D) (s : Sto) : gZp  x y s = zipR x y s := rfl
def gAndT (b : Env → Sto → R Bool) (ρ : Env) (k : Bool) (s : Sto) : R Bool := bif k then b ρ s else .ok false s
theorem gAndT_ap (b : Env → Sto → R Bool) (ρ : Env) (k : Bool) (s : Sto) : gAndT b ρ k s = bif k then b ρ s else .ok false s := rfl
def gOrT (b : Env → Sto → R Bool) (ρ : Env) (k : Bool) (s : Sto) : R Bool := bif k then .ok true s else b ρ s
theorem gOrT_ap (b : Env → Sto → R Bool) (ρ : Env) (k : Bool) (s : Sto) : gOrT b ρ k s = bif k then .ok true s else b ρ s := rfl
def gNotT  (k : Bool) (s : Sto) : R Bool := .ok (!k) s
theorem gNotT_ap  (k : Bool) (s : Sto) : gNotT  k s = .ok (!k) s := rfl
def gJ (acc : Str) (f : Str → Sto → R Str) (x : D) (s : Sto) : R Str := joinR acc x s fun z => f z s
theorem gJ_ap (acc : Str) (f : Str → Sto → R Str) (x : D) (s : Sto) : gJ acc f x s = joinR acc x s fun z => f z s := rfl
def sNx (ρ : Env) (x : D) (s : Sto) : Out := .nx ρ s
theorem sNx_ap (ρ : Env) (x : D) (s : Sto) : sNx ρ x s = .nx ρ s := rfl
def sSet (ρ : Env) (i : Nat) (x : D) (s : Sto) : Out := .nx (ρ.set i (some x)) s
theorem sSet_ap (ρ : Env) (i : Nat) (x : D) (s : Sto) : sSet ρ i x s = .nx (ρ.set i (some x)) s := rfl
def sSetT (ρ : Env) (tg : Tg) (x : D) (s : Sto) : Out := outE (bindT tg x ρ) s
theorem sSetT_ap (ρ : Env) (tg : Tg) (x : D) (s : Sto) : sSetT ρ tg x s = outE (bindT tg x ρ) s := rfl
def sPar2 (ρ : Env) (i j : Nat) (x : D) (y : D) (s : Sto) : Out := .nx ((ρ.set i (some x)).set j (some y)) s
theorem sPar2_ap (ρ : Env) (i j : Nat) (x : D) (y : D) (s : Sto) : sPar2 ρ i j x y s = .nx ((ρ.set i (some x)).set j (some y)) s := rfl
def sPar1 (ρ : Env) (i j : Nat) (b : ME) (x : D) (s : Sto) : Out := (b ρ s).to ρ (sPar2 ρ i j x)
theorem sPar1_ap (ρ : Env) (i j : Nat) (b : ME) (x : D) (s : Sto) : sPar1 ρ i j b x s = (b ρ s).to ρ (sPar2 ρ i j x) := rfl
def sI3 (ρ : Env) (v x : D) (y : D) (s : Sto) : Out := outS ρ (setO x y v s)
theorem sI3_ap (ρ : Env) (v x : D) (y : D) (s : Sto) : sI3 ρ v x y s = outS ρ (setO x y v s) := rfl
def sI2 (ρ : Env) (i : ME) (v : D) (x : D) (s : Sto) : Out := (i ρ s).to ρ (sI3 ρ v x)
theorem sI2_ap (ρ : Env) (i : ME) (v : D) (x : D) (s : Sto) : sI2 ρ i v x s = (i ρ s).to ρ (sI3 ρ v x) := rfl
def sI1 (ρ : Env) (b i : ME) (v : D) (s : Sto) : Out := (b ρ s).to ρ (sI2 ρ i v)
theorem sI1_ap (ρ : Env) (b i : ME) (v : D) (s : Sto) : sI1 ρ b i v s = (b ρ s).to ρ (sI2 ρ i v) := rfl
def sF2 (ρ : Env) (n : Nat) (f : Str) (v : D) (x : D) (s : Sto) : Out := outS ρ (setF n x f v s)
theorem sF2_ap (ρ : Env) (n : Nat) (f : Str) (v : D) (x : D) (s : Sto) : sF2 ρ n f v x s = outS ρ (setF n x f v s) := rfl
def sF1 (ρ : Env) (n : Nat) (b : ME) (f : Str) (v : D) (s : Sto) : Out := (b ρ s).to ρ (sF2 ρ n f v)
theorem sF1_ap (ρ : Env) (n : Nat) (b : ME) (f : Str) (v : D) (s : Sto) : sF1 ρ n b f v s = (b ρ s).to ρ (sF2 ρ n f v) := rfl
def sN2 (ρ : Env) (i : Nat) (op : BO) (x : D) (y : D) (s : Sto) : Out := outO (ipB op x y s) (sSet ρ i)
theorem sN2_ap (ρ : Env) (i : Nat) (op : BO) (x : D) (y : D) (s : Sto) : sN2 ρ i op x y s = outO (ipB op x y s) (sSet ρ i) := rfl
def sN1 (ρ : Env) (i : Nat) (op : BO) (e : ME) (x : D) (s : Sto) : Out := (e ρ s).to ρ (sN2 ρ i op x)
theorem sN1_ap (ρ : Env) (i : Nat) (op : BO) (e : ME) (x : D) (s : Sto) : sN1 ρ i op e x s = (e ρ s).to ρ (sN2 ρ i op x) := rfl
def sA3 (ρ : Env) (n : Nat) (f : Str) (x : D) (z : D) (s : Sto) : Out := outS ρ (setF n x f z s)
theorem sA3_ap (ρ : Env) (n : Nat) (f : Str) (x : D) (z : D) (s : Sto) : sA3 ρ n f x z s = outS ρ (setF n x f z s) := rfl
def sA2 (ρ : Env) (n : Nat) (f : Str) (op : BO) (k : Int) (x : D) (v : D) (s : Sto) : Out := outO (ipB op v (.int k) s) (sA3 ρ n f x)
theorem sA2_ap (ρ : Env) (n : Nat) (f : Str) (op : BO) (k : Int) (x : D) (v : D) (s : Sto) : sA2 ρ n f op k x v s = outO (ipB op v (.int k) s) (sA3 ρ n f x) := rfl
def sA1 (ρ : Env) (n : Nat) (f : Str) (op : BO) (k : Int) (x : D) (s : Sto) : Out := outO (fldO n x f s) (sA2 ρ n f op k x)
theorem sA1_ap (ρ : Env) (n : Nat) (f : Str) (op : BO) (k : Int) (x : D) (s : Sto) : sA1 ρ n f op k x s = outO (fldO n x f s) (sA2 ρ n f op k x) := rfl
def sR  (x : D) (s : Sto) : Out := .rt x s
theorem sR_ap  (x : D) (s : Sto) : sR  x s = .rt x s := rfl
def sIff (a b : MS) (ρ : Env) (k : Bool) (s : Sto) : Out := bif k then a ρ s else b ρ s
theorem sIff_ap (a b : MS) (ρ : Env) (k : Bool) (s : Sto) : sIff a b ρ k s = bif k then a ρ s else b ρ s := rfl
def sFr (tg : Tg) (b : MS) (ρ : Env) (src : Src) (s : Sto) : Out := fLoop src (bindT tg) b (sMany src s) 0 ρ s
theorem sFr_ap (tg : Tg) (b : MS) (ρ : Env) (src : Src) (s : Sto) : sFr tg b ρ src s = fLoop src (bindT tg) b (sMany src s) 0 ρ s := rfl
theorem e_var (Γ : Gam) (ρ : Env) (s : Sto) (i : Nat) : ev Γ (.var i) ρ s = mVar i ρ s := rfl
theorem e_cst (Γ : Gam) (ρ : Env) (s : Sto) (d : D) : ev Γ (.cst d) ρ s = .ok d s := rfl
theorem e_glob (Γ : Gam) (ρ : Env) (s : Sto) (g : Nat) : ev Γ (.glob g) ρ s = .ok (Γ.gl g) s := rfl
theorem e_bin (Γ : Gam) (ρ : Env) (s : Sto) (o : BO) (a b : E) : ev Γ (.bin o a b) ρ s = (ev Γ a ρ s).bind (k2 (ev Γ b) ρ (gBin o)) := rfl
theorem e_neg (Γ : Gam) (ρ : Env) (s : Sto) (a : E) : ev Γ (.neg a) ρ s = (ev Γ a ρ s).bind gNeg := rfl
theorem e_cmp (Γ : Gam) (ρ : Env) (s : Sto) (o : CO) (a b : E) : ev Γ (.cmp o a b) ρ s = (ev Γ a ρ s).bind (k2 (ev Γ b) ρ (gCmp o)) := rfl
theorem e_chain (Γ : Gam) (ρ : Env) (s : Sto) (o p : CO) (a b c : E) : ev Γ (.chain o p a b c) ρ s = (ev Γ a ρ s).bind (k2 (ev Γ b) ρ (gCh o p (ev Γ c) ρ)) := congrArg (R.bind _) (funext fun x3 => funext fun s => congrArg (R.bind _) (funext fun x2 => funext fun s => congrArg (R.bind _) (funext fun x1 => funext fun s => congrArg (R.bind _) (funext fun k => funext fun s => (by cases k <;> rfl)))))
theorem e_and (Γ : Gam) (ρ : Env) (s : Sto) (a b : E) : ev Γ (.and a b) ρ s = (ev Γ a ρ s).bind (gAnd (ev Γ b) ρ) := congrArg (R.bind _) (funext fun x1 => funext fun s => congrArg (R.bind _) (funext fun k => funext fun s => (by cases k <;> rfl)))
theorem e_or (Γ : Gam) (ρ : Env) (s : Sto) (a b : E) : ev Γ (.or a b) ρ s = (ev Γ a ρ s).bind (gOr (ev Γ b) ρ) := congrArg (R.bind _) (funext fun x1 => funext fun s => congrArg (R.bind _) (funext fun k => funext fun s => (by cases k <;> rfl)))
theorem e_not (Γ : Gam) (ρ : Env) (s : Sto) (a : E) : ev Γ (.not a) ρ s = (ev Γ a ρ s).bind gNot := rfl
theorem e_ite (Γ : Gam) (ρ : Env) (s : Sto) (c a b : E) : ev Γ (.ite c a b) ρ s = (evT Γ c ρ s).bind (gIte (ev Γ a) (ev Γ b) ρ) := congrArg (R.bind _) (funext fun k => funext fun s => (by cases k <;> rfl))
theorem e_ix (Γ : Gam) (ρ : Env) (s : Sto) (a b : E) : ev Γ (.ix a b) ρ s = (ev Γ a ρ s).bind (k2 (ev Γ b) ρ gIx) := rfl
theorem e_sl (Γ : Gam) (ρ : Env) (s : Sto) (a : E) (lo hi : Op) : ev Γ (.sl a lo hi) ρ s = (ev Γ a ρ s).bind (gSl (evO Γ lo) (evO Γ hi) ρ) := rfl
theorem e_rev (Γ : Gam) (ρ : Env) (s : Sto) (a : E) : ev Γ (.rev a) ρ s = (ev Γ a ρ s).bind gRev := rfl
theorem e_tup (Γ : Gam) (ρ : Env) (s : Sto) (es : Es) : ev Γ (.tup es) ρ s = (evs Γ es ρ s).bind tupR := rfl
theorem e_lst (Γ : Gam) (ρ : Env) (s : Sto) (es : Es) : ev Γ (.lst es) ρ s = (evs Γ es ρ s).bind lstR := rfl
theorem e_dnewK (Γ : Gam) (ρ : Env) (s : Sto)  : ev Γ (.dnew true) ρ s = .ok (.ref s.n) (s.new (.dk false [])) := rfl
theorem e_dnewT (Γ : Gam) (ρ : Env) (s : Sto)  : ev Γ (.dnew false) ρ s = .ok (.ref s.n) (s.new (.dt false [])) := rfl
theorem e_fld (Γ : Gam) (ρ : Env) (s : Sto) (a : E) (f : Str) : ev Γ (.fld a f) ρ s = (ev Γ a ρ s).bind (gFld Γ.ncls f) := rfl
theorem e_call (Γ : Gam) (ρ : Env) (s : Sto) (f : Nat) (es : Es) : ev Γ (.call f es) ρ s = (evs Γ es ρ s).bind (Γ.fn f) := rfl
theorem e_make (Γ : Gam) (ρ : Env) (s : Sto) (c : Nat) (es : Es) : ev Γ (.make c es) ρ s = (evs Γ es ρ s).bind (gMk Γ c) := rfl
theorem e_meth (Γ : Gam) (ρ : Env) (s : Sto) (c f : Nat) (m : Str) (a : E) (es : Es) : ev Γ (.meth c f m a es) ρ s = (ev Γ a ρ s).bind (gMt Γ c f m (evs Γ es) ρ) := rfl
theorem e_bf (Γ : Gam) (ρ : Env) (s : Sto) (f : BF) (es : Es) : ev Γ (.bf f es) ρ s = (evs Γ es ρ s).bind (gBf f) := rfl
theorem e_bm (Γ : Gam) (ρ : Env) (s : Sto) (m : BM) (a : E) (es : Es) : ev Γ (.bm m a es) ρ s = (ev Γ a ρ s).bind (gBm m (evs Γ es) ρ) := rfl
theorem e_isi (Γ : Gam) (ρ : Env) (s : Sto) (e : E) (t : String) : ev Γ (.isi e t) ρ s = (ev Γ e ρ s).bind (gIsi t) := rfl
theorem e_lc (Γ : Gam) (ρ : Env) (s : Sto) (own : List Nat) (tg : Tg) (it : It) (c : Op) (e : E) : ev Γ (.lc own tg it c e) ρ s = (evI Γ it ρ s).bind (gLc own tg (evC Γ c) (ev Γ e) ρ) := rfl
theorem e_fst (Γ : Gam) (ρ : Env) (s : Sto) (es : Es) : ev Γ (.fst es) ρ s = (evJ Γ es Str.empty ρ s).bind gStr := rfl
theorem e_fmt (Γ : Gam) (ρ : Env) (s : Sto) (e : E) : ev Γ (.fmt e) ρ s = (ev Γ e ρ s).bind fmtR := rfl
theorem e_kget (Γ : Gam) (ρ : Env) (s : Sto) (g : Nat) (e : E) : ev Γ (.kget g e) ρ s = (ev Γ e ρ s).bind (gKget (Γ.kd g)) := rfl
theorem e_kin (Γ : Gam) (ρ : Env) (s : Sto) (neg : Bool) (g : Nat) (e : E) : ev Γ (.kin neg g e) ρ s = (ev Γ e ρ s).bind (gKin neg (Γ.kd g)) := rfl
def gDk (d : L2.Key → Env → Sto → R (List (L2.Key × D))) (ρ : Env) (x : D) (s : Sto) : R (List (L2.Key × D)) := keyR x fun k => d k ρ s
theorem gDk_ap (d : L2.Key → Env → Sto → R (List (L2.Key × D))) (ρ : Env) (x : D) (s : Sto) : gDk d ρ x s = keyR x fun k => d k ρ s := rfl
def gDr (k : L2.Key) (y : D) (r : List (L2.Key × D)) (s : Sto) : R (List (L2.Key × D)) := .ok ((k, y) :: r) s
theorem gDr_ap (k : L2.Key) (y : D) (r : List (L2.Key × D)) (s : Sto) : gDr k y r s = .ok ((k, y) :: r) s := rfl
def gDv (d : Env → Sto → R (List (L2.Key × D))) (ρ : Env) (k : L2.Key) (y : D) (s : Sto) : R (List (L2.Key × D)) := (d ρ s).bind (gDr k y)
theorem gDv_ap (d : Env → Sto → R (List (L2.Key × D))) (ρ : Env) (k : L2.Key) (y : D) (s : Sto) : gDv d ρ k y s = (d ρ s).bind (gDr k y) := rfl
def gDp (n : Nat) (kvs : List (L2.Key × D)) (s1 : Sto) : R D := match s1.g n with
    | .dk false [] => if kvs.length ≤ 15 then .ok (.ref n) (s1.put n (.dk false (mergeG kvs))) else .bad
    | _ => .bad
theorem gDp_of {n : Nat} {kvs : List (L2.Key × D)} {s1 : Sto} (h : s1.g n = .dk false []) (hl : kvs.length ≤ 15) : gDp n kvs s1 = .ok (.ref n) (s1.put n (.dk false (mergeG kvs))) := by
  unfold gDp
  rw [h]
  exact if_pos hl
theorem keyR_str {α : Type} (z : Str) (f : L2.Key → R α) : keyR (.str z) f = f (.inr z) := rfl
theorem keyR_int {α : Type} (z : Int) (f : L2.Key → R α) : keyR (.int z) f = f (.inl z) := rfl
theorem e_disp (Γ : Gam) (ρ : Env) (s : Sto) (es : Es) : ev Γ (.disp es) ρ s = (evD Γ es ρ (s.new (.dk false []))).bind (gDp s.n) := rfl
theorem d_nil (Γ : Gam) (ρ : Env) (s : Sto)  : evD Γ .nil ρ s = .ok [] s := rfl
theorem d_cons (Γ : Gam) (ρ : Env) (s : Sto) (e : E) (es : Es) : evD Γ (.cons e es) ρ s = (ev Γ e ρ s).bind (gDk (evD1 Γ es) ρ) := rfl
theorem d1_cons (Γ : Gam) (ρ : Env) (s : Sto) (e : E) (es : Es) (k : L2.Key) : evD1 Γ (.cons e es) k ρ s = (ev Γ e ρ s).bind (gDv (evD Γ es) ρ k) := rfl
theorem e_nil (Γ : Gam) (ρ : Env) (s : Sto)  : evs Γ .nil ρ s = .ok [] s := rfl
theorem e_cons (Γ : Gam) (ρ : Env) (s : Sto) (e : E) (es : Es) : evs Γ (.cons e es) ρ s = (ev Γ e ρ s).bind (gCo (evs Γ es) ρ) := rfl
theorem j_nil (Γ : Gam) (ρ : Env) (s : Sto) (acc : Str) : evJ Γ .nil acc ρ s = .ok acc s := rfl
def gJc (j : Str → Env → Sto → R Str) (ρ : Env) (acc : Str) (x : D) (s : Sto) : R Str := joinR acc x s fun z => j z ρ s
theorem gJc_ap (j : Str → Env → Sto → R Str) (ρ : Env) (acc : Str) (x : D) (s : Sto) : gJc j ρ acc x s = joinR acc x s fun z => j z ρ s := rfl
theorem j_cons (Γ : Gam) (ρ : Env) (s : Sto) (acc : Str) (e : E) (es : Es) : evJ Γ (.cons e es) acc ρ s = (ev Γ e ρ s).bind (gJc (evJ Γ es) ρ acc) := rfl
theorem o_none (Γ : Gam) (ρ : Env) (s : Sto)  : evO Γ .none ρ s = .ok none s := rfl
theorem o_some (Γ : Gam) (ρ : Env) (s : Sto) (e : E) : evO Γ (.some e) ρ s = (ev Γ e ρ s).bind gOs := rfl
theorem c_none (Γ : Gam) (ρ : Env) (s : Sto)  : evC Γ .none ρ s = .ok true s := rfl
theorem c_some (Γ : Gam) (ρ : Env) (s : Sto) (e : E) : evC Γ (.some e) ρ s = evT Γ e ρ s := rfl
theorem i_seq (Γ : Gam) (ρ : Env) (s : Sto) (e : E) : evI Γ (.seq e) ρ s = (ev Γ e ρ s).bind srcR := rfl
theorem i_rng1 (Γ : Gam) (ρ : Env) (s : Sto) (a : E) : evI Γ (.rng1 a) ρ s = (ev Γ a ρ s).bind gRn1 := rfl
theorem i_rng2 (Γ : Gam) (ρ : Env) (s : Sto) (a b : E) : evI Γ (.rng2 a b) ρ s = (ev Γ a ρ s).bind (k2 (ev Γ b) ρ gRn) := rfl
theorem i_zp (Γ : Gam) (ρ : Env) (s : Sto) (a b : E) : evI Γ (.zp a b) ρ s = (ev Γ a ρ s).bind (k2 (ev Γ b) ρ gZp) := rfl
theorem i_enm (Γ : Gam) (ρ : Env) (s : Sto) (a : E) : evI Γ (.enm a) ρ s = (ev Γ a ρ s).bind enmR := rfl
theorem i_keys (Γ : Gam) (ρ : Env) (s : Sto) (a : E) : evI Γ (.keys a) ρ s = (ev Γ a ρ s).bind keysR := rfl
theorem t_cmp (Γ : Gam) (ρ : Env) (s : Sto) (o : CO) (a b : E) : evT Γ (.cmp o a b) ρ s = (ev Γ a ρ s).bind (k2 (ev Γ b) ρ (gCmpT o)) := rfl
theorem t_chain (Γ : Gam) (ρ : Env) (s : Sto) (o p : CO) (a b c : E) : evT Γ (.chain o p a b c) ρ s = (ev Γ a ρ s).bind (k2 (ev Γ b) ρ (gChT o p (ev Γ c) ρ)) := congrArg (R.bind _) (funext fun x3 => funext fun s => congrArg (R.bind _) (funext fun x2 => funext fun s => congrArg (R.bind _) (funext fun x1 => funext fun s => congrArg (R.bind _) (funext fun k => funext fun s => (by cases k <;> rfl)))))
theorem t_and (Γ : Gam) (ρ : Env) (s : Sto) (a b : E) : evT Γ (.and a b) ρ s = (evT Γ a ρ s).bind (gAndT (evT Γ b) ρ) := congrArg (R.bind _) (funext fun k => funext fun s => (by cases k <;> rfl))
theorem t_or (Γ : Gam) (ρ : Env) (s : Sto) (a b : E) : evT Γ (.or a b) ρ s = (evT Γ a ρ s).bind (gOrT (evT Γ b) ρ) := congrArg (R.bind _) (funext fun k => funext fun s => (by cases k <;> rfl))
theorem t_not (Γ : Gam) (ρ : Env) (s : Sto) (a : E) : evT Γ (.not a) ρ s = (evT Γ a ρ s).bind gNotT := rfl
theorem t_var (Γ : Gam) (ρ : Env) (s : Sto) (i : Nat) : evT Γ (.var i) ρ s = (ev Γ (.var i) ρ s).bind truR := rfl
theorem t_ix (Γ : Gam) (ρ : Env) (s : Sto) (a b : E) : evT Γ (.ix a b) ρ s = (ev Γ (.ix a b) ρ s).bind truR := rfl
theorem t_call (Γ : Gam) (ρ : Env) (s : Sto) (f : Nat) (es : Es) : evT Γ (.call f es) ρ s = (ev Γ (.call f es) ρ s).bind truR := rfl
theorem t_meth (Γ : Gam) (ρ : Env) (s : Sto) (c f : Nat) (m : Str) (a : E) (es : Es) : evT Γ (.meth c f m a es) ρ s = (ev Γ (.meth c f m a es) ρ s).bind truR := rfl
theorem t_isi (Γ : Gam) (ρ : Env) (s : Sto) (e : E) (t : String) : evT Γ (.isi e t) ρ s = (ev Γ (.isi e t) ρ s).bind truR := rfl
theorem t_kin (Γ : Gam) (ρ : Env) (s : Sto) (neg : Bool) (g : Nat) (e : E) : evT Γ (.kin neg g e) ρ s = (ev Γ (.kin neg g e) ρ s).bind truR := rfl
theorem t_fld (Γ : Gam) (ρ : Env) (s : Sto) (a : E) (f : Str) : evT Γ (.fld a f) ρ s = (ev Γ (.fld a f) ρ s).bind truR := rfl
theorem t_bf (Γ : Gam) (ρ : Env) (s : Sto) (f : BF) (es : Es) : evT Γ (.bf f es) ρ s = (ev Γ (.bf f es) ρ s).bind truR := rfl
theorem s_nil (Γ : Gam) (fuel : Nat) (ρ : Env) (s : Sto)  : svs Γ fuel .nil ρ s = .nx ρ s := rfl
theorem s_cons (Γ : Gam) (fuel : Nat) (ρ : Env) (s : Sto) (a : Stt) (r : Sts) : svs Γ fuel (.cons a r) ρ s = (sv Γ fuel a ρ s).seq (svs Γ fuel r) := rfl
theorem s_pass (Γ : Gam) (fuel : Nat) (ρ : Env) (s : Sto)  : sv Γ fuel .pass ρ s = .nx ρ s := rfl
theorem s_doc (Γ : Gam) (fuel : Nat) (ρ : Env) (s : Sto)  : sv Γ fuel .doc ρ s = .nx ρ s := rfl
theorem s_brk (Γ : Gam) (fuel : Nat) (ρ : Env) (s : Sto)  : sv Γ fuel .brk ρ s = .bk ρ s := rfl
theorem s_cnt (Γ : Gam) (fuel : Nat) (ρ : Env) (s : Sto)  : sv Γ fuel .cnt ρ s = .ct ρ s := rfl
theorem s_retN (Γ : Gam) (fuel : Nat) (ρ : Env) (s : Sto)  : sv Γ fuel .retN ρ s = .rt .non s := rfl
theorem s_expr (Γ : Gam) (fuel : Nat) (ρ : Env) (s : Sto) (e : E) : sv Γ fuel (.expr e) ρ s = (ev Γ e ρ s).to ρ (sNx ρ) := rfl
theorem s_asg (Γ : Gam) (fuel : Nat) (ρ : Env) (s : Sto) (i : Nat) (e : E) : sv Γ fuel (.asg i e) ρ s = (ev Γ e ρ s).to ρ (sSet ρ i) := rfl
theorem s_asgL (Γ : Gam) (fuel : Nat) (ρ : Env) (s : Sto) (i : Nat) (own : List Nat) (tg : Tg) (it : It) (c : Op) (e : E) : sv Γ fuel (.asgL i own tg it c e) ρ s = (ev Γ (.lc own tg it c e) ρ s).to ρ (sSet ρ i) := rfl
theorem s_asgT (Γ : Gam) (fuel : Nat) (ρ : Env) (s : Sto) (tg : Tg) (e : E) : sv Γ fuel (.asgT tg e) ρ s = (ev Γ e ρ s).to ρ (sSetT ρ tg) := rfl
theorem s_par (Γ : Gam) (fuel : Nat) (ρ : Env) (s : Sto) (i j : Nat) (a b : E) : sv Γ fuel (.par i j a b) ρ s = (ev Γ a ρ s).to ρ (sPar1 ρ i j (ev Γ b)) := rfl
theorem s_asgI (Γ : Gam) (fuel : Nat) (ρ : Env) (s : Sto) (a i e : E) : sv Γ fuel (.asgI a i e) ρ s = (ev Γ e ρ s).to ρ (sI1 ρ (ev Γ a) (ev Γ i)) := rfl
theorem s_asgF (Γ : Gam) (fuel : Nat) (ρ : Env) (s : Sto) (a : E) (f : Str) (e : E) : sv Γ fuel (.asgF a f e) ρ s = (ev Γ e ρ s).to ρ (sF1 ρ Γ.ncls (ev Γ a) f) := rfl
theorem s_augN (Γ : Gam) (fuel : Nat) (ρ : Env) (s : Sto) (i : Nat) (op : BO) (e : E) : sv Γ fuel (.augN i op e) ρ s = (mVar i ρ s).to ρ (sN1 ρ i op (ev Γ e)) := rfl
theorem s_augF (Γ : Gam) (fuel : Nat) (ρ : Env) (s : Sto) (a : E) (f : Str) (op : BO) (k : Int) : sv Γ fuel (.augF a f op k) ρ s = (ev Γ a ρ s).to ρ (sA1 ρ Γ.ncls f op k) := rfl
theorem s_ret (Γ : Gam) (fuel : Nat) (ρ : Env) (s : Sto) (e : E) : sv Γ fuel (.ret e) ρ s = (ev Γ e ρ s).to ρ sR := rfl
theorem s_iff (Γ : Gam) (fuel : Nat) (ρ : Env) (s : Sto) (c : E) (a b : Sts) : sv Γ fuel (.iff c a b) ρ s = (evT Γ c ρ s).to ρ (sIff (svs Γ fuel a) (svs Γ fuel b) ρ) := congrArg (fun f => R.to _ ρ f) (funext fun k => funext fun s => (by cases k <;> rfl))
theorem s_whl (Γ : Gam) (fuel : Nat) (ρ : Env) (s : Sto) (c : E) (b : Sts) : sv Γ fuel (.whl c b) ρ s = wLoop (evT Γ c) (svs Γ fuel b) fuel ρ s := rfl
theorem s_for (Γ : Gam) (fuel : Nat) (ρ : Env) (s : Sto) (tg : Tg) (it : It) (b : Sts) : sv Γ fuel (.for_ tg it b) ρ s = (evI Γ it ρ s).to ρ (sFr tg (svs Γ fuel b) ρ) := rfl
theorem s_tryN (Γ : Gam) (fuel : Nat) (ρ : Env) (s : Sto) (b : Sts) : sv Γ fuel (.tryN b) ρ s = (svs Γ fuel b ρ s).noex := rfl
theorem strR_str {α : Type} (z : Str) (f : Str → R α) : strR (.str z) f = f z := rfl
end Ab
set_option Elab.async false
set_option linter.all false
set_option maxRecDepth 100000
set_option maxHeartbeats 1000000
/-! Ab18: what all laws' own defs share: mixed, draws -/
namespace Ab
open PySem

/-- a def of the table, by its body -/
structure Is (T : Tb) (f : Nat) (N P : Nat) (b : Sts) : Prop where
  ex : ∃ d, T.dfs[f]? = some d ∧ d.body = b ∧ d.N.length = N ∧ d.ps.length = P
def stE (N : Nat) (ds : List D) : Env := ds.map some ++ List.replicate (N - ds.length) none
theorem Is.call {T : Tb} {f N P : Nat} {b : Sts} (h : Is T f N P b) {k fuel : Nat} {ds : List D} {s : Sto} (hl : ds.length = P) :
    (T.gam fuel (k + 1)).fn f ds s = (svs (T.gam fuel k) fuel b (stE N ds) s).fin := by
  obtain ⟨d, h1, rfl, rfl, rfl⟩ := h.ex
  exact call_at h1 hl

/-! ### mixed -/
def bMixed : Sts := .cons (.asg 2 (.bin .mod (.bin .add (.bin .add (.bin .mul (.var 0) (.cst (.int 48271))) (.bin .mul (.var 1) (.cst (.int 69621)))) (.cst (.int 12345))) (.cst (.int 2147483647)))) (.cons (.ret (.bin .mod (.bin .add (.bin .mul (.var 2) (.bin .add (.bin .fdiv (.var 2) (.cst (.int 65536))) (.cst (.int 3)))) (.var 1)) (.cst (.int 2147483647)))) (.nil))
def step1 (a b : Int) : Int := (a * 48271 + b * 69621 + 12345) % 2147483647
def mixed (a b : Int) : Int := (step1 a b * (step1 a b / 65536 + 3) + b) % 2147483647
theorem step1_nn (a b : Int) : 0 ≤ step1 a b := Int.emod_nonneg _ (by decide)
theorem step1_lt (a b : Int) : step1 a b < 2147483647 := Int.emod_lt_of_pos _ (by decide)
theorem mixed_nn (a b : Int) : 0 ≤ mixed a b := Int.emod_nonneg _ (by decide)
theorem mixed_lt (a b : Int) : mixed a b < 2147483647 := Int.emod_lt_of_pos _ (by decide)
theorem sm64 {i : Int} (h : -(2 ^ 64) < i) (h' : i < 2 ^ 64) : small64 i = true := by
  unfold small64
  rw [decide_eq_true h, decide_eq_true h']; rfl
theorem sm64k {i j : Int} (h : small64 j = true) : (small64 i || small64 j) = true := by rw [h, Bool.or_true]
theorem mixed_is {T : Tb} {f : Nat} (h : Is T f 3 2 bMixed) {k fuel : Nat} {a b : Int} {s : Sto} : (T.gam fuel (k + 1)).fn f [.int a, .int b] s = .ok (.int (mixed a b)) s := by
  rw [h.call rfl]
  have h1 : (small64 a || small64 48271) = true := sm64k (by decide)
  have h2 : (small64 b || small64 69621) = true := sm64k (by decide)
  have h3 : small64 (step1 a b) = true := sm64 (by have := step1_nn a b; omega) (by have := step1_lt a b; omega)
  unfold step1 at h3
  show (svs _ _ bMixed [some (.int a), some (.int b), none] s).fin = _
  unfold bMixed
  simp only [fin_nx, fin_rt, fin_ex, ofO_some, ofO_none, asB_bl, asI_int, truR_bl, outS_some, outE_some, outO_some, R.bind_ok, R.bind_ex, R.bind_bad, R.to_ok, R.to_ex, R.to_bad, Out.seq_nx, Out.seq_rt, Out.seq_bk, Out.seq_ct, Out.seq_ex, Out.seq_bad, cond_true, cond_false, gam_gl, gam_ncls, gam_init, gam_kd, List.getElem?_cons_zero, List.getElem?_cons_succ, List.set_cons_zero, List.set_cons_succ, List.cons_append, List.nil_append, k2_ap, gBin_ap, gCmp_ap, gCmpT_ap, gNeg_ap, gCh3_ap, gCh2_ap, gCh_ap, gCh3T_ap, gCh2T_ap, gChT_ap, gAnd2_ap, gAnd_ap, gOr2_ap, gOr_ap, gNot2_ap, gNot_ap, gIte_ap, gIx_ap, gSl2_ap, gSl1_ap, gSl_ap, gRev_ap, gFld_ap, gMk2_ap, gMk_ap, gMt2_ap, gMt_ap, gBf_ap, gBm2_ap, gBm_ap, gIsi_ap, gLc_ap, gStr_ap, gKget_ap, gKin_ap, gCo2_ap, gCo_ap, gOs2_ap, gOs_ap, gRn1_ap, gRn3_ap, gRn2_ap, gRn_ap, gZp_ap, gAndT_ap, gOrT_ap, gNotT_ap, gJ_ap, sNx_ap, sSet_ap, sSetT_ap, sPar2_ap, sPar1_ap, sI3_ap, sI2_ap, sI1_ap, sF2_ap, sF1_ap, sN2_ap, sN1_ap, sA3_ap, sA2_ap, sA1_ap, sR_ap, sIff_ap, sFr_ap, e_var, e_cst, e_glob, e_bin, e_neg, e_cmp, e_chain, e_and, e_or, e_not, e_ite, e_ix, e_sl, e_rev, e_tup, e_lst, e_dnewK, e_dnewT, e_fld, e_call, e_make, e_meth, e_bf, e_bm, e_isi, e_lc, e_fst, e_fmt, e_kget, e_kin, gDk_ap, gDr_ap, gDv_ap, keyR_str, keyR_int, e_disp, d_nil, d_cons, d1_cons, e_nil, e_cons, j_nil, j_cons, o_none, o_some, c_none, c_some, i_seq, i_rng1, i_rng2, i_zp, i_enm, i_keys, t_cmp, t_chain, t_and, t_or, t_not, t_var, t_ix, t_call, t_meth, t_isi, t_kin, t_fld, t_bf, s_nil, s_cons, s_pass, s_doc, s_brk, s_cnt, s_retN, s_expr, s_asg, s_asgL, s_asgT, s_par, s_asgI, s_asgF, s_augN, s_augF, s_ret, s_iff, s_whl, s_for, s_tryN, strR_str, Option.getD_some, Option.getD_none, Option.isSome_some, Option.isSome_none, mVar, gJc_ap, opN, opB, and_self, true_and, and_true, if_true, if_false, Bool.true_or, Bool.not_true, Bool.not_false, eq_self, h1, h2, h3, show (0 : Int) < 2147483647 from by decide, show (0 : Int) < 65536 from by decide, show (65536 : Int) < 1073741824 from by decide]
  rfl

/-! ### the store, but for some places -/
structure Fr (X : Nat → Prop) (s s' : Sto) : Prop where
  le : s.n ≤ s'.n
  eq : ∀ q, q < s.n → ¬ X q → s'.g q = s.g q
theorem Fr.refl {X : Nat → Prop} {s : Sto} : Fr X s s := ⟨Nat.le_refl _, fun _ _ _ => rfl⟩
theorem Fr.trans {X : Nat → Prop} {s s1 s2 : Sto} (a : Fr X s s1) (b : Fr X s1 s2) : Fr X s s2 :=
  ⟨Nat.le_trans a.le b.le, fun q h x => (b.eq q (Nat.lt_of_lt_of_le h a.le) x).trans (a.eq q h x)⟩
theorem Fr.mono {X Y : Nat → Prop} {s s' : Sto} (a : Fr X s s') (h : ∀ q, X q → Y q) : Fr Y s s' := ⟨a.le, fun q hq hy => a.eq q hq fun x => hy (h q x)⟩
theorem Fr.put {X : Nat → Prop} {s : Sto} {r : Nat} {o : Ob} (h : X r) : Fr X s (s.put r o) :=
  ⟨Nat.le_refl _, fun q _ x => if_neg (fun e : q = r => x (by rw [e]; exact h))⟩
theorem Fr.new {X : Nat → Prop} {s : Sto} {o : Ob} : Fr X s (s.new o) := ⟨Nat.le_succ _, fun q h _ => if_neg (Nat.ne_of_lt h)⟩
theorem put_g {s : Sto} {r : Nat} {o : Ob} : (s.put r o).g r = o := if_pos rfl
theorem put_ne {s : Sto} {r q : Nat} {o : Ob} (h : q ≠ r) : (s.put r o).g q = s.g q := if_neg h
theorem new_g {s : Sto} {o : Ob} : (s.new o).g s.n = o := if_pos rfl
theorem new_old {s : Sto} {q : Nat} {o : Ob} (h : q < s.n) : (s.new o).g q = s.g q := if_neg (Nat.ne_of_lt h)

/-! ### loops -/
section
variable {src : Src} {tg : D → Env → Option Env} {b : MS}
/-- every turn goes on -/
theorem fLoop_all {n : Nat} (P : Nat → Env → Sto → Prop) (hs : ∀ j ρ s, j < n → P j ρ s → ∃ d ρ', sItem src j s = some (some d) ∧ tg d ρ = some ρ' ∧ ∃ ρ2 s2, (b ρ' s = .nx ρ2 s2 ∨ b ρ' s = .ct ρ2 s2) ∧ P (j + 1) ρ2 s2)
    (he : ∀ ρ s, P n ρ s → sItem src n s = some none) : ∀ (m i : Nat) (ρ : Env) (s : Sto), i ≤ n → n - i < m → P i ρ s → ∃ ρ' s', fLoop src tg b m i ρ s = .nx ρ' s' ∧ P n ρ' s'
  | 0, i, ρ, s, _, h, _ => absurd h (Nat.not_lt_zero _)
  | m + 1, i, ρ, s, hi, hm, p => by
    unfold fLoop
    by_cases e : i = n
    · subst e
      rw [he ρ s p]
      exact ⟨ρ, s, rfl, p⟩
    · obtain ⟨d, ρ', h1, h2, ρ2, s2, h3, h4⟩ := hs i ρ s (by omega) p
      rw [h1]
      simp only
      rw [h2]
      simp only
      obtain ⟨ρ3, s3, h5, h6⟩ := fLoop_all P hs he m (i + 1) ρ2 s2 (by omega) (by omega) h4
      refine ⟨ρ3, s3, ?_, h6⟩
      rcases h3 with h3 | h3 <;> rw [h3] <;> exact h5
/-- some turn may leave by a return -/
theorem fLoop_ret {n : Nat} (P : Nat → Env → Sto → Prop) (Q : D → Sto → Prop) (hs : ∀ j ρ s, j < n → P j ρ s → ∃ d ρ', sItem src j s = some (some d) ∧ tg d ρ = some ρ' ∧ ((∃ ρ2 s2, (b ρ' s = .nx ρ2 s2 ∨ b ρ' s = .ct ρ2 s2) ∧ P (j + 1) ρ2 s2) ∨ ∃ v s2, b ρ' s = .rt v s2 ∧ Q v s2))
    (he : ∀ ρ s, P n ρ s → sItem src n s = some none) : ∀ (m i : Nat) (ρ : Env) (s : Sto), i ≤ n → n - i < m → P i ρ s → (∃ ρ' s', fLoop src tg b m i ρ s = .nx ρ' s' ∧ P n ρ' s') ∨ ∃ v s', fLoop src tg b m i ρ s = .rt v s' ∧ Q v s'
  | 0, i, ρ, s, _, h, _ => absurd h (Nat.not_lt_zero _)
  | m + 1, i, ρ, s, hi, hm, p => by
    unfold fLoop
    by_cases e : i = n
    · subst e
      rw [he ρ s p]
      exact .inl ⟨ρ, s, rfl, p⟩
    · obtain ⟨d, ρ', h1, h2, h3⟩ := hs i ρ s (by omega) p
      rw [h1]
      simp only
      rw [h2]
      simp only
      rcases h3 with ⟨ρ2, s2, h3, h4⟩ | ⟨v, s2, h3, h4⟩
      · have ih := fLoop_ret P Q hs he m (i + 1) ρ2 s2 (by omega) (by omega) h4
        rcases h3 with h3 | h3 <;> rw [h3] <;> exact ih
      · rw [h3]
        exact .inr ⟨v, s2, rfl, h4⟩
end
/-- a comprehension: the list stands at r -/
theorem lc_all {src : Src} {r n : Nat} {tg : D → Option Env} {c : Env → Sto → R Bool} {e : Env → Sto → R D} (P : Nat → List D → Sto → Prop)
    (hs : ∀ j acc s, j < n → P j acc s → ∃ d ρ, sItem src j s = some (some d) ∧ tg d = some ρ ∧ ∃ k s1, c ρ s = .ok k s1 ∧
      ((k = false ∧ P (j + 1) acc s1) ∨ (k = true ∧ ∃ y s2, e ρ s1 = .ok y s2 ∧ s2.g r = .lst acc ∧ acc.length < sizeLine ∧ P (j + 1) (acc ++ [y]) (s2.put r (.lst (acc ++ [y]))))))
    (he : ∀ acc s, P n acc s → sItem src n s = some none) : ∀ (m i : Nat) (acc : List D) (s : Sto), i ≤ n → n - i < m → P i acc s → ∃ acc' s', lcLoop src r tg c e m i s = .ok (.ref r) s' ∧ P n acc' s'
  | 0, i, acc, s, _, h, _ => absurd h (Nat.not_lt_zero _)
  | m + 1, i, acc, s, hi, hm, p => by
    unfold lcLoop
    by_cases q : i = n
    · subst q
      rw [he acc s p]
      exact ⟨acc, s, rfl, p⟩
    · obtain ⟨d, ρ, h1, h2, k, s1, h3, h4⟩ := hs i acc s (by omega) p
      rw [h1]
      simp only
      rw [h2]
      simp only
      rw [h3]
      rcases h4 with ⟨rfl, h4⟩ | ⟨rfl, y, s2, h4, h5, h6, h7⟩
      · exact lc_all P hs he m (i + 1) acc s1 (by omega) (by omega) h4
      · show ∃ acc' s', (((e ρ s1).noex.bind fun y s2 => match lstOf s2 r with
          | none => .bad
          | some acc => if acc.length < sizeLine then lcLoop src r tg c e m (i + 1) (s2.put r (.lst (acc ++ [y]))) else .bad) = R.ok (D.ref r) s') ∧ P n acc' s'
        rw [h4]
        show ∃ acc' s', ((match lstOf s2 r with
          | none => .bad
          | some acc => if acc.length < sizeLine then lcLoop src r tg c e m (i + 1) (s2.put r (.lst (acc ++ [y]))) else .bad) = R.ok (D.ref r) s') ∧ P n acc' s'
        have e5 : lstOf s2 r = some acc := by unfold lstOf; rw [h5]
        rw [e5]
        simp only
        rw [if_pos h6]
        exact lc_all P hs he m (i + 1) _ _ (by omega) (by omega) h7
/-! the same, told of o, which the loop is -/
theorem for_c {o : Out} {G : Prop} {src : Src} {tg : D → Env → Option Env} {b : MS} {m i : Nat} {ρ : Env} {s : Sto} (hX : fLoop src tg b m i ρ s = o) (n : Nat) (P : Nat → Env → Sto → Prop) (p : P i ρ s) (hi : i ≤ n) (hm : n - i < m)
    (hs : ∀ j ρ s, j < n → P j ρ s → ∃ d ρ', sItem src j s = some (some d) ∧ tg d ρ = some ρ' ∧ ∃ ρ2 s2, (b ρ' s = .nx ρ2 s2 ∨ b ρ' s = .ct ρ2 s2) ∧ P (j + 1) ρ2 s2) (he : ∀ ρ s, P n ρ s → sItem src n s = some none)
    (hk : ∀ ρ' s', P n ρ' s' → o = .nx ρ' s' → G) : G := by
  obtain ⟨ρ', s', h1, h2⟩ := fLoop_all P hs he m i ρ s hi hm p
  exact hk ρ' s' h2 (hX.symm.trans h1)
theorem for_cr {o : Out} {G : Prop} {src : Src} {tg : D → Env → Option Env} {b : MS} {m i : Nat} {ρ : Env} {s : Sto} (hX : fLoop src tg b m i ρ s = o) (n : Nat) (P : Nat → Env → Sto → Prop) (Q : D → Sto → Prop) (p : P i ρ s) (hi : i ≤ n) (hm : n - i < m)
    (hs : ∀ j ρ s, j < n → P j ρ s → ∃ d ρ', sItem src j s = some (some d) ∧ tg d ρ = some ρ' ∧ ((∃ ρ2 s2, (b ρ' s = .nx ρ2 s2 ∨ b ρ' s = .ct ρ2 s2) ∧ P (j + 1) ρ2 s2) ∨ ∃ v s2, b ρ' s = .rt v s2 ∧ Q v s2)) (he : ∀ ρ s, P n ρ s → sItem src n s = some none)
    (hk : ∀ ρ' s', P n ρ' s' → o = .nx ρ' s' → G) (hr : ∀ v s', Q v s' → o = .rt v s' → G) : G := by
  rcases fLoop_ret P Q hs he m i ρ s hi hm p with ⟨ρ', s', h1, h2⟩ | ⟨v, s', h1, h2⟩
  · exact hk ρ' s' h2 (hX.symm.trans h1)
  · exact hr v s' h2 (hX.symm.trans h1)
theorem lc_c {o : R D} {G : Prop} {src : Src} {r : Nat} {tg : D → Option Env} {c : Env → Sto → R Bool} {e : Env → Sto → R D} {m i : Nat} {s : Sto} (hX : lcLoop src r tg c e m i s = o) (n : Nat) (P : Nat → List D → Sto → Prop) (acc : List D) (p : P i acc s) (hi : i ≤ n) (hm : n - i < m)
    (hs : ∀ j acc s, j < n → P j acc s → ∃ d ρ, sItem src j s = some (some d) ∧ tg d = some ρ ∧ ∃ k s1, c ρ s = .ok k s1 ∧
      ((k = false ∧ P (j + 1) acc s1) ∨ (k = true ∧ ∃ y s2, e ρ s1 = .ok y s2 ∧ s2.g r = .lst acc ∧ acc.length < sizeLine ∧ P (j + 1) (acc ++ [y]) (s2.put r (.lst (acc ++ [y]))))))
    (he : ∀ acc s, P n acc s → sItem src n s = some none) (hk : ∀ acc' s', P n acc' s' → o = .ok (.ref r) s' → G) : G := by
  obtain ⟨acc', s', h1, h2⟩ := lc_all P hs he m i acc s hi hm p
  exact hk acc' s' h2 (hX.symm.trans h1)
end Ab
set_option Elab.async false
set_option linter.all false
set_option maxRecDepth 100000
set_option maxHeartbeats 1000000
/-! Ab19: draws -/
namespace Ab
open PySem L2
theorem ixO_lst {s : Sto} {r : Nat} {xs : List D} {i : Int} {x : D} (h : s.g r = .lst xs) (hx : atI xs i = some x) : ixO (.ref r) (.int i) s = some (x, s) := by
  have e : rdOf s r = some xs := by unfold rdOf; rw [h]
  simp only [ixO, tupOf, e, hx, Option.map_some]
theorem setO_lst {s : Sto} {r j : Nat} {xs : List D} {i : Int} {v : D} (h : s.g r = .lst xs) (hx : ixN xs.length i = some j) : setO (.ref r) (.int i) v s = some (s.put r (.lst (xs.set j v))) := by
  simp only [setO, h, hx, Option.map_some]
theorem len_lst {s : Sto} {r : Nat} {xs : List D} (h : s.g r = .lst xs) : fO .len [.ref r] s = some (.int xs.length, s) := by
  simp only [fO, h]
theorem ixN_nat {n j : Nat} (h : j < n) : ixN n (j : Int) = some j := by
  unfold ixN
  rw [if_pos (Int.natCast_nonneg j), if_pos (by exact_mod_cast h)]
  simp
theorem atI_nat {α : Type} {xs : List α} {j : Nat} {x : α} (h : xs[j]? = some x) : atI xs (j : Int) = some x := by
  unfold atI
  rw [ixN_nat (List.getElem?_eq_some_iff.mp h).1]
  exact h

def bDraw (f : Nat) : Sts := .cons (.asg 1 (.ix (.var 0) (.cst (.int 1)))) (.cons (.asgI (.var 0) (.cst (.int 1)) (.bin .add (.var 1) (.cst (.int 1)))) (.cons (.iff (.cmp .lt (.var 1) (.bf .len (.cons (.ix (.var 0) (.cst (.int 0))) (.nil)))) (.cons (.ret (.ix (.ix (.var 0) (.cst (.int 0))) (.var 1))) (.nil)) (.nil)) (.cons (.asg 2 (.bin .add (.cst (.int 1)) (.var 1))) (.cons (.iff (.cmp .gt (.bf .len (.cons (.ix (.var 0) (.cst (.int 0))) (.nil))) (.cst (.int 0))) (.cons (.asg 2 (.bin .add (.var 2) (.bin .mul (.cst (.int 1009)) (.ix (.ix (.var 0) (.cst (.int 0))) (.cst (.int 0)))))) (.nil)) (.nil)) (.cons (.ret (.bin .mod (.call f (.cons (.call f (.cons (.var 2) (.cons (.var 1) (.nil)))) (.cons (.cst (.int 5)) (.nil)))) (.cst (.int 1000000)))) (.nil))))))
/-- the draws at r: the numbers at l, the place -/
structure Dr (s : Sto) (r l : Nat) : Prop where
  hr : r < s.n
  hl : l < s.n
  ne : l ≠ r
  at_ : ∃ (a : Nat) (xs : List Int), s.g r = .lst [.ref l, .int a] ∧ s.g l = .lst (xs.map .int)
theorem Dr.keep {X : Nat → Prop} {s s' : Sto} {r l : Nat} (d : Dr s r l) (f : Fr X s s') (h1 : ¬ X r) (h2 : ¬ X l) : Dr s' r l := by
  obtain ⟨a, xs, e1, e2⟩ := d.at_
  exact ⟨Nat.lt_of_lt_of_le d.hr f.le, Nat.lt_of_lt_of_le d.hl f.le, d.ne, a, xs, by rw [f.eq r d.hr h1]; exact e1, by rw [f.eq l d.hl h2]; exact e2⟩
theorem draw_is {T : Tb} {f m : Nat} (h : Is T f 3 1 (bDraw m)) (hm : Is T m 3 2 bMixed) {k fuel : Nat} {s : Sto} {r l : Nat} (d : Dr s r l) :
    ∃ (n : Int) (s' : Sto), (T.gam fuel (k + 2)).fn f [.ref r] s = .ok (.int n) s' ∧ Dr s' r l ∧ Fr (· = r) s s' ∧ s'.n = s.n := by
  obtain ⟨a, xs, e1, e2⟩ := d.at_
  rw [h.call rfl]
  show ∃ (n : Int) (s' : Sto), (svs _ _ (bDraw m) [some (.ref r), none, none] s).fin = _ ∧ _
  have h1 := ixO_lst (i := 1) e1 (x := .int a) rfl
  have h2 := setO_lst (i := 1) (j := 1) (v := .int (a + 1)) e1 rfl
  have e1' : (s.put r (.lst [.ref l, .int (a + 1)])).g r = .lst [.ref l, .int (a + 1)] := put_g
  have e2' : (s.put r (.lst [.ref l, .int (a + 1)])).g l = .lst (xs.map .int) := by rw [put_ne d.ne]; exact e2
  have h3 := ixO_lst (i := 0) e1' (x := .ref l) rfl
  have h4 := len_lst e2'
  have fin_ : ∀ n : Int, ∃ (n' : Int) (s' : Sto), R.ok (D.int n) (s.put r (.lst [.ref l, .int (a + 1)])) = R.ok (D.int n') s' ∧ Dr s' r l ∧ Fr (· = r) s s' ∧ s'.n = s.n := fun n =>
    ⟨n, _, rfl, ⟨d.hr, d.hl, d.ne, a + 1, xs, by rw [e1']; simp, e2'⟩, Fr.put rfl, rfl⟩
  unfold bDraw
  simp only [fin_nx, fin_rt, fin_ex, ofO_some, ofO_none, asB_bl, asI_int, truR_bl, outS_some, outE_some, outO_some, R.bind_ok, R.bind_ex, R.bind_bad, R.to_ok, R.to_ex, R.to_bad, Out.seq_nx, Out.seq_rt, Out.seq_bk, Out.seq_ct, Out.seq_ex, Out.seq_bad, cond_true, cond_false, gam_gl, gam_ncls, gam_init, gam_kd, List.getElem?_cons_zero, List.getElem?_cons_succ, List.set_cons_zero, List.set_cons_succ, List.cons_append, List.nil_append, k2_ap, gBin_ap, gCmp_ap, gCmpT_ap, gNeg_ap, gCh3_ap, gCh2_ap, gCh_ap, gCh3T_ap, gCh2T_ap, gChT_ap, gAnd2_ap, gAnd_ap, gOr2_ap, gOr_ap, gNot2_ap, gNot_ap, gIte_ap, gIx_ap, gSl2_ap, gSl1_ap, gSl_ap, gRev_ap, gFld_ap, gMk2_ap, gMk_ap, gMt2_ap, gMt_ap, gBf_ap, gBm2_ap, gBm_ap, gIsi_ap, gLc_ap, gStr_ap, gKget_ap, gKin_ap, gCo2_ap, gCo_ap, gOs2_ap, gOs_ap, gRn1_ap, gRn3_ap, gRn2_ap, gRn_ap, gZp_ap, gAndT_ap, gOrT_ap, gNotT_ap, gJ_ap, sNx_ap, sSet_ap, sSetT_ap, sPar2_ap, sPar1_ap, sI3_ap, sI2_ap, sI1_ap, sF2_ap, sF1_ap, sN2_ap, sN1_ap, sA3_ap, sA2_ap, sA1_ap, sR_ap, sIff_ap, sFr_ap, e_var, e_cst, e_glob, e_bin, e_neg, e_cmp, e_chain, e_and, e_or, e_not, e_ite, e_ix, e_sl, e_rev, e_tup, e_lst, e_dnewK, e_dnewT, e_fld, e_call, e_make, e_meth, e_bf, e_bm, e_isi, e_lc, e_fst, e_fmt, e_kget, e_kin, gDk_ap, gDr_ap, gDv_ap, keyR_str, keyR_int, e_disp, d_nil, d_cons, d1_cons, e_nil, e_cons, j_nil, j_cons, o_none, o_some, c_none, c_some, i_seq, i_rng1, i_rng2, i_zp, i_enm, i_keys, t_cmp, t_chain, t_and, t_or, t_not, t_var, t_ix, t_call, t_meth, t_isi, t_kin, t_fld, t_bf, s_nil, s_cons, s_pass, s_doc, s_brk, s_cnt, s_retN, s_expr, s_asg, s_asgL, s_asgT, s_par, s_asgI, s_asgF, s_augN, s_augF, s_ret, s_iff, s_whl, s_for, s_tryN, strR_str, Option.getD_some, Option.getD_none, Option.isSome_some, Option.isSome_none, mVar, gJc_ap, opN, opB, and_self, true_and, and_true, if_true, if_false, Bool.true_or, Bool.not_true, Bool.not_false, eq_self, h1, h2, h3, h4, opC, List.set]
  by_cases c : (a : Int) < ((xs.map D.int).length : Nat)
  · rw [decide_eq_true c]
    have hlt : a < xs.length := by simpa using c
    have h5 := ixO_lst (i := (a : Int)) (x := .int xs[a]) e2' (atI_nat (by simp [hlt]))
    simp only [fin_nx, fin_rt, fin_ex, ofO_some, ofO_none, asB_bl, asI_int, truR_bl, outS_some, outE_some, outO_some, R.bind_ok, R.bind_ex, R.bind_bad, R.to_ok, R.to_ex, R.to_bad, Out.seq_nx, Out.seq_rt, Out.seq_bk, Out.seq_ct, Out.seq_ex, Out.seq_bad, cond_true, cond_false, gam_gl, gam_ncls, gam_init, gam_kd, List.getElem?_cons_zero, List.getElem?_cons_succ, List.set_cons_zero, List.set_cons_succ, List.cons_append, List.nil_append, k2_ap, gBin_ap, gCmp_ap, gCmpT_ap, gNeg_ap, gCh3_ap, gCh2_ap, gCh_ap, gCh3T_ap, gCh2T_ap, gChT_ap, gAnd2_ap, gAnd_ap, gOr2_ap, gOr_ap, gNot2_ap, gNot_ap, gIte_ap, gIx_ap, gSl2_ap, gSl1_ap, gSl_ap, gRev_ap, gFld_ap, gMk2_ap, gMk_ap, gMt2_ap, gMt_ap, gBf_ap, gBm2_ap, gBm_ap, gIsi_ap, gLc_ap, gStr_ap, gKget_ap, gKin_ap, gCo2_ap, gCo_ap, gOs2_ap, gOs_ap, gRn1_ap, gRn3_ap, gRn2_ap, gRn_ap, gZp_ap, gAndT_ap, gOrT_ap, gNotT_ap, gJ_ap, sNx_ap, sSet_ap, sSetT_ap, sPar2_ap, sPar1_ap, sI3_ap, sI2_ap, sI1_ap, sF2_ap, sF1_ap, sN2_ap, sN1_ap, sA3_ap, sA2_ap, sA1_ap, sR_ap, sIff_ap, sFr_ap, e_var, e_cst, e_glob, e_bin, e_neg, e_cmp, e_chain, e_and, e_or, e_not, e_ite, e_ix, e_sl, e_rev, e_tup, e_lst, e_dnewK, e_dnewT, e_fld, e_call, e_make, e_meth, e_bf, e_bm, e_isi, e_lc, e_fst, e_fmt, e_kget, e_kin, gDk_ap, gDr_ap, gDv_ap, keyR_str, keyR_int, e_disp, d_nil, d_cons, d1_cons, e_nil, e_cons, j_nil, j_cons, o_none, o_some, c_none, c_some, i_seq, i_rng1, i_rng2, i_zp, i_enm, i_keys, t_cmp, t_chain, t_and, t_or, t_not, t_var, t_ix, t_call, t_meth, t_isi, t_kin, t_fld, t_bf, s_nil, s_cons, s_pass, s_doc, s_brk, s_cnt, s_retN, s_expr, s_asg, s_asgL, s_asgT, s_par, s_asgI, s_asgF, s_augN, s_augF, s_ret, s_iff, s_whl, s_for, s_tryN, strR_str, Option.getD_some, Option.getD_none, Option.isSome_some, Option.isSome_none, mVar, gJc_ap, opN, opB, and_self, true_and, and_true, if_true, if_false, Bool.true_or, Bool.not_true, Bool.not_false, eq_self, h5]
    exact fin_ _
  · rw [decide_eq_false c]
    simp only [fin_nx, fin_rt, fin_ex, ofO_some, ofO_none, asB_bl, asI_int, truR_bl, outS_some, outE_some, outO_some, R.bind_ok, R.bind_ex, R.bind_bad, R.to_ok, R.to_ex, R.to_bad, Out.seq_nx, Out.seq_rt, Out.seq_bk, Out.seq_ct, Out.seq_ex, Out.seq_bad, cond_true, cond_false, gam_gl, gam_ncls, gam_init, gam_kd, List.getElem?_cons_zero, List.getElem?_cons_succ, List.set_cons_zero, List.set_cons_succ, List.cons_append, List.nil_append, k2_ap, gBin_ap, gCmp_ap, gCmpT_ap, gNeg_ap, gCh3_ap, gCh2_ap, gCh_ap, gCh3T_ap, gCh2T_ap, gChT_ap, gAnd2_ap, gAnd_ap, gOr2_ap, gOr_ap, gNot2_ap, gNot_ap, gIte_ap, gIx_ap, gSl2_ap, gSl1_ap, gSl_ap, gRev_ap, gFld_ap, gMk2_ap, gMk_ap, gMt2_ap, gMt_ap, gBf_ap, gBm2_ap, gBm_ap, gIsi_ap, gLc_ap, gStr_ap, gKget_ap, gKin_ap, gCo2_ap, gCo_ap, gOs2_ap, gOs_ap, gRn1_ap, gRn3_ap, gRn2_ap, gRn_ap, gZp_ap, gAndT_ap, gOrT_ap, gNotT_ap, gJ_ap, sNx_ap, sSet_ap, sSetT_ap, sPar2_ap, sPar1_ap, sI3_ap, sI2_ap, sI1_ap, sF2_ap, sF1_ap, sN2_ap, sN1_ap, sA3_ap, sA2_ap, sA1_ap, sR_ap, sIff_ap, sFr_ap, e_var, e_cst, e_glob, e_bin, e_neg, e_cmp, e_chain, e_and, e_or, e_not, e_ite, e_ix, e_sl, e_rev, e_tup, e_lst, e_dnewK, e_dnewT, e_fld, e_call, e_make, e_meth, e_bf, e_bm, e_isi, e_lc, e_fst, e_fmt, e_kget, e_kin, gDk_ap, gDr_ap, gDv_ap, keyR_str, keyR_int, e_disp, d_nil, d_cons, d1_cons, e_nil, e_cons, j_nil, j_cons, o_none, o_some, c_none, c_some, i_seq, i_rng1, i_rng2, i_zp, i_enm, i_keys, t_cmp, t_chain, t_and, t_or, t_not, t_var, t_ix, t_call, t_meth, t_isi, t_kin, t_fld, t_bf, s_nil, s_cons, s_pass, s_doc, s_brk, s_cnt, s_retN, s_expr, s_asg, s_asgL, s_asgT, s_par, s_asgI, s_asgF, s_augN, s_augF, s_ret, s_iff, s_whl, s_for, s_tryN, strR_str, Option.getD_some, Option.getD_none, Option.isSome_some, Option.isSome_none, mVar, gJc_ap, opN, opB, and_self, true_and, and_true, if_true, if_false, Bool.true_or, Bool.not_true, Bool.not_false, eq_self, h1, h2, h3, h4, opC, List.set]
    by_cases c2 : (0 : Int) < ((xs.map D.int).length : Nat)
    · rw [decide_eq_true c2]
      have hlt : 0 < xs.length := by simpa using c2
      have h5 := ixO_lst (i := 0) (x := .int xs[0]) e2' (by
        have := atI_nat (xs := xs.map D.int) (j := 0) (x := .int xs[0]) (by simp [hlt])
        exact this)
      have h6 : (small64 1009 || small64 xs[0]) = true := by rw [show small64 1009 = true from by decide]; rfl
      simp only [fin_nx, fin_rt, fin_ex, ofO_some, ofO_none, asB_bl, asI_int, truR_bl, outS_some, outE_some, outO_some, R.bind_ok, R.bind_ex, R.bind_bad, R.to_ok, R.to_ex, R.to_bad, Out.seq_nx, Out.seq_rt, Out.seq_bk, Out.seq_ct, Out.seq_ex, Out.seq_bad, cond_true, cond_false, gam_gl, gam_ncls, gam_init, gam_kd, List.getElem?_cons_zero, List.getElem?_cons_succ, List.set_cons_zero, List.set_cons_succ, List.cons_append, List.nil_append, k2_ap, gBin_ap, gCmp_ap, gCmpT_ap, gNeg_ap, gCh3_ap, gCh2_ap, gCh_ap, gCh3T_ap, gCh2T_ap, gChT_ap, gAnd2_ap, gAnd_ap, gOr2_ap, gOr_ap, gNot2_ap, gNot_ap, gIte_ap, gIx_ap, gSl2_ap, gSl1_ap, gSl_ap, gRev_ap, gFld_ap, gMk2_ap, gMk_ap, gMt2_ap, gMt_ap, gBf_ap, gBm2_ap, gBm_ap, gIsi_ap, gLc_ap, gStr_ap, gKget_ap, gKin_ap, gCo2_ap, gCo_ap, gOs2_ap, gOs_ap, gRn1_ap, gRn3_ap, gRn2_ap, gRn_ap, gZp_ap, gAndT_ap, gOrT_ap, gNotT_ap, gJ_ap, sNx_ap, sSet_ap, sSetT_ap, sPar2_ap, sPar1_ap, sI3_ap, sI2_ap, sI1_ap, sF2_ap, sF1_ap, sN2_ap, sN1_ap, sA3_ap, sA2_ap, sA1_ap, sR_ap, sIff_ap, sFr_ap, e_var, e_cst, e_glob, e_bin, e_neg, e_cmp, e_chain, e_and, e_or, e_not, e_ite, e_ix, e_sl, e_rev, e_tup, e_lst, e_dnewK, e_dnewT, e_fld, e_call, e_make, e_meth, e_bf, e_bm, e_isi, e_lc, e_fst, e_fmt, e_kget, e_kin, gDk_ap, gDr_ap, gDv_ap, keyR_str, keyR_int, e_disp, d_nil, d_cons, d1_cons, e_nil, e_cons, j_nil, j_cons, o_none, o_some, c_none, c_some, i_seq, i_rng1, i_rng2, i_zp, i_enm, i_keys, t_cmp, t_chain, t_and, t_or, t_not, t_var, t_ix, t_call, t_meth, t_isi, t_kin, t_fld, t_bf, s_nil, s_cons, s_pass, s_doc, s_brk, s_cnt, s_retN, s_expr, s_asg, s_asgL, s_asgT, s_par, s_asgI, s_asgF, s_augN, s_augF, s_ret, s_iff, s_whl, s_for, s_tryN, strR_str, Option.getD_some, Option.getD_none, Option.isSome_some, Option.isSome_none, mVar, gJc_ap, opN, opB, and_self, true_and, and_true, if_true, if_false, Bool.true_or, Bool.not_true, Bool.not_false, eq_self, h3, h5, h6, mixed_is hm, show (0 : Int) < 1000000 from by decide]
      exact fin_ _
    · rw [decide_eq_false c2]
      simp only [fin_nx, fin_rt, fin_ex, ofO_some, ofO_none, asB_bl, asI_int, truR_bl, outS_some, outE_some, outO_some, R.bind_ok, R.bind_ex, R.bind_bad, R.to_ok, R.to_ex, R.to_bad, Out.seq_nx, Out.seq_rt, Out.seq_bk, Out.seq_ct, Out.seq_ex, Out.seq_bad, cond_true, cond_false, gam_gl, gam_ncls, gam_init, gam_kd, List.getElem?_cons_zero, List.getElem?_cons_succ, List.set_cons_zero, List.set_cons_succ, List.cons_append, List.nil_append, k2_ap, gBin_ap, gCmp_ap, gCmpT_ap, gNeg_ap, gCh3_ap, gCh2_ap, gCh_ap, gCh3T_ap, gCh2T_ap, gChT_ap, gAnd2_ap, gAnd_ap, gOr2_ap, gOr_ap, gNot2_ap, gNot_ap, gIte_ap, gIx_ap, gSl2_ap, gSl1_ap, gSl_ap, gRev_ap, gFld_ap, gMk2_ap, gMk_ap, gMt2_ap, gMt_ap, gBf_ap, gBm2_ap, gBm_ap, gIsi_ap, gLc_ap, gStr_ap, gKget_ap, gKin_ap, gCo2_ap, gCo_ap, gOs2_ap, gOs_ap, gRn1_ap, gRn3_ap, gRn2_ap, gRn_ap, gZp_ap, gAndT_ap, gOrT_ap, gNotT_ap, gJ_ap, sNx_ap, sSet_ap, sSetT_ap, sPar2_ap, sPar1_ap, sI3_ap, sI2_ap, sI1_ap, sF2_ap, sF1_ap, sN2_ap, sN1_ap, sA3_ap, sA2_ap, sA1_ap, sR_ap, sIff_ap, sFr_ap, e_var, e_cst, e_glob, e_bin, e_neg, e_cmp, e_chain, e_and, e_or, e_not, e_ite, e_ix, e_sl, e_rev, e_tup, e_lst, e_dnewK, e_dnewT, e_fld, e_call, e_make, e_meth, e_bf, e_bm, e_isi, e_lc, e_fst, e_fmt, e_kget, e_kin, gDk_ap, gDr_ap, gDv_ap, keyR_str, keyR_int, e_disp, d_nil, d_cons, d1_cons, e_nil, e_cons, j_nil, j_cons, o_none, o_some, c_none, c_some, i_seq, i_rng1, i_rng2, i_zp, i_enm, i_keys, t_cmp, t_chain, t_and, t_or, t_not, t_var, t_ix, t_call, t_meth, t_isi, t_kin, t_fld, t_bf, s_nil, s_cons, s_pass, s_doc, s_brk, s_cnt, s_retN, s_expr, s_asg, s_asgL, s_asgT, s_par, s_asgI, s_asgF, s_augN, s_augF, s_ret, s_iff, s_whl, s_for, s_tryN, strR_str, Option.getD_some, Option.getD_none, Option.isSome_some, Option.isSome_none, mVar, gJc_ap, opN, opB, and_self, true_and, and_true, if_true, if_false, Bool.true_or, Bool.not_true, Bool.not_false, eq_self, mixed_is hm, show (0 : Int) < 1000000 from by decide]
      exact fin_ _
end Ab
set_option Elab.async false
set_option linter.all false
set_option maxRecDepth 100000
set_option maxHeartbeats 1000000
/-! Ab20: numbers, equal -/
namespace Ab
open PySem L2
theorem app_ty {s : Sto} {r : Nat} {xs : List D} (h : s.g r = .lst xs) : tyO .append (.ref r) s = true := by
  show (match s.g r with | .lst _ => true | _ => false) = true
  rw [h]
theorem app_is {s : Sto} {r : Nat} {xs : List D} {x : D} (h : s.g r = .lst xs) (hl : xs.length < sizeLine) : mO .append (.ref r) [x] s = some (.non, s.put r (.lst (xs ++ [x]))) := by
  simp only [mO, lstOf, h, Option.bind_some, if_pos hl]
theorem src_fro {s : Sto} {q : Nat} {xs : List D} (h : s.g q = .fro xs) : srcR (.ref q) s = .ok (.dyn q) s := by
  simp only [srcR, srcOf, rdOf, h, Option.map_some]
theorem src_lst {s : Sto} {q : Nat} {xs : List D} (h : s.g q = .lst xs) : srcR (.ref q) s = .ok (.dyn q) s := by
  simp only [srcR, srcOf, rdOf, h, Option.map_some]
def bNumbers (m : Nat) : Sts := .cons (.asg 1 (.lst (.nil))) (.cons (.for_ (.nm 2) (.seq (.var 0)) (.cons (.iff (.cmp .ge (.var 2) (.bin .pow (.cst (.int 10)) (.cst (.int 18)))) (.cons (.asg 3 (.var 2)) (.cons (.for_ (.nm 4) (.rng1 (.cst (.int 60))) (.cons (.iff (.cmp .gt (.var 3) (.cst (.int 0))) (.cons (.expr (.bm .append (.var 1) (.cons (.bin .mod (.var 3) (.cst (.int 1000000))) (.nil)))) (.cons (.asg 3 (.bin .fdiv (.var 3) (.cst (.int 1000000)))) (.nil))) (.nil)) (.nil))) (.nil))) (.cons (.expr (.bm .append (.var 1) (.cons (.bin .mod (.var 2) (.cst (.int 1000000))) (.nil)))) (.cons (.for_ (.nm 4) (.rng1 (.cst (.int 5))) (.cons (.expr (.bm .append (.var 1) (.cons (.bin .mod (.call m (.cons (.call m (.cons (.bin .mod (.var 2) (.cst (.int 2147483647))) (.cons (.var 4) (.nil)))) (.cons (.bin .add (.var 4) (.cst (.int 7))) (.nil)))) (.cst (.int 1000000))) (.nil)))) (.nil))) (.nil)))) (.nil))) (.cons (.ret (.var 1)) (.nil)))
/-- a list of ints at l, new behind s -/
structure Nums (s : Sto) (l : Nat) (b : Nat) (s' : Sto) : Prop where
  fr : Fr (fun q => q = l) s s'
  lt : l < s'.n
  at_ : ∃ xs : List Int, s'.g l = .lst (xs.map .int) ∧ xs.length ≤ b
theorem Nums.push {s s' : Sto} {l b : Nat} (h : Nums s l b s') (hb : b < sizeLine) (i : Int) : ∃ s2, tyO .append (.ref l) s' = true ∧ mO .append (.ref l) [.int i] s' = some (.non, s2) ∧ Nums s l (b + 1) s2 := by
  obtain ⟨xs, h1, h2⟩ := h.at_
  refine ⟨s'.put l (.lst (xs.map .int ++ [.int i])), app_ty h1, app_is h1 (by rw [List.length_map]; omega), h.fr.trans (Fr.put rfl), h.lt, xs ++ [i], by rw [put_g]; simp, by simp; omega⟩
theorem Nums.mono {s s' : Sto} {l b c : Nat} (h : Nums s l b s') (hb : b ≤ c) : Nums s l c s' := ⟨h.fr, h.lt, let ⟨xs, h1, h2⟩ := h.at_; ⟨xs, h1, Nat.le_trans h2 hb⟩⟩
theorem numbers_is {T : Tb} {f m : Nat} (h : Is T f 5 1 (bNumbers m)) (hm : Is T m 3 2 bMixed) {k fuel : Nat} {s : Sto} {q : Nat} {ns : List Int} (hq : q < s.n) (hg : s.g q = .fro (ns.map .int)) (hn : ns.length ≤ 63) :
    ∃ s', (T.gam fuel (k + 2)).fn f [.ref q] s = .ok (.ref s.n) s' ∧ Nums s s.n 3780 s' := by
  rw [h.call rfl]
  show ∃ s', (svs _ _ (bNumbers m) [some (.ref q), none, none, none, none] s).fin = _ ∧ _
  have e0 : lstR [] s = .ok (.ref s.n) (s.new (.lst [])) := rfl
  have q1 : (s.new (.lst [])).g q = .fro (ns.map .int) := by rw [new_old hq]; exact hg
  have e1 := src_fro q1
  unfold bNumbers
  simp only [fin_nx, fin_rt, fin_ex, ofO_some, ofO_none, asB_bl, asI_int, truR_bl, outS_some, outE_some, outO_some, R.bind_ok, R.bind_ex, R.bind_bad, R.to_ok, R.to_ex, R.to_bad, Out.seq_nx, Out.seq_rt, Out.seq_bk, Out.seq_ct, Out.seq_ex, Out.seq_bad, cond_true, cond_false, gam_gl, gam_ncls, gam_init, gam_kd, List.getElem?_cons_zero, List.getElem?_cons_succ, List.set_cons_zero, List.set_cons_succ, List.cons_append, List.nil_append, k2_ap, gBin_ap, gCmp_ap, gCmpT_ap, gNeg_ap, gCh3_ap, gCh2_ap, gCh_ap, gCh3T_ap, gCh2T_ap, gChT_ap, gAnd2_ap, gAnd_ap, gOr2_ap, gOr_ap, gNot2_ap, gNot_ap, gIte_ap, gIx_ap, gSl2_ap, gSl1_ap, gSl_ap, gRev_ap, gFld_ap, gMk2_ap, gMk_ap, gMt2_ap, gMt_ap, gBf_ap, gBm2_ap, gBm_ap, gIsi_ap, gLc_ap, gStr_ap, gKget_ap, gKin_ap, gCo2_ap, gCo_ap, gOs2_ap, gOs_ap, gRn1_ap, gRn3_ap, gRn2_ap, gRn_ap, gZp_ap, gAndT_ap, gOrT_ap, gNotT_ap, gJ_ap, sNx_ap, sSet_ap, sSetT_ap, sPar2_ap, sPar1_ap, sI3_ap, sI2_ap, sI1_ap, sF2_ap, sF1_ap, sN2_ap, sN1_ap, sA3_ap, sA2_ap, sA1_ap, sR_ap, sIff_ap, sFr_ap, e_var, e_cst, e_glob, e_bin, e_neg, e_cmp, e_chain, e_and, e_or, e_not, e_ite, e_ix, e_sl, e_rev, e_tup, e_lst, e_dnewK, e_dnewT, e_fld, e_call, e_make, e_meth, e_bf, e_bm, e_isi, e_lc, e_fst, e_fmt, e_kget, e_kin, gDk_ap, gDr_ap, gDv_ap, keyR_str, keyR_int, e_disp, d_nil, d_cons, d1_cons, e_nil, e_cons, j_nil, j_cons, o_none, o_some, c_none, c_some, i_seq, i_rng1, i_rng2, i_zp, i_enm, i_keys, t_cmp, t_chain, t_and, t_or, t_not, t_var, t_ix, t_call, t_meth, t_isi, t_kin, t_fld, t_bf, s_nil, s_cons, s_pass, s_doc, s_brk, s_cnt, s_retN, s_expr, s_asg, s_asgL, s_asgT, s_par, s_asgI, s_asgF, s_augN, s_augF, s_ret, s_iff, s_whl, s_for, s_tryN, strR_str, Option.getD_some, Option.getD_none, Option.isSome_some, Option.isSome_none, mVar, gJc_ap, opN, opB, and_self, true_and, and_true, if_true, if_false, Bool.true_or, Bool.not_true, Bool.not_false, eq_self, e0, e1, fin_rt]
  have n0 : Nums s s.n 0 (s.new (.lst [])) := ⟨Fr.new, Nat.lt_succ_self _, [], new_g, Nat.le_refl _⟩
  have hqn : q ≠ s.n := Nat.ne_of_lt hq
  generalize hX : fLoop _ _ _ _ _ _ _ = o
  refine for_c hX ns.length (fun j ρ s1 => ∃ c2 c3 c4, ρ = [some (.ref q), some (.ref s.n), c2, c3, c4] ∧ Nums s s.n (60 * j) s1) ⟨none, none, none, rfl, n0⟩ (Nat.zero_le _) ?_ ?_ ?_ ?_
  · show ns.length - 0 < ((rdOf (s.new (.lst [])) q).getD []).length + 1
    simp [rdOf, q1]
  · rintro j ρ s1 hj ⟨c2, c3, c4, rfl, hp⟩
    have g1 : s1.g q = .fro (ns.map .int) := by rw [hp.fr.eq q hq hqn]; exact hg
    refine ⟨.int ns[j], _, by simp [sItem, rdOf, g1, hj], rfl, ?_⟩
    have ex := fun (s2 : Sto) (b : Nat) (hb : b < 3780) (hx : Nums s s.n b s2) (i : Int) => hx.push (Nat.lt_trans hb (by decide)) i
    show ∃ ρ2 s2, (svs _ _ _ [some (.ref q), some (.ref s.n), some (.int ns[j]), c3, c4] s1 = .nx ρ2 s2 ∨ svs _ _ _ [some (.ref q), some (.ref s.n), some (.int ns[j]), c3, c4] s1 = .ct ρ2 s2) ∧ _
    simp only [fin_nx, fin_rt, fin_ex, ofO_some, ofO_none, asB_bl, asI_int, truR_bl, outS_some, outE_some, outO_some, R.bind_ok, R.bind_ex, R.bind_bad, R.to_ok, R.to_ex, R.to_bad, Out.seq_nx, Out.seq_rt, Out.seq_bk, Out.seq_ct, Out.seq_ex, Out.seq_bad, cond_true, cond_false, gam_gl, gam_ncls, gam_init, gam_kd, List.getElem?_cons_zero, List.getElem?_cons_succ, List.set_cons_zero, List.set_cons_succ, List.cons_append, List.nil_append, k2_ap, gBin_ap, gCmp_ap, gCmpT_ap, gNeg_ap, gCh3_ap, gCh2_ap, gCh_ap, gCh3T_ap, gCh2T_ap, gChT_ap, gAnd2_ap, gAnd_ap, gOr2_ap, gOr_ap, gNot2_ap, gNot_ap, gIte_ap, gIx_ap, gSl2_ap, gSl1_ap, gSl_ap, gRev_ap, gFld_ap, gMk2_ap, gMk_ap, gMt2_ap, gMt_ap, gBf_ap, gBm2_ap, gBm_ap, gIsi_ap, gLc_ap, gStr_ap, gKget_ap, gKin_ap, gCo2_ap, gCo_ap, gOs2_ap, gOs_ap, gRn1_ap, gRn3_ap, gRn2_ap, gRn_ap, gZp_ap, gAndT_ap, gOrT_ap, gNotT_ap, gJ_ap, sNx_ap, sSet_ap, sSetT_ap, sPar2_ap, sPar1_ap, sI3_ap, sI2_ap, sI1_ap, sF2_ap, sF1_ap, sN2_ap, sN1_ap, sA3_ap, sA2_ap, sA1_ap, sR_ap, sIff_ap, sFr_ap, e_var, e_cst, e_glob, e_bin, e_neg, e_cmp, e_chain, e_and, e_or, e_not, e_ite, e_ix, e_sl, e_rev, e_tup, e_lst, e_dnewK, e_dnewT, e_fld, e_call, e_make, e_meth, e_bf, e_bm, e_isi, e_lc, e_fst, e_fmt, e_kget, e_kin, gDk_ap, gDr_ap, gDv_ap, keyR_str, keyR_int, e_disp, d_nil, d_cons, d1_cons, e_nil, e_cons, j_nil, j_cons, o_none, o_some, c_none, c_some, i_seq, i_rng1, i_rng2, i_zp, i_enm, i_keys, t_cmp, t_chain, t_and, t_or, t_not, t_var, t_ix, t_call, t_meth, t_isi, t_kin, t_fld, t_bf, s_nil, s_cons, s_pass, s_doc, s_brk, s_cnt, s_retN, s_expr, s_asg, s_asgL, s_asgT, s_par, s_asgI, s_asgF, s_augN, s_augF, s_ret, s_iff, s_whl, s_for, s_tryN, strR_str, Option.getD_some, Option.getD_none, Option.isSome_some, Option.isSome_none, mVar, gJc_ap, opN, opB, and_self, true_and, and_true, if_true, if_false, Bool.true_or, Bool.not_true, Bool.not_false, eq_self, opC, show (0 : Int) ≤ 18 from by decide, show (18 : Int) ≤ 1000000 from by decide, show (10 : Int).natAbs < 2 ^ 64 from by decide]
    by_cases c : (10 : Int) ^ (18 : Int).toNat ≤ ns[j]
    · rw [decide_eq_true c]
      simp only [fin_nx, fin_rt, fin_ex, ofO_some, ofO_none, asB_bl, asI_int, truR_bl, outS_some, outE_some, outO_some, R.bind_ok, R.bind_ex, R.bind_bad, R.to_ok, R.to_ex, R.to_bad, Out.seq_nx, Out.seq_rt, Out.seq_bk, Out.seq_ct, Out.seq_ex, Out.seq_bad, cond_true, cond_false, gam_gl, gam_ncls, gam_init, gam_kd, List.getElem?_cons_zero, List.getElem?_cons_succ, List.set_cons_zero, List.set_cons_succ, List.cons_append, List.nil_append, k2_ap, gBin_ap, gCmp_ap, gCmpT_ap, gNeg_ap, gCh3_ap, gCh2_ap, gCh_ap, gCh3T_ap, gCh2T_ap, gChT_ap, gAnd2_ap, gAnd_ap, gOr2_ap, gOr_ap, gNot2_ap, gNot_ap, gIte_ap, gIx_ap, gSl2_ap, gSl1_ap, gSl_ap, gRev_ap, gFld_ap, gMk2_ap, gMk_ap, gMt2_ap, gMt_ap, gBf_ap, gBm2_ap, gBm_ap, gIsi_ap, gLc_ap, gStr_ap, gKget_ap, gKin_ap, gCo2_ap, gCo_ap, gOs2_ap, gOs_ap, gRn1_ap, gRn3_ap, gRn2_ap, gRn_ap, gZp_ap, gAndT_ap, gOrT_ap, gNotT_ap, gJ_ap, sNx_ap, sSet_ap, sSetT_ap, sPar2_ap, sPar1_ap, sI3_ap, sI2_ap, sI1_ap, sF2_ap, sF1_ap, sN2_ap, sN1_ap, sA3_ap, sA2_ap, sA1_ap, sR_ap, sIff_ap, sFr_ap, e_var, e_cst, e_glob, e_bin, e_neg, e_cmp, e_chain, e_and, e_or, e_not, e_ite, e_ix, e_sl, e_rev, e_tup, e_lst, e_dnewK, e_dnewT, e_fld, e_call, e_make, e_meth, e_bf, e_bm, e_isi, e_lc, e_fst, e_fmt, e_kget, e_kin, gDk_ap, gDr_ap, gDv_ap, keyR_str, keyR_int, e_disp, d_nil, d_cons, d1_cons, e_nil, e_cons, j_nil, j_cons, o_none, o_some, c_none, c_some, i_seq, i_rng1, i_rng2, i_zp, i_enm, i_keys, t_cmp, t_chain, t_and, t_or, t_not, t_var, t_ix, t_call, t_meth, t_isi, t_kin, t_fld, t_bf, s_nil, s_cons, s_pass, s_doc, s_brk, s_cnt, s_retN, s_expr, s_asg, s_asgL, s_asgT, s_par, s_asgI, s_asgF, s_augN, s_augF, s_ret, s_iff, s_whl, s_for, s_tryN, strR_str, Option.getD_some, Option.getD_none, Option.isSome_some, Option.isSome_none, mVar, gJc_ap, opN, opB, and_self, true_and, and_true, if_true, if_false, Bool.true_or, Bool.not_true, Bool.not_false, eq_self, show rng1R 60 s1 = .ok (.rng 0 60) s1 from rfl]
      generalize hX : fLoop _ _ _ _ _ _ _ = o
      refine for_c hX 60 (fun i ρ s2 => ∃ (c3 : Int) (c4 : Option D), ρ = [some (.ref q), some (.ref s.n), some (.int ns[j]), some (.int c3), c4] ∧ Nums s s.n (60 * j + i) s2) ⟨_, _, rfl, hp⟩ (Nat.zero_le _) ?_ ?_ ?_ ?_
      · show 60 - 0 < 61
        decide
      · rintro i ρ s2 hi ⟨k3, k4, rfl, hp2⟩
        refine ⟨.int (0 + i), _, by simp [sItem, hi], rfl, ?_⟩
        show ∃ ρ2 s3, (svs _ _ _ [some (.ref q), some (.ref s.n), some (.int ns[j]), some (.int k3), some (.int (0 + i))] s2 = .nx ρ2 s3 ∨ svs _ _ _ [some (.ref q), some (.ref s.n), some (.int ns[j]), some (.int k3), some (.int (0 + i))] s2 = .ct ρ2 s3) ∧ _
        simp only [fin_nx, fin_rt, fin_ex, ofO_some, ofO_none, asB_bl, asI_int, truR_bl, outS_some, outE_some, outO_some, R.bind_ok, R.bind_ex, R.bind_bad, R.to_ok, R.to_ex, R.to_bad, Out.seq_nx, Out.seq_rt, Out.seq_bk, Out.seq_ct, Out.seq_ex, Out.seq_bad, cond_true, cond_false, gam_gl, gam_ncls, gam_init, gam_kd, List.getElem?_cons_zero, List.getElem?_cons_succ, List.set_cons_zero, List.set_cons_succ, List.cons_append, List.nil_append, k2_ap, gBin_ap, gCmp_ap, gCmpT_ap, gNeg_ap, gCh3_ap, gCh2_ap, gCh_ap, gCh3T_ap, gCh2T_ap, gChT_ap, gAnd2_ap, gAnd_ap, gOr2_ap, gOr_ap, gNot2_ap, gNot_ap, gIte_ap, gIx_ap, gSl2_ap, gSl1_ap, gSl_ap, gRev_ap, gFld_ap, gMk2_ap, gMk_ap, gMt2_ap, gMt_ap, gBf_ap, gBm2_ap, gBm_ap, gIsi_ap, gLc_ap, gStr_ap, gKget_ap, gKin_ap, gCo2_ap, gCo_ap, gOs2_ap, gOs_ap, gRn1_ap, gRn3_ap, gRn2_ap, gRn_ap, gZp_ap, gAndT_ap, gOrT_ap, gNotT_ap, gJ_ap, sNx_ap, sSet_ap, sSetT_ap, sPar2_ap, sPar1_ap, sI3_ap, sI2_ap, sI1_ap, sF2_ap, sF1_ap, sN2_ap, sN1_ap, sA3_ap, sA2_ap, sA1_ap, sR_ap, sIff_ap, sFr_ap, e_var, e_cst, e_glob, e_bin, e_neg, e_cmp, e_chain, e_and, e_or, e_not, e_ite, e_ix, e_sl, e_rev, e_tup, e_lst, e_dnewK, e_dnewT, e_fld, e_call, e_make, e_meth, e_bf, e_bm, e_isi, e_lc, e_fst, e_fmt, e_kget, e_kin, gDk_ap, gDr_ap, gDv_ap, keyR_str, keyR_int, e_disp, d_nil, d_cons, d1_cons, e_nil, e_cons, j_nil, j_cons, o_none, o_some, c_none, c_some, i_seq, i_rng1, i_rng2, i_zp, i_enm, i_keys, t_cmp, t_chain, t_and, t_or, t_not, t_var, t_ix, t_call, t_meth, t_isi, t_kin, t_fld, t_bf, s_nil, s_cons, s_pass, s_doc, s_brk, s_cnt, s_retN, s_expr, s_asg, s_asgL, s_asgT, s_par, s_asgI, s_asgF, s_augN, s_augF, s_ret, s_iff, s_whl, s_for, s_tryN, strR_str, Option.getD_some, Option.getD_none, Option.isSome_some, Option.isSome_none, mVar, gJc_ap, opN, opB, and_self, true_and, and_true, if_true, if_false, Bool.true_or, Bool.not_true, Bool.not_false, eq_self, opC]
        by_cases c2 : 0 < k3
        · obtain ⟨s3, a1, a2, a3⟩ := ex s2 (60 * j + i) (by omega) hp2 (k3 % 1000000)
          rw [decide_eq_true c2]
          simp only [fin_nx, fin_rt, fin_ex, ofO_some, ofO_none, asB_bl, asI_int, truR_bl, outS_some, outE_some, outO_some, R.bind_ok, R.bind_ex, R.bind_bad, R.to_ok, R.to_ex, R.to_bad, Out.seq_nx, Out.seq_rt, Out.seq_bk, Out.seq_ct, Out.seq_ex, Out.seq_bad, cond_true, cond_false, gam_gl, gam_ncls, gam_init, gam_kd, List.getElem?_cons_zero, List.getElem?_cons_succ, List.set_cons_zero, List.set_cons_succ, List.cons_append, List.nil_append, k2_ap, gBin_ap, gCmp_ap, gCmpT_ap, gNeg_ap, gCh3_ap, gCh2_ap, gCh_ap, gCh3T_ap, gCh2T_ap, gChT_ap, gAnd2_ap, gAnd_ap, gOr2_ap, gOr_ap, gNot2_ap, gNot_ap, gIte_ap, gIx_ap, gSl2_ap, gSl1_ap, gSl_ap, gRev_ap, gFld_ap, gMk2_ap, gMk_ap, gMt2_ap, gMt_ap, gBf_ap, gBm2_ap, gBm_ap, gIsi_ap, gLc_ap, gStr_ap, gKget_ap, gKin_ap, gCo2_ap, gCo_ap, gOs2_ap, gOs_ap, gRn1_ap, gRn3_ap, gRn2_ap, gRn_ap, gZp_ap, gAndT_ap, gOrT_ap, gNotT_ap, gJ_ap, sNx_ap, sSet_ap, sSetT_ap, sPar2_ap, sPar1_ap, sI3_ap, sI2_ap, sI1_ap, sF2_ap, sF1_ap, sN2_ap, sN1_ap, sA3_ap, sA2_ap, sA1_ap, sR_ap, sIff_ap, sFr_ap, e_var, e_cst, e_glob, e_bin, e_neg, e_cmp, e_chain, e_and, e_or, e_not, e_ite, e_ix, e_sl, e_rev, e_tup, e_lst, e_dnewK, e_dnewT, e_fld, e_call, e_make, e_meth, e_bf, e_bm, e_isi, e_lc, e_fst, e_fmt, e_kget, e_kin, gDk_ap, gDr_ap, gDv_ap, keyR_str, keyR_int, e_disp, d_nil, d_cons, d1_cons, e_nil, e_cons, j_nil, j_cons, o_none, o_some, c_none, c_some, i_seq, i_rng1, i_rng2, i_zp, i_enm, i_keys, t_cmp, t_chain, t_and, t_or, t_not, t_var, t_ix, t_call, t_meth, t_isi, t_kin, t_fld, t_bf, s_nil, s_cons, s_pass, s_doc, s_brk, s_cnt, s_retN, s_expr, s_asg, s_asgL, s_asgT, s_par, s_asgI, s_asgF, s_augN, s_augF, s_ret, s_iff, s_whl, s_for, s_tryN, strR_str, Option.getD_some, Option.getD_none, Option.isSome_some, Option.isSome_none, mVar, gJc_ap, opN, opB, and_self, true_and, and_true, if_true, if_false, Bool.true_or, Bool.not_true, Bool.not_false, eq_self, show (0 : Int) < 1000000 from by decide, a1, a2, show (1000000 : Int) < 1073741824 from by decide]
          exact ⟨_, s3, .inl rfl, _, _, rfl, a3⟩
        · rw [decide_eq_false c2]
          simp only [fin_nx, fin_rt, fin_ex, ofO_some, ofO_none, asB_bl, asI_int, truR_bl, outS_some, outE_some, outO_some, R.bind_ok, R.bind_ex, R.bind_bad, R.to_ok, R.to_ex, R.to_bad, Out.seq_nx, Out.seq_rt, Out.seq_bk, Out.seq_ct, Out.seq_ex, Out.seq_bad, cond_true, cond_false, gam_gl, gam_ncls, gam_init, gam_kd, List.getElem?_cons_zero, List.getElem?_cons_succ, List.set_cons_zero, List.set_cons_succ, List.cons_append, List.nil_append, k2_ap, gBin_ap, gCmp_ap, gCmpT_ap, gNeg_ap, gCh3_ap, gCh2_ap, gCh_ap, gCh3T_ap, gCh2T_ap, gChT_ap, gAnd2_ap, gAnd_ap, gOr2_ap, gOr_ap, gNot2_ap, gNot_ap, gIte_ap, gIx_ap, gSl2_ap, gSl1_ap, gSl_ap, gRev_ap, gFld_ap, gMk2_ap, gMk_ap, gMt2_ap, gMt_ap, gBf_ap, gBm2_ap, gBm_ap, gIsi_ap, gLc_ap, gStr_ap, gKget_ap, gKin_ap, gCo2_ap, gCo_ap, gOs2_ap, gOs_ap, gRn1_ap, gRn3_ap, gRn2_ap, gRn_ap, gZp_ap, gAndT_ap, gOrT_ap, gNotT_ap, gJ_ap, sNx_ap, sSet_ap, sSetT_ap, sPar2_ap, sPar1_ap, sI3_ap, sI2_ap, sI1_ap, sF2_ap, sF1_ap, sN2_ap, sN1_ap, sA3_ap, sA2_ap, sA1_ap, sR_ap, sIff_ap, sFr_ap, e_var, e_cst, e_glob, e_bin, e_neg, e_cmp, e_chain, e_and, e_or, e_not, e_ite, e_ix, e_sl, e_rev, e_tup, e_lst, e_dnewK, e_dnewT, e_fld, e_call, e_make, e_meth, e_bf, e_bm, e_isi, e_lc, e_fst, e_fmt, e_kget, e_kin, gDk_ap, gDr_ap, gDv_ap, keyR_str, keyR_int, e_disp, d_nil, d_cons, d1_cons, e_nil, e_cons, j_nil, j_cons, o_none, o_some, c_none, c_some, i_seq, i_rng1, i_rng2, i_zp, i_enm, i_keys, t_cmp, t_chain, t_and, t_or, t_not, t_var, t_ix, t_call, t_meth, t_isi, t_kin, t_fld, t_bf, s_nil, s_cons, s_pass, s_doc, s_brk, s_cnt, s_retN, s_expr, s_asg, s_asgL, s_asgT, s_par, s_asgI, s_asgF, s_augN, s_augF, s_ret, s_iff, s_whl, s_for, s_tryN, strR_str, Option.getD_some, Option.getD_none, Option.isSome_some, Option.isSome_none, mVar, gJc_ap, opN, opB, and_self, true_and, and_true, if_true, if_false, Bool.true_or, Bool.not_true, Bool.not_false, eq_self]
          exact ⟨_, s2, .inl rfl, _, _, rfl, hp2.mono (by omega)⟩
      · intro _ _ _
        rfl
      · rintro ρ' s' ⟨k3, k4, rfl, h3⟩ rfl
        exact ⟨_, s', .inl rfl, _, _, _, rfl, h3⟩
    · rw [decide_eq_false c]
      obtain ⟨s2, a1, a2, a3⟩ := ex s1 (60 * j) (by omega) hp (ns[j] % 1000000)
      simp only [fin_nx, fin_rt, fin_ex, ofO_some, ofO_none, asB_bl, asI_int, truR_bl, outS_some, outE_some, outO_some, R.bind_ok, R.bind_ex, R.bind_bad, R.to_ok, R.to_ex, R.to_bad, Out.seq_nx, Out.seq_rt, Out.seq_bk, Out.seq_ct, Out.seq_ex, Out.seq_bad, cond_true, cond_false, gam_gl, gam_ncls, gam_init, gam_kd, List.getElem?_cons_zero, List.getElem?_cons_succ, List.set_cons_zero, List.set_cons_succ, List.cons_append, List.nil_append, k2_ap, gBin_ap, gCmp_ap, gCmpT_ap, gNeg_ap, gCh3_ap, gCh2_ap, gCh_ap, gCh3T_ap, gCh2T_ap, gChT_ap, gAnd2_ap, gAnd_ap, gOr2_ap, gOr_ap, gNot2_ap, gNot_ap, gIte_ap, gIx_ap, gSl2_ap, gSl1_ap, gSl_ap, gRev_ap, gFld_ap, gMk2_ap, gMk_ap, gMt2_ap, gMt_ap, gBf_ap, gBm2_ap, gBm_ap, gIsi_ap, gLc_ap, gStr_ap, gKget_ap, gKin_ap, gCo2_ap, gCo_ap, gOs2_ap, gOs_ap, gRn1_ap, gRn3_ap, gRn2_ap, gRn_ap, gZp_ap, gAndT_ap, gOrT_ap, gNotT_ap, gJ_ap, sNx_ap, sSet_ap, sSetT_ap, sPar2_ap, sPar1_ap, sI3_ap, sI2_ap, sI1_ap, sF2_ap, sF1_ap, sN2_ap, sN1_ap, sA3_ap, sA2_ap, sA1_ap, sR_ap, sIff_ap, sFr_ap, e_var, e_cst, e_glob, e_bin, e_neg, e_cmp, e_chain, e_and, e_or, e_not, e_ite, e_ix, e_sl, e_rev, e_tup, e_lst, e_dnewK, e_dnewT, e_fld, e_call, e_make, e_meth, e_bf, e_bm, e_isi, e_lc, e_fst, e_fmt, e_kget, e_kin, gDk_ap, gDr_ap, gDv_ap, keyR_str, keyR_int, e_disp, d_nil, d_cons, d1_cons, e_nil, e_cons, j_nil, j_cons, o_none, o_some, c_none, c_some, i_seq, i_rng1, i_rng2, i_zp, i_enm, i_keys, t_cmp, t_chain, t_and, t_or, t_not, t_var, t_ix, t_call, t_meth, t_isi, t_kin, t_fld, t_bf, s_nil, s_cons, s_pass, s_doc, s_brk, s_cnt, s_retN, s_expr, s_asg, s_asgL, s_asgT, s_par, s_asgI, s_asgF, s_augN, s_augF, s_ret, s_iff, s_whl, s_for, s_tryN, strR_str, Option.getD_some, Option.getD_none, Option.isSome_some, Option.isSome_none, mVar, gJc_ap, opN, opB, and_self, true_and, and_true, if_true, if_false, Bool.true_or, Bool.not_true, Bool.not_false, eq_self, show (0 : Int) < 1000000 from by decide, a1, a2, show rng1R 5 s2 = .ok (.rng 0 5) s2 from rfl]
      generalize hX : fLoop _ _ _ _ _ _ _ = o
      refine for_c hX 5 (fun i ρ s2 => ∃ (c4 : Option D), ρ = [some (.ref q), some (.ref s.n), some (.int ns[j]), c3, c4] ∧ Nums s s.n (60 * j + 1 + i) s2) ⟨_, rfl, a3⟩ (Nat.zero_le _) ?_ ?_ ?_ ?_
      · show 5 - 0 < 6
        decide
      · rintro i ρ s2 hi ⟨k4, rfl, hp2⟩
        refine ⟨.int (0 + i), _, by simp [sItem, hi], rfl, ?_⟩
        show ∃ ρ2 s3, (svs _ _ _ [some (.ref q), some (.ref s.n), some (.int ns[j]), c3, some (.int (0 + i))] s2 = .nx ρ2 s3 ∨ svs _ _ _ [some (.ref q), some (.ref s.n), some (.int ns[j]), c3, some (.int (0 + i))] s2 = .ct ρ2 s3) ∧ _
        obtain ⟨s3, b1, b2, b3⟩ := ex s2 (60 * j + 1 + i) (by omega) hp2 (mixed (mixed (ns[j] % 2147483647) (0 + i)) (0 + i + 7) % 1000000)
        simp only [fin_nx, fin_rt, fin_ex, ofO_some, ofO_none, asB_bl, asI_int, truR_bl, outS_some, outE_some, outO_some, R.bind_ok, R.bind_ex, R.bind_bad, R.to_ok, R.to_ex, R.to_bad, Out.seq_nx, Out.seq_rt, Out.seq_bk, Out.seq_ct, Out.seq_ex, Out.seq_bad, cond_true, cond_false, gam_gl, gam_ncls, gam_init, gam_kd, List.getElem?_cons_zero, List.getElem?_cons_succ, List.set_cons_zero, List.set_cons_succ, List.cons_append, List.nil_append, k2_ap, gBin_ap, gCmp_ap, gCmpT_ap, gNeg_ap, gCh3_ap, gCh2_ap, gCh_ap, gCh3T_ap, gCh2T_ap, gChT_ap, gAnd2_ap, gAnd_ap, gOr2_ap, gOr_ap, gNot2_ap, gNot_ap, gIte_ap, gIx_ap, gSl2_ap, gSl1_ap, gSl_ap, gRev_ap, gFld_ap, gMk2_ap, gMk_ap, gMt2_ap, gMt_ap, gBf_ap, gBm2_ap, gBm_ap, gIsi_ap, gLc_ap, gStr_ap, gKget_ap, gKin_ap, gCo2_ap, gCo_ap, gOs2_ap, gOs_ap, gRn1_ap, gRn3_ap, gRn2_ap, gRn_ap, gZp_ap, gAndT_ap, gOrT_ap, gNotT_ap, gJ_ap, sNx_ap, sSet_ap, sSetT_ap, sPar2_ap, sPar1_ap, sI3_ap, sI2_ap, sI1_ap, sF2_ap, sF1_ap, sN2_ap, sN1_ap, sA3_ap, sA2_ap, sA1_ap, sR_ap, sIff_ap, sFr_ap, e_var, e_cst, e_glob, e_bin, e_neg, e_cmp, e_chain, e_and, e_or, e_not, e_ite, e_ix, e_sl, e_rev, e_tup, e_lst, e_dnewK, e_dnewT, e_fld, e_call, e_make, e_meth, e_bf, e_bm, e_isi, e_lc, e_fst, e_fmt, e_kget, e_kin, gDk_ap, gDr_ap, gDv_ap, keyR_str, keyR_int, e_disp, d_nil, d_cons, d1_cons, e_nil, e_cons, j_nil, j_cons, o_none, o_some, c_none, c_some, i_seq, i_rng1, i_rng2, i_zp, i_enm, i_keys, t_cmp, t_chain, t_and, t_or, t_not, t_var, t_ix, t_call, t_meth, t_isi, t_kin, t_fld, t_bf, s_nil, s_cons, s_pass, s_doc, s_brk, s_cnt, s_retN, s_expr, s_asg, s_asgL, s_asgT, s_par, s_asgI, s_asgF, s_augN, s_augF, s_ret, s_iff, s_whl, s_for, s_tryN, strR_str, Option.getD_some, Option.getD_none, Option.isSome_some, Option.isSome_none, mVar, gJc_ap, opN, opB, and_self, true_and, and_true, if_true, if_false, Bool.true_or, Bool.not_true, Bool.not_false, eq_self, show (0 : Int) < 1000000 from by decide, show (0 : Int) < 2147483647 from by decide, mixed_is hm, b1, b2]
        exact ⟨_, s3, .inl rfl, _, rfl, b3⟩
      · intro _ _ _
        rfl
      · rintro ρ' s' ⟨k4, rfl, h3⟩ rfl
        exact ⟨_, s', .inl rfl, _, _, _, rfl, h3.mono (by omega)⟩
  · rintro ρ s1 ⟨c2, c3, c4, rfl, hp⟩
    have : s1.g q = .fro (ns.map .int) := by rw [hp.fr.eq q hq hqn]; exact hg
    simp [sItem, rdOf, this]
  · rintro ρ s1 ⟨c2, c3, c4, rfl, hp⟩ rfl
    exact ⟨s1, rfl, hp.mono (by omega)⟩
end Ab
set_option Elab.async false
set_option linter.all false
set_option maxRecDepth 100000
set_option maxHeartbeats 1000000
/-! Ab21: equal -/
namespace Ab
open PySem L2
theorem isi_of {d : D} {s : Sto} {t T : String} {b : Bool} (h1 : tyName d s = some t) (h2 : isiB t T = some b) : isiO d T s = some (.bl b, s) := by
  unfold isiO
  rw [h1]
  simp only [Option.bind_some]
  rw [h2]; rfl
mutual
/-- the same data (depth n) -/
inductive SameD (s : Sto) : Nat → D → D → Prop
  | non (n : Nat) : SameD s n .non .non
  | bl (n : Nat) (b : Bool) : SameD s n (.bl b) (.bl b)
  | int (n : Nat) (i : Int) : SameD s n (.int i) (.int i)
  | str (n : Nat) (x : Str) : SameD s n (.str x) (.str x)
  | tup {n : Nat} {d e : D} {xs ys : List D} : tupOf d = some xs → tupOf e = some ys → SameL s n xs ys → SameD s (n + 1) d e
  | lst {n : Nat} {r q : Nat} {xs ys : List D} : s.g r = .lst xs → s.g q = .lst ys → SameL s n xs ys → SameD s (n + 1) (.ref r) (.ref q)
inductive SameL (s : Sto) : Nat → List D → List D → Prop
  | nil (n : Nat) : SameL s n [] []
  | cons {n : Nat} {x y : D} {xs ys : List D} : SameD s n x y → SameL s n xs ys → SameL s n (x :: xs) (y :: ys)
end
theorem SameL.len {s : Sto} {n : Nat} : ∀ {xs ys : List D}, SameL s n xs ys → xs.length = ys.length
  | _, _, .nil _ => rfl
  | _, _, .cons _ t => by rw [List.length_cons, List.length_cons, SameL.len t]
theorem SameL.get {s : Sto} {n : Nat} : ∀ {xs ys : List D}, SameL s n xs ys → ∀ i (h : i < xs.length) (h' : i < ys.length), SameD s n xs[i] ys[i]
  | _, _, .cons a t, 0, _, _ => a
  | _, _, .cons a t, i + 1, h, h' => SameL.get t i (by simpa using h) (by simpa using h')
def bEqual (f : Nat) : Sts := .cons (.iff (.isi (.var 1) "list") (.cons (.iff (.or (.not (.isi (.var 0) "list")) (.cmp .ne (.bf .len (.cons (.var 0) (.nil))) (.bf .len (.cons (.var 1) (.nil))))) (.cons (.ret (.cst (.bl false))) (.nil)) (.nil)) (.cons (.ret (.call f (.cons (.var 0) (.cons (.var 1) (.nil))))) (.nil))) (.nil)) (.cons (.iff (.isi (.var 1) "tuple") (.cons (.iff (.or (.not (.isi (.var 0) "tuple")) (.cmp .ne (.bf .len (.cons (.var 0) (.nil))) (.bf .len (.cons (.var 1) (.nil))))) (.cons (.ret (.cst (.bl false))) (.nil)) (.nil)) (.cons (.ret (.call f (.cons (.var 0) (.cons (.var 1) (.nil))))) (.nil))) (.nil)) (.cons (.iff (.isi (.var 1) "bool") (.cons (.ret (.and (.isi (.var 0) "bool") (.cmp .eq (.var 0) (.var 1)))) (.nil)) (.nil)) (.cons (.iff (.isi (.var 1) "int") (.cons (.ret (.and (.isi (.var 0) "int") (.and (.not (.isi (.var 0) "bool")) (.cmp .eq (.var 0) (.var 1))))) (.nil)) (.nil)) (.cons (.iff (.isi (.var 1) "str") (.cons (.ret (.and (.isi (.var 0) "str") (.cmp .eq (.var 0) (.var 1)))) (.nil)) (.nil)) (.cons (.ret (.cmp .is (.var 0) (.cst (.non)))) (.nil))))))
def bAllEq (f : Nat) : Sts := .cons (.for_ (.nm 2) (.rng1 (.bf .len (.cons (.var 1) (.nil)))) (.cons (.iff (.not (.call f (.cons (.ix (.var 0) (.var 2)) (.cons (.ix (.var 1) (.var 2)) (.nil))))) (.cons (.ret (.cst (.bl false))) (.nil)) (.nil)) (.nil))) (.cons (.ret (.cst (.bl true))) (.nil))
theorem ixO_tup {s : Sto} {d x : D} {xs : List D} {i : Int} (h : tupOf d = some xs) (hx : atI xs i = some x) : ixO d (.int i) s = some (x, s) := by
  unfold ixO
  rw [h]
  simp only [hx, Option.map_some]
theorem len_tup {s : Sto} {d : D} {xs : List D} (h : tupOf d = some xs) : fO .len [d] s = some (.int xs.length, s) := by
  cases d <;> cases h <;> rfl
theorem ty_tup {s : Sto} {d : D} {xs : List D} (h : tupOf d = some xs) : tyName d s = some "tuple" := by
  cases d <;> cases h <;> rfl
theorem ty_lst {s : Sto} {r : Nat} {xs : List D} (h : s.g r = .lst xs) : tyName (.ref r) s = some "list" := by
  simp only [tyName, h]
theorem ne_int {i j : Int} {s : Sto} : opC .ne (.int i) (.int j) s = some (.bl (!(i == j)), s) := by
  rfl
theorem sm62_nat {n : Nat} (h : n < 1000000) : small62 (n : Int) = true := by
  refine decide_eq_true ?_
  rw [Int.natAbs_natCast]
  by_cases z : n = 0
  · rw [z]; decide
  · exact (Nat.log2_lt z).mpr (Nat.lt_trans h (by decide))
theorem rng1R_of {i : Int} {s : Sto} (h : small62 i = true) : rng1R i s = .ok (.rng 0 i.toNat) s := if_pos h
theorem rng_nat {n : Nat} {s : Sto} (h : n < 1000000) : rng1R (n : Int) s = .ok (.rng 0 n) s := by
  rw [rng1R_of (sm62_nat h), Int.toNat_natCast]
/-- what can be walked by places -/
theorem all_is {T : Tb} {fe fa : Nat} (ha : Is T fa 3 2 (bAllEq fe)) {k fuel : Nat} {s : Sto} {d e : D} {xs ys : List D} (hl : xs.length = ys.length) (h61 : ys.length < 1000000) (h1 : fO .len [e] s = some (.int ys.length, s))
    (hd : ∀ (i : Nat) (x : D), xs[i]? = some x → ixO d (.int (i : Int)) s = some (x, s)) (he : ∀ (i : Nat) (x : D), ys[i]? = some x → ixO e (.int (i : Int)) s = some (x, s))
    (ih : ∀ i (h : i < xs.length) (h' : i < ys.length), (T.gam fuel k).fn fe [xs[i], ys[i]] s = .ok (.bl true) s) : (T.gam fuel (k + 1)).fn fa [d, e] s = .ok (.bl true) s := by
  rw [ha.call rfl]
  show (svs _ _ (bAllEq fe) [some d, some e, none] s).fin = _
  have e1 := rng_nat (s := s) h61
  unfold bAllEq
  simp only [fin_nx, fin_rt, fin_ex, ofO_some, ofO_none, asB_bl, asI_int, truR_bl, outS_some, outE_some, outO_some, R.bind_ok, R.bind_ex, R.bind_bad, R.to_ok, R.to_ex, R.to_bad, Out.seq_nx, Out.seq_rt, Out.seq_bk, Out.seq_ct, Out.seq_ex, Out.seq_bad, cond_true, cond_false, gam_gl, gam_ncls, gam_init, gam_kd, List.getElem?_cons_zero, List.getElem?_cons_succ, List.set_cons_zero, List.set_cons_succ, List.cons_append, List.nil_append, k2_ap, gBin_ap, gCmp_ap, gCmpT_ap, gNeg_ap, gCh3_ap, gCh2_ap, gCh_ap, gCh3T_ap, gCh2T_ap, gChT_ap, gAnd2_ap, gAnd_ap, gOr2_ap, gOr_ap, gNot2_ap, gNot_ap, gIte_ap, gIx_ap, gSl2_ap, gSl1_ap, gSl_ap, gRev_ap, gFld_ap, gMk2_ap, gMk_ap, gMt2_ap, gMt_ap, gBf_ap, gBm2_ap, gBm_ap, gIsi_ap, gLc_ap, gStr_ap, gKget_ap, gKin_ap, gCo2_ap, gCo_ap, gOs2_ap, gOs_ap, gRn1_ap, gRn3_ap, gRn2_ap, gRn_ap, gZp_ap, gAndT_ap, gOrT_ap, gNotT_ap, gJ_ap, sNx_ap, sSet_ap, sSetT_ap, sPar2_ap, sPar1_ap, sI3_ap, sI2_ap, sI1_ap, sF2_ap, sF1_ap, sN2_ap, sN1_ap, sA3_ap, sA2_ap, sA1_ap, sR_ap, sIff_ap, sFr_ap, e_var, e_cst, e_glob, e_bin, e_neg, e_cmp, e_chain, e_and, e_or, e_not, e_ite, e_ix, e_sl, e_rev, e_tup, e_lst, e_dnewK, e_dnewT, e_fld, e_call, e_make, e_meth, e_bf, e_bm, e_isi, e_lc, e_fst, e_fmt, e_kget, e_kin, gDk_ap, gDr_ap, gDv_ap, keyR_str, keyR_int, e_disp, d_nil, d_cons, d1_cons, e_nil, e_cons, j_nil, j_cons, o_none, o_some, c_none, c_some, i_seq, i_rng1, i_rng2, i_zp, i_enm, i_keys, t_cmp, t_chain, t_and, t_or, t_not, t_var, t_ix, t_call, t_meth, t_isi, t_kin, t_fld, t_bf, s_nil, s_cons, s_pass, s_doc, s_brk, s_cnt, s_retN, s_expr, s_asg, s_asgL, s_asgT, s_par, s_asgI, s_asgF, s_augN, s_augF, s_ret, s_iff, s_whl, s_for, s_tryN, strR_str, Option.getD_some, Option.getD_none, Option.isSome_some, Option.isSome_none, mVar, gJc_ap, opN, opB, and_self, true_and, and_true, if_true, if_false, Bool.true_or, Bool.not_true, Bool.not_false, eq_self, h1, e1]
  generalize hX : fLoop _ _ _ _ _ _ _ = o
  refine for_c hX ys.length (fun j ρ s1 => s1 = s ∧ ∃ c, ρ = [some d, some e, c]) ⟨rfl, none, rfl⟩ (Nat.zero_le _) ?_ ?_ ?_ ?_
  · show ys.length - 0 < ys.length + 1
    omega
  · rintro j ρ s1 hj ⟨rfl, c, rfl⟩
    refine ⟨.int (0 + j), _, by simp [sItem, hj], rfl, ?_⟩
    show ∃ ρ2 s3, (svs _ _ _ [some d, some e, some (.int (0 + j))] s1 = .nx ρ2 s3 ∨ svs _ _ _ [some d, some e, some (.int (0 + j))] s1 = .ct ρ2 s3) ∧ _
    have a1 := hd j (xs[j]'(by omega)) (by simp)
    have a2 := he j ys[j] (by simp)
    rw [show (0 : Int) + (j : Int) = (j : Int) by omega]
    simp only [fin_nx, fin_rt, fin_ex, ofO_some, ofO_none, asB_bl, asI_int, truR_bl, outS_some, outE_some, outO_some, R.bind_ok, R.bind_ex, R.bind_bad, R.to_ok, R.to_ex, R.to_bad, Out.seq_nx, Out.seq_rt, Out.seq_bk, Out.seq_ct, Out.seq_ex, Out.seq_bad, cond_true, cond_false, gam_gl, gam_ncls, gam_init, gam_kd, List.getElem?_cons_zero, List.getElem?_cons_succ, List.set_cons_zero, List.set_cons_succ, List.cons_append, List.nil_append, k2_ap, gBin_ap, gCmp_ap, gCmpT_ap, gNeg_ap, gCh3_ap, gCh2_ap, gCh_ap, gCh3T_ap, gCh2T_ap, gChT_ap, gAnd2_ap, gAnd_ap, gOr2_ap, gOr_ap, gNot2_ap, gNot_ap, gIte_ap, gIx_ap, gSl2_ap, gSl1_ap, gSl_ap, gRev_ap, gFld_ap, gMk2_ap, gMk_ap, gMt2_ap, gMt_ap, gBf_ap, gBm2_ap, gBm_ap, gIsi_ap, gLc_ap, gStr_ap, gKget_ap, gKin_ap, gCo2_ap, gCo_ap, gOs2_ap, gOs_ap, gRn1_ap, gRn3_ap, gRn2_ap, gRn_ap, gZp_ap, gAndT_ap, gOrT_ap, gNotT_ap, gJ_ap, sNx_ap, sSet_ap, sSetT_ap, sPar2_ap, sPar1_ap, sI3_ap, sI2_ap, sI1_ap, sF2_ap, sF1_ap, sN2_ap, sN1_ap, sA3_ap, sA2_ap, sA1_ap, sR_ap, sIff_ap, sFr_ap, e_var, e_cst, e_glob, e_bin, e_neg, e_cmp, e_chain, e_and, e_or, e_not, e_ite, e_ix, e_sl, e_rev, e_tup, e_lst, e_dnewK, e_dnewT, e_fld, e_call, e_make, e_meth, e_bf, e_bm, e_isi, e_lc, e_fst, e_fmt, e_kget, e_kin, gDk_ap, gDr_ap, gDv_ap, keyR_str, keyR_int, e_disp, d_nil, d_cons, d1_cons, e_nil, e_cons, j_nil, j_cons, o_none, o_some, c_none, c_some, i_seq, i_rng1, i_rng2, i_zp, i_enm, i_keys, t_cmp, t_chain, t_and, t_or, t_not, t_var, t_ix, t_call, t_meth, t_isi, t_kin, t_fld, t_bf, s_nil, s_cons, s_pass, s_doc, s_brk, s_cnt, s_retN, s_expr, s_asg, s_asgL, s_asgT, s_par, s_asgI, s_asgF, s_augN, s_augF, s_ret, s_iff, s_whl, s_for, s_tryN, strR_str, Option.getD_some, Option.getD_none, Option.isSome_some, Option.isSome_none, mVar, gJc_ap, opN, opB, and_self, true_and, and_true, if_true, if_false, Bool.true_or, Bool.not_true, Bool.not_false, eq_self, a1, a2, ih j (by omega) hj]
    exact ⟨_, _, .inl rfl, rfl, _, rfl⟩
  · rintro ρ s1 _
    simp [sItem]
  · rintro ρ' s' ⟨rfl, c, rfl⟩ rfl
    rfl
theorem bl_eq (b : Bool) (s : Sto) : opC .eq (.bl b) (.bl b) s = some (.bl true, s) := by
  cases b <;> rfl
theorem int_eq (i j : Int) (s : Sto) : opC .eq (.int i) (.int j) s = some (.bl (i == j), s) := rfl
theorem str_eq (x y : Str) (s : Sto) : opC .eq (.str x) (.str y) s = some (.bl (decide (x = y)), s) := rfl
/-- its sequences are short -/
inductive Short (s : Sto) : Nat → D → Prop
  | non (n : Nat) : Short s n .non
  | bl (n : Nat) (b : Bool) : Short s n (.bl b)
  | int (n : Nat) (i : Int) : Short s n (.int i)
  | str (n : Nat) (x : Str) : Short s n (.str x)
  | tup {n : Nat} {d : D} {xs : List D} : tupOf d = some xs → xs.length < 1000000 → (∀ x ∈ xs, Short s n x) → Short s (n + 1) d
  | lst {n : Nat} {r : Nat} {xs : List D} : s.g r = .lst xs → xs.length < 1000000 → (∀ x ∈ xs, Short s n x) → Short s (n + 1) (.ref r)
theorem not_tup {r : Nat} {xs : List D} : tupOf (.ref r) ≠ some xs := fun h => nomatch h
theorem equal_is {T : Tb} {fe fa : Nat} (he : Is T fe 2 2 (bEqual fa)) (ha : Is T fa 3 2 (bAllEq fe)) {fuel : Nat} {s : Sto} : ∀ (n k : Nat) {d e : D}, SameD s n d e → Short s n e → (T.gam fuel (k + 2 * n + 1)).fn fe [d, e] s = .ok (.bl true) s
  | n, k, _, _, .non _, _ => by
    rw [he.call rfl]
    show (svs _ _ (bEqual fa) [some .non, some .non] s).fin = _
    have t : tyName .non s = some "NoneType" := rfl
    unfold bEqual
    simp only [fin_nx, fin_rt, fin_ex, ofO_some, ofO_none, asB_bl, asI_int, truR_bl, outS_some, outE_some, outO_some, R.bind_ok, R.bind_ex, R.bind_bad, R.to_ok, R.to_ex, R.to_bad, Out.seq_nx, Out.seq_rt, Out.seq_bk, Out.seq_ct, Out.seq_ex, Out.seq_bad, cond_true, cond_false, gam_gl, gam_ncls, gam_init, gam_kd, List.getElem?_cons_zero, List.getElem?_cons_succ, List.set_cons_zero, List.set_cons_succ, List.cons_append, List.nil_append, k2_ap, gBin_ap, gCmp_ap, gCmpT_ap, gNeg_ap, gCh3_ap, gCh2_ap, gCh_ap, gCh3T_ap, gCh2T_ap, gChT_ap, gAnd2_ap, gAnd_ap, gOr2_ap, gOr_ap, gNot2_ap, gNot_ap, gIte_ap, gIx_ap, gSl2_ap, gSl1_ap, gSl_ap, gRev_ap, gFld_ap, gMk2_ap, gMk_ap, gMt2_ap, gMt_ap, gBf_ap, gBm2_ap, gBm_ap, gIsi_ap, gLc_ap, gStr_ap, gKget_ap, gKin_ap, gCo2_ap, gCo_ap, gOs2_ap, gOs_ap, gRn1_ap, gRn3_ap, gRn2_ap, gRn_ap, gZp_ap, gAndT_ap, gOrT_ap, gNotT_ap, gJ_ap, sNx_ap, sSet_ap, sSetT_ap, sPar2_ap, sPar1_ap, sI3_ap, sI2_ap, sI1_ap, sF2_ap, sF1_ap, sN2_ap, sN1_ap, sA3_ap, sA2_ap, sA1_ap, sR_ap, sIff_ap, sFr_ap, e_var, e_cst, e_glob, e_bin, e_neg, e_cmp, e_chain, e_and, e_or, e_not, e_ite, e_ix, e_sl, e_rev, e_tup, e_lst, e_dnewK, e_dnewT, e_fld, e_call, e_make, e_meth, e_bf, e_bm, e_isi, e_lc, e_fst, e_fmt, e_kget, e_kin, gDk_ap, gDr_ap, gDv_ap, keyR_str, keyR_int, e_disp, d_nil, d_cons, d1_cons, e_nil, e_cons, j_nil, j_cons, o_none, o_some, c_none, c_some, i_seq, i_rng1, i_rng2, i_zp, i_enm, i_keys, t_cmp, t_chain, t_and, t_or, t_not, t_var, t_ix, t_call, t_meth, t_isi, t_kin, t_fld, t_bf, s_nil, s_cons, s_pass, s_doc, s_brk, s_cnt, s_retN, s_expr, s_asg, s_asgL, s_asgT, s_par, s_asgI, s_asgF, s_augN, s_augF, s_ret, s_iff, s_whl, s_for, s_tryN, strR_str, Option.getD_some, Option.getD_none, Option.isSome_some, Option.isSome_none, mVar, gJc_ap, opN, opB, and_self, true_and, and_true, if_true, if_false, Bool.true_or, Bool.not_true, Bool.not_false, eq_self, isi_of (T := "list") t rfl, isi_of (T := "tuple") t rfl, isi_of (T := "bool") t rfl, isi_of (T := "int") t rfl, isi_of (T := "str") t rfl]
    rfl
  | n, k, _, _, .bl _ b, _ => by
    rw [he.call rfl]
    show (svs _ _ (bEqual fa) [some (.bl b), some (.bl b)] s).fin = _
    have t : tyName (.bl b) s = some "bool" := rfl
    unfold bEqual
    simp only [fin_nx, fin_rt, fin_ex, ofO_some, ofO_none, asB_bl, asI_int, truR_bl, outS_some, outE_some, outO_some, R.bind_ok, R.bind_ex, R.bind_bad, R.to_ok, R.to_ex, R.to_bad, Out.seq_nx, Out.seq_rt, Out.seq_bk, Out.seq_ct, Out.seq_ex, Out.seq_bad, cond_true, cond_false, gam_gl, gam_ncls, gam_init, gam_kd, List.getElem?_cons_zero, List.getElem?_cons_succ, List.set_cons_zero, List.set_cons_succ, List.cons_append, List.nil_append, k2_ap, gBin_ap, gCmp_ap, gCmpT_ap, gNeg_ap, gCh3_ap, gCh2_ap, gCh_ap, gCh3T_ap, gCh2T_ap, gChT_ap, gAnd2_ap, gAnd_ap, gOr2_ap, gOr_ap, gNot2_ap, gNot_ap, gIte_ap, gIx_ap, gSl2_ap, gSl1_ap, gSl_ap, gRev_ap, gFld_ap, gMk2_ap, gMk_ap, gMt2_ap, gMt_ap, gBf_ap, gBm2_ap, gBm_ap, gIsi_ap, gLc_ap, gStr_ap, gKget_ap, gKin_ap, gCo2_ap, gCo_ap, gOs2_ap, gOs_ap, gRn1_ap, gRn3_ap, gRn2_ap, gRn_ap, gZp_ap, gAndT_ap, gOrT_ap, gNotT_ap, gJ_ap, sNx_ap, sSet_ap, sSetT_ap, sPar2_ap, sPar1_ap, sI3_ap, sI2_ap, sI1_ap, sF2_ap, sF1_ap, sN2_ap, sN1_ap, sA3_ap, sA2_ap, sA1_ap, sR_ap, sIff_ap, sFr_ap, e_var, e_cst, e_glob, e_bin, e_neg, e_cmp, e_chain, e_and, e_or, e_not, e_ite, e_ix, e_sl, e_rev, e_tup, e_lst, e_dnewK, e_dnewT, e_fld, e_call, e_make, e_meth, e_bf, e_bm, e_isi, e_lc, e_fst, e_fmt, e_kget, e_kin, gDk_ap, gDr_ap, gDv_ap, keyR_str, keyR_int, e_disp, d_nil, d_cons, d1_cons, e_nil, e_cons, j_nil, j_cons, o_none, o_some, c_none, c_some, i_seq, i_rng1, i_rng2, i_zp, i_enm, i_keys, t_cmp, t_chain, t_and, t_or, t_not, t_var, t_ix, t_call, t_meth, t_isi, t_kin, t_fld, t_bf, s_nil, s_cons, s_pass, s_doc, s_brk, s_cnt, s_retN, s_expr, s_asg, s_asgL, s_asgT, s_par, s_asgI, s_asgF, s_augN, s_augF, s_ret, s_iff, s_whl, s_for, s_tryN, strR_str, Option.getD_some, Option.getD_none, Option.isSome_some, Option.isSome_none, mVar, gJc_ap, opN, opB, and_self, true_and, and_true, if_true, if_false, Bool.true_or, Bool.not_true, Bool.not_false, eq_self, isi_of (T := "list") t rfl, isi_of (T := "tuple") t rfl, isi_of (T := "bool") t rfl, bl_eq]
  | n, k, _, _, .int _ i, _ => by
    rw [he.call rfl]
    show (svs _ _ (bEqual fa) [some (.int i), some (.int i)] s).fin = _
    have t : tyName (.int i) s = some "int" := rfl
    unfold bEqual
    simp only [fin_nx, fin_rt, fin_ex, ofO_some, ofO_none, asB_bl, asI_int, truR_bl, outS_some, outE_some, outO_some, R.bind_ok, R.bind_ex, R.bind_bad, R.to_ok, R.to_ex, R.to_bad, Out.seq_nx, Out.seq_rt, Out.seq_bk, Out.seq_ct, Out.seq_ex, Out.seq_bad, cond_true, cond_false, gam_gl, gam_ncls, gam_init, gam_kd, List.getElem?_cons_zero, List.getElem?_cons_succ, List.set_cons_zero, List.set_cons_succ, List.cons_append, List.nil_append, k2_ap, gBin_ap, gCmp_ap, gCmpT_ap, gNeg_ap, gCh3_ap, gCh2_ap, gCh_ap, gCh3T_ap, gCh2T_ap, gChT_ap, gAnd2_ap, gAnd_ap, gOr2_ap, gOr_ap, gNot2_ap, gNot_ap, gIte_ap, gIx_ap, gSl2_ap, gSl1_ap, gSl_ap, gRev_ap, gFld_ap, gMk2_ap, gMk_ap, gMt2_ap, gMt_ap, gBf_ap, gBm2_ap, gBm_ap, gIsi_ap, gLc_ap, gStr_ap, gKget_ap, gKin_ap, gCo2_ap, gCo_ap, gOs2_ap, gOs_ap, gRn1_ap, gRn3_ap, gRn2_ap, gRn_ap, gZp_ap, gAndT_ap, gOrT_ap, gNotT_ap, gJ_ap, sNx_ap, sSet_ap, sSetT_ap, sPar2_ap, sPar1_ap, sI3_ap, sI2_ap, sI1_ap, sF2_ap, sF1_ap, sN2_ap, sN1_ap, sA3_ap, sA2_ap, sA1_ap, sR_ap, sIff_ap, sFr_ap, e_var, e_cst, e_glob, e_bin, e_neg, e_cmp, e_chain, e_and, e_or, e_not, e_ite, e_ix, e_sl, e_rev, e_tup, e_lst, e_dnewK, e_dnewT, e_fld, e_call, e_make, e_meth, e_bf, e_bm, e_isi, e_lc, e_fst, e_fmt, e_kget, e_kin, gDk_ap, gDr_ap, gDv_ap, keyR_str, keyR_int, e_disp, d_nil, d_cons, d1_cons, e_nil, e_cons, j_nil, j_cons, o_none, o_some, c_none, c_some, i_seq, i_rng1, i_rng2, i_zp, i_enm, i_keys, t_cmp, t_chain, t_and, t_or, t_not, t_var, t_ix, t_call, t_meth, t_isi, t_kin, t_fld, t_bf, s_nil, s_cons, s_pass, s_doc, s_brk, s_cnt, s_retN, s_expr, s_asg, s_asgL, s_asgT, s_par, s_asgI, s_asgF, s_augN, s_augF, s_ret, s_iff, s_whl, s_for, s_tryN, strR_str, Option.getD_some, Option.getD_none, Option.isSome_some, Option.isSome_none, mVar, gJc_ap, opN, opB, and_self, true_and, and_true, if_true, if_false, Bool.true_or, Bool.not_true, Bool.not_false, eq_self, isi_of (T := "list") t rfl, isi_of (T := "tuple") t rfl, isi_of (T := "bool") t rfl, isi_of (T := "int") t rfl, int_eq, beq_self_eq_true]
  | n, k, _, _, .str _ x, _ => by
    rw [he.call rfl]
    show (svs _ _ (bEqual fa) [some (.str x), some (.str x)] s).fin = _
    have t : tyName (.str x) s = some "str" := rfl
    unfold bEqual
    simp only [fin_nx, fin_rt, fin_ex, ofO_some, ofO_none, asB_bl, asI_int, truR_bl, outS_some, outE_some, outO_some, R.bind_ok, R.bind_ex, R.bind_bad, R.to_ok, R.to_ex, R.to_bad, Out.seq_nx, Out.seq_rt, Out.seq_bk, Out.seq_ct, Out.seq_ex, Out.seq_bad, cond_true, cond_false, gam_gl, gam_ncls, gam_init, gam_kd, List.getElem?_cons_zero, List.getElem?_cons_succ, List.set_cons_zero, List.set_cons_succ, List.cons_append, List.nil_append, k2_ap, gBin_ap, gCmp_ap, gCmpT_ap, gNeg_ap, gCh3_ap, gCh2_ap, gCh_ap, gCh3T_ap, gCh2T_ap, gChT_ap, gAnd2_ap, gAnd_ap, gOr2_ap, gOr_ap, gNot2_ap, gNot_ap, gIte_ap, gIx_ap, gSl2_ap, gSl1_ap, gSl_ap, gRev_ap, gFld_ap, gMk2_ap, gMk_ap, gMt2_ap, gMt_ap, gBf_ap, gBm2_ap, gBm_ap, gIsi_ap, gLc_ap, gStr_ap, gKget_ap, gKin_ap, gCo2_ap, gCo_ap, gOs2_ap, gOs_ap, gRn1_ap, gRn3_ap, gRn2_ap, gRn_ap, gZp_ap, gAndT_ap, gOrT_ap, gNotT_ap, gJ_ap, sNx_ap, sSet_ap, sSetT_ap, sPar2_ap, sPar1_ap, sI3_ap, sI2_ap, sI1_ap, sF2_ap, sF1_ap, sN2_ap, sN1_ap, sA3_ap, sA2_ap, sA1_ap, sR_ap, sIff_ap, sFr_ap, e_var, e_cst, e_glob, e_bin, e_neg, e_cmp, e_chain, e_and, e_or, e_not, e_ite, e_ix, e_sl, e_rev, e_tup, e_lst, e_dnewK, e_dnewT, e_fld, e_call, e_make, e_meth, e_bf, e_bm, e_isi, e_lc, e_fst, e_fmt, e_kget, e_kin, gDk_ap, gDr_ap, gDv_ap, keyR_str, keyR_int, e_disp, d_nil, d_cons, d1_cons, e_nil, e_cons, j_nil, j_cons, o_none, o_some, c_none, c_some, i_seq, i_rng1, i_rng2, i_zp, i_enm, i_keys, t_cmp, t_chain, t_and, t_or, t_not, t_var, t_ix, t_call, t_meth, t_isi, t_kin, t_fld, t_bf, s_nil, s_cons, s_pass, s_doc, s_brk, s_cnt, s_retN, s_expr, s_asg, s_asgL, s_asgT, s_par, s_asgI, s_asgF, s_augN, s_augF, s_ret, s_iff, s_whl, s_for, s_tryN, strR_str, Option.getD_some, Option.getD_none, Option.isSome_some, Option.isSome_none, mVar, gJc_ap, opN, opB, and_self, true_and, and_true, if_true, if_false, Bool.true_or, Bool.not_true, Bool.not_false, eq_self, isi_of (T := "list") t rfl, isi_of (T := "tuple") t rfl, isi_of (T := "bool") t rfl, isi_of (T := "int") t rfl, isi_of (T := "str") t rfl, str_eq, decide_true]
  | n + 1, k, d, e, .tup h1 h2 hl, sh => by
    rename_i xs ys
    have sh2 : ys.length < 1000000 ∧ ∀ x ∈ ys, Short s n x := by
      cases sh with
      | tup e1 e2 e3 => rw [h2] at e1; cases e1; exact ⟨e2, e3⟩
      | lst => cases h2
      | _ => cases h2
    have hlen := hl.len
    rw [show k + 2 * (n + 1) + 1 = (k + 2 * n + 1 + 1) + 1 from by omega, he.call rfl]
    show (svs _ _ (bEqual fa) [some d, some e] s).fin = _
    have t := ty_tup (s := s) h2
    have t1 := ty_tup (s := s) h1
    have key := all_is ha (k := k + 2 * n + 1) (fuel := fuel) (s := s) (d := d) (e := e) hlen sh2.1 (len_tup h2) (fun i x hx => ixO_tup h1 (atI_nat hx)) (fun i x hx => ixO_tup h2 (atI_nat hx))
      fun i h h' => equal_is he ha n k (hl.get i h h') (sh2.2 _ (List.getElem_mem h'))
    unfold bEqual
    simp only [fin_nx, fin_rt, fin_ex, ofO_some, ofO_none, asB_bl, asI_int, truR_bl, outS_some, outE_some, outO_some, R.bind_ok, R.bind_ex, R.bind_bad, R.to_ok, R.to_ex, R.to_bad, Out.seq_nx, Out.seq_rt, Out.seq_bk, Out.seq_ct, Out.seq_ex, Out.seq_bad, cond_true, cond_false, gam_gl, gam_ncls, gam_init, gam_kd, List.getElem?_cons_zero, List.getElem?_cons_succ, List.set_cons_zero, List.set_cons_succ, List.cons_append, List.nil_append, k2_ap, gBin_ap, gCmp_ap, gCmpT_ap, gNeg_ap, gCh3_ap, gCh2_ap, gCh_ap, gCh3T_ap, gCh2T_ap, gChT_ap, gAnd2_ap, gAnd_ap, gOr2_ap, gOr_ap, gNot2_ap, gNot_ap, gIte_ap, gIx_ap, gSl2_ap, gSl1_ap, gSl_ap, gRev_ap, gFld_ap, gMk2_ap, gMk_ap, gMt2_ap, gMt_ap, gBf_ap, gBm2_ap, gBm_ap, gIsi_ap, gLc_ap, gStr_ap, gKget_ap, gKin_ap, gCo2_ap, gCo_ap, gOs2_ap, gOs_ap, gRn1_ap, gRn3_ap, gRn2_ap, gRn_ap, gZp_ap, gAndT_ap, gOrT_ap, gNotT_ap, gJ_ap, sNx_ap, sSet_ap, sSetT_ap, sPar2_ap, sPar1_ap, sI3_ap, sI2_ap, sI1_ap, sF2_ap, sF1_ap, sN2_ap, sN1_ap, sA3_ap, sA2_ap, sA1_ap, sR_ap, sIff_ap, sFr_ap, e_var, e_cst, e_glob, e_bin, e_neg, e_cmp, e_chain, e_and, e_or, e_not, e_ite, e_ix, e_sl, e_rev, e_tup, e_lst, e_dnewK, e_dnewT, e_fld, e_call, e_make, e_meth, e_bf, e_bm, e_isi, e_lc, e_fst, e_fmt, e_kget, e_kin, gDk_ap, gDr_ap, gDv_ap, keyR_str, keyR_int, e_disp, d_nil, d_cons, d1_cons, e_nil, e_cons, j_nil, j_cons, o_none, o_some, c_none, c_some, i_seq, i_rng1, i_rng2, i_zp, i_enm, i_keys, t_cmp, t_chain, t_and, t_or, t_not, t_var, t_ix, t_call, t_meth, t_isi, t_kin, t_fld, t_bf, s_nil, s_cons, s_pass, s_doc, s_brk, s_cnt, s_retN, s_expr, s_asg, s_asgL, s_asgT, s_par, s_asgI, s_asgF, s_augN, s_augF, s_ret, s_iff, s_whl, s_for, s_tryN, strR_str, Option.getD_some, Option.getD_none, Option.isSome_some, Option.isSome_none, mVar, gJc_ap, opN, opB, and_self, true_and, and_true, if_true, if_false, Bool.true_or, Bool.not_true, Bool.not_false, eq_self, isi_of (T := "list") t rfl, isi_of (T := "tuple") t rfl, isi_of (T := "tuple") t1 rfl, len_tup h1, len_tup h2, ne_int, hlen, beq_self_eq_true, key]
  | n + 1, k, _, _, .lst (r := r) (q := q) h1 h2 hl, sh => by
    rename_i xs ys
    have sh2 : ys.length < 1000000 ∧ ∀ x ∈ ys, Short s n x := by
      cases sh with
      | tup e1 => cases e1
      | lst e1 e2 e3 => rw [h2] at e1; cases e1; exact ⟨e2, e3⟩
    have hlen := hl.len
    rw [show k + 2 * (n + 1) + 1 = (k + 2 * n + 1 + 1) + 1 from by omega, he.call rfl]
    show (svs _ _ (bEqual fa) [some (.ref r), some (.ref q)] s).fin = _
    have t := ty_lst h2
    have t1 := ty_lst h1
    have key := all_is ha (k := k + 2 * n + 1) (fuel := fuel) (s := s) (d := .ref r) (e := .ref q) hlen sh2.1 (len_lst h2) (fun i x hx => ixO_lst h1 (atI_nat hx)) (fun i x hx => ixO_lst h2 (atI_nat hx))
      fun i h h' => equal_is he ha n k (hl.get i h h') (sh2.2 _ (List.getElem_mem h'))
    unfold bEqual
    simp only [fin_nx, fin_rt, fin_ex, ofO_some, ofO_none, asB_bl, asI_int, truR_bl, outS_some, outE_some, outO_some, R.bind_ok, R.bind_ex, R.bind_bad, R.to_ok, R.to_ex, R.to_bad, Out.seq_nx, Out.seq_rt, Out.seq_bk, Out.seq_ct, Out.seq_ex, Out.seq_bad, cond_true, cond_false, gam_gl, gam_ncls, gam_init, gam_kd, List.getElem?_cons_zero, List.getElem?_cons_succ, List.set_cons_zero, List.set_cons_succ, List.cons_append, List.nil_append, k2_ap, gBin_ap, gCmp_ap, gCmpT_ap, gNeg_ap, gCh3_ap, gCh2_ap, gCh_ap, gCh3T_ap, gCh2T_ap, gChT_ap, gAnd2_ap, gAnd_ap, gOr2_ap, gOr_ap, gNot2_ap, gNot_ap, gIte_ap, gIx_ap, gSl2_ap, gSl1_ap, gSl_ap, gRev_ap, gFld_ap, gMk2_ap, gMk_ap, gMt2_ap, gMt_ap, gBf_ap, gBm2_ap, gBm_ap, gIsi_ap, gLc_ap, gStr_ap, gKget_ap, gKin_ap, gCo2_ap, gCo_ap, gOs2_ap, gOs_ap, gRn1_ap, gRn3_ap, gRn2_ap, gRn_ap, gZp_ap, gAndT_ap, gOrT_ap, gNotT_ap, gJ_ap, sNx_ap, sSet_ap, sSetT_ap, sPar2_ap, sPar1_ap, sI3_ap, sI2_ap, sI1_ap, sF2_ap, sF1_ap, sN2_ap, sN1_ap, sA3_ap, sA2_ap, sA1_ap, sR_ap, sIff_ap, sFr_ap, e_var, e_cst, e_glob, e_bin, e_neg, e_cmp, e_chain, e_and, e_or, e_not, e_ite, e_ix, e_sl, e_rev, e_tup, e_lst, e_dnewK, e_dnewT, e_fld, e_call, e_make, e_meth, e_bf, e_bm, e_isi, e_lc, e_fst, e_fmt, e_kget, e_kin, gDk_ap, gDr_ap, gDv_ap, keyR_str, keyR_int, e_disp, d_nil, d_cons, d1_cons, e_nil, e_cons, j_nil, j_cons, o_none, o_some, c_none, c_some, i_seq, i_rng1, i_rng2, i_zp, i_enm, i_keys, t_cmp, t_chain, t_and, t_or, t_not, t_var, t_ix, t_call, t_meth, t_isi, t_kin, t_fld, t_bf, s_nil, s_cons, s_pass, s_doc, s_brk, s_cnt, s_retN, s_expr, s_asg, s_asgL, s_asgT, s_par, s_asgI, s_asgF, s_augN, s_augF, s_ret, s_iff, s_whl, s_for, s_tryN, strR_str, Option.getD_some, Option.getD_none, Option.isSome_some, Option.isSome_none, mVar, gJc_ap, opN, opB, and_self, true_and, and_true, if_true, if_false, Bool.true_or, Bool.not_true, Bool.not_false, eq_self, isi_of (T := "list") t rfl, isi_of (T := "list") t1 rfl, len_lst h1, len_lst h2, ne_int, hlen, beq_self_eq_true, key]
end Ab
set_option Elab.async false
set_option linter.all false
set_option maxRecDepth 100000
set_option maxHeartbeats 1000000
/-! Ab22: check_program of a right program -/
namespace Ab
open PySem L2
def bIsInt : Sts := .cons (.ret (.and (.isi (.var 0) "int") (.not (.isi (.var 0) "bool")))) (.nil)
def bBelow (fi : Nat) : Sts := .cons (.ret (.and (.call fi (.cons (.var 0) (.nil))) (.chain .le .lt (.cst (.int 0)) (.var 0) (.var 1)))) (.nil)
def bValue (fi : Nat) : Sts := .cons (.ret (.and (.call fi (.cons (.var 0) (.nil))) (.chain .le .le (.neg (.glob 0)) (.var 0) (.glob 0)))) (.nil)
def bPart (fv fb : Nat) : Sts := .cons (.iff (.cmp .eq (.var 1) (.cst (.str "value"))) (.cons (.iff (.not (.call fv (.cons (.var 0) (.nil)))) (.cons (.never) (.nil)) (.nil)) (.nil)) (.cons (.iff (.not (.call fb (.cons (.var 0) (.cons (.ix (.var 2) (.var 1)) (.nil))))) (.cons (.never) (.nil)) (.nil)) (.nil))) (.nil)
theorem isint_is {T : Tb} {f : Nat} (h : Is T f 1 1 bIsInt) {k fuel : Nat} {i : Int} {s : Sto} : (T.gam fuel (k + 1)).fn f [.int i] s = .ok (.bl true) s := by
  rw [h.call rfl]
  show (svs _ _ bIsInt [some (.int i)] s).fin = _
  have t : tyName (.int i) s = some "int" := rfl
  unfold bIsInt
  simp only [fin_nx, fin_rt, fin_ex, ofO_some, ofO_none, asB_bl, asI_int, truR_bl, outS_some, outE_some, outO_some, R.bind_ok, R.bind_ex, R.bind_bad, R.to_ok, R.to_ex, R.to_bad, Out.seq_nx, Out.seq_rt, Out.seq_bk, Out.seq_ct, Out.seq_ex, Out.seq_bad, cond_true, cond_false, gam_gl, gam_ncls, gam_init, gam_kd, List.getElem?_cons_zero, List.getElem?_cons_succ, List.set_cons_zero, List.set_cons_succ, List.cons_append, List.nil_append, k2_ap, gBin_ap, gCmp_ap, gCmpT_ap, gNeg_ap, gCh3_ap, gCh2_ap, gCh_ap, gCh3T_ap, gCh2T_ap, gChT_ap, gAnd2_ap, gAnd_ap, gOr2_ap, gOr_ap, gNot2_ap, gNot_ap, gIte_ap, gIx_ap, gSl2_ap, gSl1_ap, gSl_ap, gRev_ap, gFld_ap, gMk2_ap, gMk_ap, gMt2_ap, gMt_ap, gBf_ap, gBm2_ap, gBm_ap, gIsi_ap, gLc_ap, gStr_ap, gKget_ap, gKin_ap, gCo2_ap, gCo_ap, gOs2_ap, gOs_ap, gRn1_ap, gRn3_ap, gRn2_ap, gRn_ap, gZp_ap, gAndT_ap, gOrT_ap, gNotT_ap, gJ_ap, sNx_ap, sSet_ap, sSetT_ap, sPar2_ap, sPar1_ap, sI3_ap, sI2_ap, sI1_ap, sF2_ap, sF1_ap, sN2_ap, sN1_ap, sA3_ap, sA2_ap, sA1_ap, sR_ap, sIff_ap, sFr_ap, e_var, e_cst, e_glob, e_bin, e_neg, e_cmp, e_chain, e_and, e_or, e_not, e_ite, e_ix, e_sl, e_rev, e_tup, e_lst, e_dnewK, e_dnewT, e_fld, e_call, e_make, e_meth, e_bf, e_bm, e_isi, e_lc, e_fst, e_fmt, e_kget, e_kin, gDk_ap, gDr_ap, gDv_ap, keyR_str, keyR_int, e_disp, d_nil, d_cons, d1_cons, e_nil, e_cons, j_nil, j_cons, o_none, o_some, c_none, c_some, i_seq, i_rng1, i_rng2, i_zp, i_enm, i_keys, t_cmp, t_chain, t_and, t_or, t_not, t_var, t_ix, t_call, t_meth, t_isi, t_kin, t_fld, t_bf, s_nil, s_cons, s_pass, s_doc, s_brk, s_cnt, s_retN, s_expr, s_asg, s_asgL, s_asgT, s_par, s_asgI, s_asgF, s_augN, s_augF, s_ret, s_iff, s_whl, s_for, s_tryN, strR_str, Option.getD_some, Option.getD_none, Option.isSome_some, Option.isSome_none, mVar, gJc_ap, opN, opB, and_self, true_and, and_true, if_true, if_false, Bool.true_or, Bool.not_true, Bool.not_false, eq_self, isi_of (T := "int") t rfl, isi_of (T := "bool") t rfl]
theorem below_is {T : Tb} {f fi : Nat} (h : Is T f 2 2 (bBelow fi)) (hi : Is T fi 1 1 bIsInt) {k fuel : Nat} {i j : Int} {s : Sto} : (T.gam fuel (k + 2)).fn f [.int i, .int j] s = .ok (.bl (decide (0 ≤ i) && decide (i < j))) s := by
  rw [h.call rfl]
  show (svs _ _ (bBelow fi) [some (.int i), some (.int j)] s).fin = _
  unfold bBelow
  simp only [fin_nx, fin_rt, fin_ex, ofO_some, ofO_none, asB_bl, asI_int, truR_bl, outS_some, outE_some, outO_some, R.bind_ok, R.bind_ex, R.bind_bad, R.to_ok, R.to_ex, R.to_bad, Out.seq_nx, Out.seq_rt, Out.seq_bk, Out.seq_ct, Out.seq_ex, Out.seq_bad, cond_true, cond_false, gam_gl, gam_ncls, gam_init, gam_kd, List.getElem?_cons_zero, List.getElem?_cons_succ, List.set_cons_zero, List.set_cons_succ, List.cons_append, List.nil_append, k2_ap, gBin_ap, gCmp_ap, gCmpT_ap, gNeg_ap, gCh3_ap, gCh2_ap, gCh_ap, gCh3T_ap, gCh2T_ap, gChT_ap, gAnd2_ap, gAnd_ap, gOr2_ap, gOr_ap, gNot2_ap, gNot_ap, gIte_ap, gIx_ap, gSl2_ap, gSl1_ap, gSl_ap, gRev_ap, gFld_ap, gMk2_ap, gMk_ap, gMt2_ap, gMt_ap, gBf_ap, gBm2_ap, gBm_ap, gIsi_ap, gLc_ap, gStr_ap, gKget_ap, gKin_ap, gCo2_ap, gCo_ap, gOs2_ap, gOs_ap, gRn1_ap, gRn3_ap, gRn2_ap, gRn_ap, gZp_ap, gAndT_ap, gOrT_ap, gNotT_ap, gJ_ap, sNx_ap, sSet_ap, sSetT_ap, sPar2_ap, sPar1_ap, sI3_ap, sI2_ap, sI1_ap, sF2_ap, sF1_ap, sN2_ap, sN1_ap, sA3_ap, sA2_ap, sA1_ap, sR_ap, sIff_ap, sFr_ap, e_var, e_cst, e_glob, e_bin, e_neg, e_cmp, e_chain, e_and, e_or, e_not, e_ite, e_ix, e_sl, e_rev, e_tup, e_lst, e_dnewK, e_dnewT, e_fld, e_call, e_make, e_meth, e_bf, e_bm, e_isi, e_lc, e_fst, e_fmt, e_kget, e_kin, gDk_ap, gDr_ap, gDv_ap, keyR_str, keyR_int, e_disp, d_nil, d_cons, d1_cons, e_nil, e_cons, j_nil, j_cons, o_none, o_some, c_none, c_some, i_seq, i_rng1, i_rng2, i_zp, i_enm, i_keys, t_cmp, t_chain, t_and, t_or, t_not, t_var, t_ix, t_call, t_meth, t_isi, t_kin, t_fld, t_bf, s_nil, s_cons, s_pass, s_doc, s_brk, s_cnt, s_retN, s_expr, s_asg, s_asgL, s_asgT, s_par, s_asgI, s_asgF, s_augN, s_augF, s_ret, s_iff, s_whl, s_for, s_tryN, strR_str, Option.getD_some, Option.getD_none, Option.isSome_some, Option.isSome_none, mVar, gJc_ap, opN, opB, and_self, true_and, and_true, if_true, if_false, Bool.true_or, Bool.not_true, Bool.not_false, eq_self, isint_is hi, opC]
  cases decide (0 ≤ i) <;> rfl
theorem value_is {T : Tb} {f fi : Nat} (h : Is T f 1 1 (bValue fi)) (hi : Is T fi 1 1 bIsInt) (hg : T.glv.getD 0 .non = .int 999) {k fuel : Nat} {i : Int} {s : Sto} : (T.gam fuel (k + 2)).fn f [.int i] s = .ok (.bl (decide (-999 ≤ i) && decide (i ≤ 999))) s := by
  rw [h.call rfl]
  show (svs _ _ (bValue fi) [some (.int i)] s).fin = _
  unfold bValue
  simp only [fin_nx, fin_rt, fin_ex, ofO_some, ofO_none, asB_bl, asI_int, truR_bl, outS_some, outE_some, outO_some, R.bind_ok, R.bind_ex, R.bind_bad, R.to_ok, R.to_ex, R.to_bad, Out.seq_nx, Out.seq_rt, Out.seq_bk, Out.seq_ct, Out.seq_ex, Out.seq_bad, cond_true, cond_false, gam_gl, gam_ncls, gam_init, gam_kd, List.getElem?_cons_zero, List.getElem?_cons_succ, List.set_cons_zero, List.set_cons_succ, List.cons_append, List.nil_append, k2_ap, gBin_ap, gCmp_ap, gCmpT_ap, gNeg_ap, gCh3_ap, gCh2_ap, gCh_ap, gCh3T_ap, gCh2T_ap, gChT_ap, gAnd2_ap, gAnd_ap, gOr2_ap, gOr_ap, gNot2_ap, gNot_ap, gIte_ap, gIx_ap, gSl2_ap, gSl1_ap, gSl_ap, gRev_ap, gFld_ap, gMk2_ap, gMk_ap, gMt2_ap, gMt_ap, gBf_ap, gBm2_ap, gBm_ap, gIsi_ap, gLc_ap, gStr_ap, gKget_ap, gKin_ap, gCo2_ap, gCo_ap, gOs2_ap, gOs_ap, gRn1_ap, gRn3_ap, gRn2_ap, gRn_ap, gZp_ap, gAndT_ap, gOrT_ap, gNotT_ap, gJ_ap, sNx_ap, sSet_ap, sSetT_ap, sPar2_ap, sPar1_ap, sI3_ap, sI2_ap, sI1_ap, sF2_ap, sF1_ap, sN2_ap, sN1_ap, sA3_ap, sA2_ap, sA1_ap, sR_ap, sIff_ap, sFr_ap, e_var, e_cst, e_glob, e_bin, e_neg, e_cmp, e_chain, e_and, e_or, e_not, e_ite, e_ix, e_sl, e_rev, e_tup, e_lst, e_dnewK, e_dnewT, e_fld, e_call, e_make, e_meth, e_bf, e_bm, e_isi, e_lc, e_fst, e_fmt, e_kget, e_kin, gDk_ap, gDr_ap, gDv_ap, keyR_str, keyR_int, e_disp, d_nil, d_cons, d1_cons, e_nil, e_cons, j_nil, j_cons, o_none, o_some, c_none, c_some, i_seq, i_rng1, i_rng2, i_zp, i_enm, i_keys, t_cmp, t_chain, t_and, t_or, t_not, t_var, t_ix, t_call, t_meth, t_isi, t_kin, t_fld, t_bf, s_nil, s_cons, s_pass, s_doc, s_brk, s_cnt, s_retN, s_expr, s_asg, s_asgL, s_asgT, s_par, s_asgI, s_asgF, s_augN, s_augF, s_ret, s_iff, s_whl, s_for, s_tryN, strR_str, Option.getD_some, Option.getD_none, Option.isSome_some, Option.isSome_none, mVar, gJc_ap, opN, opB, and_self, true_and, and_true, if_true, if_false, Bool.true_or, Bool.not_true, Bool.not_false, eq_self, isint_is hi, opC, hg]
  cases decide (-999 ≤ i) <;> rfl
/-- a part is right -/
def okPart (kvs : List (Key × D)) (form : Str) (v : Int) : Prop := if form = "value" then -999 ≤ v ∧ v ≤ 999 else ∃ j, getG kvs (.inr form) = some (.int j) ∧ 0 ≤ v ∧ v < j
theorem ixO_dk {s : Sto} {r : Nat} {kvs : List (Key × D)} {x : Str} {d : D} (h : s.g r = .dk false kvs) (hx : getG kvs (.inr x) = some d) : ixO (.ref r) (.str x) s = some (d, s) := by
  have e1 : rdOf s r = none := by unfold rdOf; rw [h]
  have e2 : dgetO s r (.str x) = some (some d) := by
    unfold dgetO
    rw [h]
    exact congrArg some hx
  simp only [ixO, tupOf, e1, e2]
theorem part_is {T : Tb} {f fv fb fi : Nat} (h : Is T f 3 3 (bPart fv fb)) (hv : Is T fv 1 1 (bValue fi)) (hb : Is T fb 2 2 (bBelow fi)) (hi : Is T fi 1 1 bIsInt) (hg : T.glv.getD 0 .non = .int 999) {k fuel : Nat} {v : Int} {form : Str} {r : Nat} {kvs : List (Key × D)} {s : Sto}
    (hr : s.g r = .dk false kvs) (ok : okPart kvs form v) : (T.gam fuel (k + 3)).fn f [.int v, .str form, .ref r] s = .ok .non s := by
  rw [h.call rfl]
  show (svs _ _ (bPart fv fb) [some (.int v), some (.str form), some (.ref r)] s).fin = _
  unfold okPart at ok
  unfold bPart
  by_cases c : form = "value"
  · rw [if_pos c] at ok
    simp only [fin_nx, fin_rt, fin_ex, ofO_some, ofO_none, asB_bl, asI_int, truR_bl, outS_some, outE_some, outO_some, R.bind_ok, R.bind_ex, R.bind_bad, R.to_ok, R.to_ex, R.to_bad, Out.seq_nx, Out.seq_rt, Out.seq_bk, Out.seq_ct, Out.seq_ex, Out.seq_bad, cond_true, cond_false, gam_gl, gam_ncls, gam_init, gam_kd, List.getElem?_cons_zero, List.getElem?_cons_succ, List.set_cons_zero, List.set_cons_succ, List.cons_append, List.nil_append, k2_ap, gBin_ap, gCmp_ap, gCmpT_ap, gNeg_ap, gCh3_ap, gCh2_ap, gCh_ap, gCh3T_ap, gCh2T_ap, gChT_ap, gAnd2_ap, gAnd_ap, gOr2_ap, gOr_ap, gNot2_ap, gNot_ap, gIte_ap, gIx_ap, gSl2_ap, gSl1_ap, gSl_ap, gRev_ap, gFld_ap, gMk2_ap, gMk_ap, gMt2_ap, gMt_ap, gBf_ap, gBm2_ap, gBm_ap, gIsi_ap, gLc_ap, gStr_ap, gKget_ap, gKin_ap, gCo2_ap, gCo_ap, gOs2_ap, gOs_ap, gRn1_ap, gRn3_ap, gRn2_ap, gRn_ap, gZp_ap, gAndT_ap, gOrT_ap, gNotT_ap, gJ_ap, sNx_ap, sSet_ap, sSetT_ap, sPar2_ap, sPar1_ap, sI3_ap, sI2_ap, sI1_ap, sF2_ap, sF1_ap, sN2_ap, sN1_ap, sA3_ap, sA2_ap, sA1_ap, sR_ap, sIff_ap, sFr_ap, e_var, e_cst, e_glob, e_bin, e_neg, e_cmp, e_chain, e_and, e_or, e_not, e_ite, e_ix, e_sl, e_rev, e_tup, e_lst, e_dnewK, e_dnewT, e_fld, e_call, e_make, e_meth, e_bf, e_bm, e_isi, e_lc, e_fst, e_fmt, e_kget, e_kin, gDk_ap, gDr_ap, gDv_ap, keyR_str, keyR_int, e_disp, d_nil, d_cons, d1_cons, e_nil, e_cons, j_nil, j_cons, o_none, o_some, c_none, c_some, i_seq, i_rng1, i_rng2, i_zp, i_enm, i_keys, t_cmp, t_chain, t_and, t_or, t_not, t_var, t_ix, t_call, t_meth, t_isi, t_kin, t_fld, t_bf, s_nil, s_cons, s_pass, s_doc, s_brk, s_cnt, s_retN, s_expr, s_asg, s_asgL, s_asgT, s_par, s_asgI, s_asgF, s_augN, s_augF, s_ret, s_iff, s_whl, s_for, s_tryN, strR_str, Option.getD_some, Option.getD_none, Option.isSome_some, Option.isSome_none, mVar, gJc_ap, opN, opB, and_self, true_and, and_true, if_true, if_false, Bool.true_or, Bool.not_true, Bool.not_false, eq_self, str_eq, decide_eq_true c, value_is hv hi hg, decide_eq_true ok.1, decide_eq_true ok.2, Bool.and_self]
  · rw [if_neg c] at ok
    obtain ⟨j, h1, h2, h3⟩ := ok
    simp only [fin_nx, fin_rt, fin_ex, ofO_some, ofO_none, asB_bl, asI_int, truR_bl, outS_some, outE_some, outO_some, R.bind_ok, R.bind_ex, R.bind_bad, R.to_ok, R.to_ex, R.to_bad, Out.seq_nx, Out.seq_rt, Out.seq_bk, Out.seq_ct, Out.seq_ex, Out.seq_bad, cond_true, cond_false, gam_gl, gam_ncls, gam_init, gam_kd, List.getElem?_cons_zero, List.getElem?_cons_succ, List.set_cons_zero, List.set_cons_succ, List.cons_append, List.nil_append, k2_ap, gBin_ap, gCmp_ap, gCmpT_ap, gNeg_ap, gCh3_ap, gCh2_ap, gCh_ap, gCh3T_ap, gCh2T_ap, gChT_ap, gAnd2_ap, gAnd_ap, gOr2_ap, gOr_ap, gNot2_ap, gNot_ap, gIte_ap, gIx_ap, gSl2_ap, gSl1_ap, gSl_ap, gRev_ap, gFld_ap, gMk2_ap, gMk_ap, gMt2_ap, gMt_ap, gBf_ap, gBm2_ap, gBm_ap, gIsi_ap, gLc_ap, gStr_ap, gKget_ap, gKin_ap, gCo2_ap, gCo_ap, gOs2_ap, gOs_ap, gRn1_ap, gRn3_ap, gRn2_ap, gRn_ap, gZp_ap, gAndT_ap, gOrT_ap, gNotT_ap, gJ_ap, sNx_ap, sSet_ap, sSetT_ap, sPar2_ap, sPar1_ap, sI3_ap, sI2_ap, sI1_ap, sF2_ap, sF1_ap, sN2_ap, sN1_ap, sA3_ap, sA2_ap, sA1_ap, sR_ap, sIff_ap, sFr_ap, e_var, e_cst, e_glob, e_bin, e_neg, e_cmp, e_chain, e_and, e_or, e_not, e_ite, e_ix, e_sl, e_rev, e_tup, e_lst, e_dnewK, e_dnewT, e_fld, e_call, e_make, e_meth, e_bf, e_bm, e_isi, e_lc, e_fst, e_fmt, e_kget, e_kin, gDk_ap, gDr_ap, gDv_ap, keyR_str, keyR_int, e_disp, d_nil, d_cons, d1_cons, e_nil, e_cons, j_nil, j_cons, o_none, o_some, c_none, c_some, i_seq, i_rng1, i_rng2, i_zp, i_enm, i_keys, t_cmp, t_chain, t_and, t_or, t_not, t_var, t_ix, t_call, t_meth, t_isi, t_kin, t_fld, t_bf, s_nil, s_cons, s_pass, s_doc, s_brk, s_cnt, s_retN, s_expr, s_asg, s_asgL, s_asgT, s_par, s_asgI, s_asgF, s_augN, s_augF, s_ret, s_iff, s_whl, s_for, s_tryN, strR_str, Option.getD_some, Option.getD_none, Option.isSome_some, Option.isSome_none, mVar, gJc_ap, opN, opB, and_self, true_and, and_true, if_true, if_false, Bool.true_or, Bool.not_true, Bool.not_false, eq_self, str_eq, decide_eq_false c, ixO_dk hr h1, below_is hb hi, decide_eq_true h2, decide_eq_true h3, Bool.and_self]
/-- xs[j:] -/
theorem cut_from {xs : List D} {j : Nat} (h : j ≤ xs.length) : cutD xs (some (j : Int)) none = xs.drop j := by
  unfold cutD
  have e1 : HT.sIx xs.length 0 (some (j : Int)) = j := by
    rw [HT.sIx_nat, Nat.min_eq_left h]
  have e2 : HT.sIx xs.length xs.length none = xs.length := rfl
  rw [e1, e2]
  exact List.take_of_length_le (by simp)
def bInstr (fp : Nat) : Sts := .cons (.iff (.or (.not (.isi (.var 0) "tuple")) (.or (.not (.var 0)) (.not (.isi (.ix (.var 0) (.cst (.int 0))) "str")))) (.cons (.never) (.nil)) (.nil)) (.cons (.asg 3 (.kget 0 (.ix (.var 0) (.cst (.int 0))))) (.cons (.iff (.or (.cmp .is (.var 3) (.cst (.non))) (.cmp .ne (.bf .len (.cons (.var 3) (.nil))) (.bin .sub (.bf .len (.cons (.var 0) (.nil))) (.cst (.int 1))))) (.cons (.never) (.nil)) (.nil)) (.cons (.for_ (.tp (.cons (.nm 4) (.cons (.nm 5) (.nil)))) (.zp (.sl (.var 0) (.some (.cst (.int 1))) .none) (.var 3)) (.cons (.expr (.call fp (.cons (.var 4) (.cons (.var 5) (.cons (.var 1) (.nil)))))) (.cons (.iff (.and (.cmp .eq (.var 5) (.cst (.str "variable"))) (.and (.ix (.ix (.var 2) (.var 4)) (.cst (.int 1))) (.cmp .nin (.ix (.var 0) (.cst (.int 0))) (.tup (.cons (.cst (.str "load")) (.cons (.cst (.str "store")) (.nil))))))) (.cons (.never) (.nil)) (.nil)) (.nil)))) (.nil))))
def eIns (w : Str) (ps : List Int) : D := .tup (.str w :: ps.map .int)
def eVar (v : Int × Bool) : D := .tup [.int v.1, .bl v.2]
theorem instr_is {T : Tb} {f fp : Nat} (h : Is T f 6 3 (bInstr fp)) {k fuel : Nat} {w : Str} {ps : List Int} {forms : List Str} {vars : List (Int × Bool)} {r : Nat} {s : Sto}
    (hf : (T.kdv.getD 0 []).lookup w = some (.kt (forms.map .str))) (hl : ps.length = forms.length) (hs : ps.length < 1000)
    (hp : ∀ i (h1 : i < ps.length) (h2 : i < forms.length), (T.gam fuel k).fn fp [.int ps[i], .str forms[i], .ref r] s = .ok .non s)
    (hv : ∀ i (h1 : i < ps.length) (h2 : i < forms.length), forms[i] = "variable" → ∃ (j : Nat) (v : Int × Bool), ps[i] = (j : Int) ∧ vars[j]? = some v ∧ (v.2 = true → w = "load" ∨ w = "store")) :
    (T.gam fuel (k + 1)).fn f [eIns w ps, .ref r, .tup (vars.map eVar)] s = .ok .non s := by
  rw [h.call rfl]
  show (svs _ _ (bInstr fp) [some (eIns w ps), some (.ref r), some (.tup (vars.map eVar)), none, none, none] s).fin = _
  have t0 : tupOf (eIns w ps) = some (.str w :: ps.map .int) := rfl
  have t1 := ty_tup (s := s) t0
  have x0 : ixO (eIns w ps) (.int 0) s = some (.str w, s) := ixO_tup t0 (atI_nat (j := 0) rfl)
  have t2 : tyName (.str w) s = some "str" := rfl
  have tr : truR (eIns w ps) s = .ok true s := rfl
  have l0 := len_tup (s := s) t0
  have l1 := len_tup (s := s) (d := .kt (forms.map .str)) rfl
  have i0 : opC .is (.kt (forms.map .str)) .non s = some (.bl false, s) := rfl
  have n0 : opC .ne (.int ((forms.map D.str).length : Nat)) (.int (((D.str w :: ps.map D.int).length : Nat) - 1)) s = some (.bl false, s) := by
    rw [ne_int]
    have : (((forms.map D.str).length : Nat) : Int) = ((D.str w :: ps.map D.int).length : Nat) - 1 := by simp [hl]
    rw [this, beq_self_eq_true]; rfl
  have c0 : slO (eIns w ps) (some 1) none s = some (.tup (ps.map .int), s) := by
    show some (D.tup (cutD (D.str w :: ps.map D.int) (some 1) none), s) = _
    have := cut_from (xs := .str w :: ps.map D.int) (j := 1) (by simp)
    exact congrArg (fun l => some (D.tup l, s)) this
  have z0 : zipR (.tup (ps.map .int)) (.kt (forms.map .str)) s = .ok (.zpT (ps.map .int) (forms.map .str)) s := rfl
  unfold bInstr
  simp only [fin_nx, fin_rt, fin_ex, ofO_some, ofO_none, asB_bl, asI_int, truR_bl, outS_some, outE_some, outO_some, R.bind_ok, R.bind_ex, R.bind_bad, R.to_ok, R.to_ex, R.to_bad, Out.seq_nx, Out.seq_rt, Out.seq_bk, Out.seq_ct, Out.seq_ex, Out.seq_bad, cond_true, cond_false, gam_gl, gam_ncls, gam_init, gam_kd, List.getElem?_cons_zero, List.getElem?_cons_succ, List.set_cons_zero, List.set_cons_succ, List.cons_append, List.nil_append, k2_ap, gBin_ap, gCmp_ap, gCmpT_ap, gNeg_ap, gCh3_ap, gCh2_ap, gCh_ap, gCh3T_ap, gCh2T_ap, gChT_ap, gAnd2_ap, gAnd_ap, gOr2_ap, gOr_ap, gNot2_ap, gNot_ap, gIte_ap, gIx_ap, gSl2_ap, gSl1_ap, gSl_ap, gRev_ap, gFld_ap, gMk2_ap, gMk_ap, gMt2_ap, gMt_ap, gBf_ap, gBm2_ap, gBm_ap, gIsi_ap, gLc_ap, gStr_ap, gKget_ap, gKin_ap, gCo2_ap, gCo_ap, gOs2_ap, gOs_ap, gRn1_ap, gRn3_ap, gRn2_ap, gRn_ap, gZp_ap, gAndT_ap, gOrT_ap, gNotT_ap, gJ_ap, sNx_ap, sSet_ap, sSetT_ap, sPar2_ap, sPar1_ap, sI3_ap, sI2_ap, sI1_ap, sF2_ap, sF1_ap, sN2_ap, sN1_ap, sA3_ap, sA2_ap, sA1_ap, sR_ap, sIff_ap, sFr_ap, e_var, e_cst, e_glob, e_bin, e_neg, e_cmp, e_chain, e_and, e_or, e_not, e_ite, e_ix, e_sl, e_rev, e_tup, e_lst, e_dnewK, e_dnewT, e_fld, e_call, e_make, e_meth, e_bf, e_bm, e_isi, e_lc, e_fst, e_fmt, e_kget, e_kin, gDk_ap, gDr_ap, gDv_ap, keyR_str, keyR_int, e_disp, d_nil, d_cons, d1_cons, e_nil, e_cons, j_nil, j_cons, o_none, o_some, c_none, c_some, i_seq, i_rng1, i_rng2, i_zp, i_enm, i_keys, t_cmp, t_chain, t_and, t_or, t_not, t_var, t_ix, t_call, t_meth, t_isi, t_kin, t_fld, t_bf, s_nil, s_cons, s_pass, s_doc, s_brk, s_cnt, s_retN, s_expr, s_asg, s_asgL, s_asgT, s_par, s_asgI, s_asgF, s_augN, s_augF, s_ret, s_iff, s_whl, s_for, s_tryN, strR_str, Option.getD_some, Option.getD_none, Option.isSome_some, Option.isSome_none, mVar, gJc_ap, opN, opB, and_self, true_and, and_true, if_true, if_false, Bool.true_or, Bool.not_true, Bool.not_false, eq_self, isi_of (T := "tuple") t1 rfl, x0, isi_of (T := "str") t2 rfl, tr, hf, l0, l1, i0, n0, c0, z0]
  generalize hX : fLoop _ _ _ _ _ _ _ = o
  refine for_c hX ps.length (fun j ρ s1 => s1 = s ∧ ∃ c d, ρ = [some (eIns w ps), some (.ref r), some (.tup (vars.map eVar)), some (.kt (forms.map .str)), c, d]) ⟨rfl, none, none, rfl⟩ (Nat.zero_le _) ?_ ?_ ?_ ?_
  · show ps.length - 0 < (ps.map D.int).length + 1
    simp
  · rintro j ρ s1 hj ⟨rfl, c, d, rfl⟩
    have hj2 : j < forms.length := hl ▸ hj
    refine ⟨.tup [.int ps[j], .str forms[j]], _, by simp [sItem, pairO, hj, hj2], rfl, ?_⟩
    show ∃ ρ2 s3, (svs _ _ _ [some (eIns w ps), some (.ref r), some (.tup (vars.map eVar)), some (.kt (forms.map .str)), some (.int ps[j]), some (.str forms[j])] s1 = .nx ρ2 s3 ∨ svs _ _ _ [some (eIns w ps), some (.ref r), some (.tup (vars.map eVar)), some (.kt (forms.map .str)), some (.int ps[j]), some (.str forms[j])] s1 = .ct ρ2 s3) ∧ _
    by_cases cv : forms[j] = "variable"
    · obtain ⟨q, v, e1, e2, e3⟩ := hv j hj hj2 cv
      have x1 : ixO (.tup (vars.map eVar)) (.int ps[j]) s1 = some (eVar v, s1) := ixO_tup rfl (by rw [e1]; exact atI_nat (by simp [e2]))
      have x2 : ixO (eVar v) (.int 1) s1 = some (.bl v.2, s1) := ixO_tup rfl (atI_nat (j := 1) rfl)
      have u0 : tupR [.str "load", .str "store"] s1 = .ok (.tup [.str "load", .str "store"]) s1 := rfl
      simp only [fin_nx, fin_rt, fin_ex, ofO_some, ofO_none, asB_bl, asI_int, truR_bl, outS_some, outE_some, outO_some, R.bind_ok, R.bind_ex, R.bind_bad, R.to_ok, R.to_ex, R.to_bad, Out.seq_nx, Out.seq_rt, Out.seq_bk, Out.seq_ct, Out.seq_ex, Out.seq_bad, cond_true, cond_false, gam_gl, gam_ncls, gam_init, gam_kd, List.getElem?_cons_zero, List.getElem?_cons_succ, List.set_cons_zero, List.set_cons_succ, List.cons_append, List.nil_append, k2_ap, gBin_ap, gCmp_ap, gCmpT_ap, gNeg_ap, gCh3_ap, gCh2_ap, gCh_ap, gCh3T_ap, gCh2T_ap, gChT_ap, gAnd2_ap, gAnd_ap, gOr2_ap, gOr_ap, gNot2_ap, gNot_ap, gIte_ap, gIx_ap, gSl2_ap, gSl1_ap, gSl_ap, gRev_ap, gFld_ap, gMk2_ap, gMk_ap, gMt2_ap, gMt_ap, gBf_ap, gBm2_ap, gBm_ap, gIsi_ap, gLc_ap, gStr_ap, gKget_ap, gKin_ap, gCo2_ap, gCo_ap, gOs2_ap, gOs_ap, gRn1_ap, gRn3_ap, gRn2_ap, gRn_ap, gZp_ap, gAndT_ap, gOrT_ap, gNotT_ap, gJ_ap, sNx_ap, sSet_ap, sSetT_ap, sPar2_ap, sPar1_ap, sI3_ap, sI2_ap, sI1_ap, sF2_ap, sF1_ap, sN2_ap, sN1_ap, sA3_ap, sA2_ap, sA1_ap, sR_ap, sIff_ap, sFr_ap, e_var, e_cst, e_glob, e_bin, e_neg, e_cmp, e_chain, e_and, e_or, e_not, e_ite, e_ix, e_sl, e_rev, e_tup, e_lst, e_dnewK, e_dnewT, e_fld, e_call, e_make, e_meth, e_bf, e_bm, e_isi, e_lc, e_fst, e_fmt, e_kget, e_kin, gDk_ap, gDr_ap, gDv_ap, keyR_str, keyR_int, e_disp, d_nil, d_cons, d1_cons, e_nil, e_cons, j_nil, j_cons, o_none, o_some, c_none, c_some, i_seq, i_rng1, i_rng2, i_zp, i_enm, i_keys, t_cmp, t_chain, t_and, t_or, t_not, t_var, t_ix, t_call, t_meth, t_isi, t_kin, t_fld, t_bf, s_nil, s_cons, s_pass, s_doc, s_brk, s_cnt, s_retN, s_expr, s_asg, s_asgL, s_asgT, s_par, s_asgI, s_asgF, s_augN, s_augF, s_ret, s_iff, s_whl, s_for, s_tryN, strR_str, Option.getD_some, Option.getD_none, Option.isSome_some, Option.isSome_none, mVar, gJc_ap, opN, opB, and_self, true_and, and_true, if_true, if_false, Bool.true_or, Bool.not_true, Bool.not_false, eq_self, hp j hj hj2, str_eq, decide_eq_true cv, x0, x1, x2, u0]
      cases hb : v.2 with
      | false =>
        simp only [fin_nx, fin_rt, fin_ex, ofO_some, ofO_none, asB_bl, asI_int, truR_bl, outS_some, outE_some, outO_some, R.bind_ok, R.bind_ex, R.bind_bad, R.to_ok, R.to_ex, R.to_bad, Out.seq_nx, Out.seq_rt, Out.seq_bk, Out.seq_ct, Out.seq_ex, Out.seq_bad, cond_true, cond_false, gam_gl, gam_ncls, gam_init, gam_kd, List.getElem?_cons_zero, List.getElem?_cons_succ, List.set_cons_zero, List.set_cons_succ, List.cons_append, List.nil_append, k2_ap, gBin_ap, gCmp_ap, gCmpT_ap, gNeg_ap, gCh3_ap, gCh2_ap, gCh_ap, gCh3T_ap, gCh2T_ap, gChT_ap, gAnd2_ap, gAnd_ap, gOr2_ap, gOr_ap, gNot2_ap, gNot_ap, gIte_ap, gIx_ap, gSl2_ap, gSl1_ap, gSl_ap, gRev_ap, gFld_ap, gMk2_ap, gMk_ap, gMt2_ap, gMt_ap, gBf_ap, gBm2_ap, gBm_ap, gIsi_ap, gLc_ap, gStr_ap, gKget_ap, gKin_ap, gCo2_ap, gCo_ap, gOs2_ap, gOs_ap, gRn1_ap, gRn3_ap, gRn2_ap, gRn_ap, gZp_ap, gAndT_ap, gOrT_ap, gNotT_ap, gJ_ap, sNx_ap, sSet_ap, sSetT_ap, sPar2_ap, sPar1_ap, sI3_ap, sI2_ap, sI1_ap, sF2_ap, sF1_ap, sN2_ap, sN1_ap, sA3_ap, sA2_ap, sA1_ap, sR_ap, sIff_ap, sFr_ap, e_var, e_cst, e_glob, e_bin, e_neg, e_cmp, e_chain, e_and, e_or, e_not, e_ite, e_ix, e_sl, e_rev, e_tup, e_lst, e_dnewK, e_dnewT, e_fld, e_call, e_make, e_meth, e_bf, e_bm, e_isi, e_lc, e_fst, e_fmt, e_kget, e_kin, gDk_ap, gDr_ap, gDv_ap, keyR_str, keyR_int, e_disp, d_nil, d_cons, d1_cons, e_nil, e_cons, j_nil, j_cons, o_none, o_some, c_none, c_some, i_seq, i_rng1, i_rng2, i_zp, i_enm, i_keys, t_cmp, t_chain, t_and, t_or, t_not, t_var, t_ix, t_call, t_meth, t_isi, t_kin, t_fld, t_bf, s_nil, s_cons, s_pass, s_doc, s_brk, s_cnt, s_retN, s_expr, s_asg, s_asgL, s_asgT, s_par, s_asgI, s_asgF, s_augN, s_augF, s_ret, s_iff, s_whl, s_for, s_tryN, strR_str, Option.getD_some, Option.getD_none, Option.isSome_some, Option.isSome_none, mVar, gJc_ap, opN, opB, and_self, true_and, and_true, if_true, if_false, Bool.true_or, Bool.not_true, Bool.not_false, eq_self]
        exact ⟨_, _, .inl rfl, rfl, _, _, rfl⟩
      | true =>
        have m0 : opC .nin (.str w) (.tup [.str "load", .str "store"]) s1 = some (.bl false, s1) := by
          rcases e3 hb with rfl | rfl <;> rfl
        simp only [fin_nx, fin_rt, fin_ex, ofO_some, ofO_none, asB_bl, asI_int, truR_bl, outS_some, outE_some, outO_some, R.bind_ok, R.bind_ex, R.bind_bad, R.to_ok, R.to_ex, R.to_bad, Out.seq_nx, Out.seq_rt, Out.seq_bk, Out.seq_ct, Out.seq_ex, Out.seq_bad, cond_true, cond_false, gam_gl, gam_ncls, gam_init, gam_kd, List.getElem?_cons_zero, List.getElem?_cons_succ, List.set_cons_zero, List.set_cons_succ, List.cons_append, List.nil_append, k2_ap, gBin_ap, gCmp_ap, gCmpT_ap, gNeg_ap, gCh3_ap, gCh2_ap, gCh_ap, gCh3T_ap, gCh2T_ap, gChT_ap, gAnd2_ap, gAnd_ap, gOr2_ap, gOr_ap, gNot2_ap, gNot_ap, gIte_ap, gIx_ap, gSl2_ap, gSl1_ap, gSl_ap, gRev_ap, gFld_ap, gMk2_ap, gMk_ap, gMt2_ap, gMt_ap, gBf_ap, gBm2_ap, gBm_ap, gIsi_ap, gLc_ap, gStr_ap, gKget_ap, gKin_ap, gCo2_ap, gCo_ap, gOs2_ap, gOs_ap, gRn1_ap, gRn3_ap, gRn2_ap, gRn_ap, gZp_ap, gAndT_ap, gOrT_ap, gNotT_ap, gJ_ap, sNx_ap, sSet_ap, sSetT_ap, sPar2_ap, sPar1_ap, sI3_ap, sI2_ap, sI1_ap, sF2_ap, sF1_ap, sN2_ap, sN1_ap, sA3_ap, sA2_ap, sA1_ap, sR_ap, sIff_ap, sFr_ap, e_var, e_cst, e_glob, e_bin, e_neg, e_cmp, e_chain, e_and, e_or, e_not, e_ite, e_ix, e_sl, e_rev, e_tup, e_lst, e_dnewK, e_dnewT, e_fld, e_call, e_make, e_meth, e_bf, e_bm, e_isi, e_lc, e_fst, e_fmt, e_kget, e_kin, gDk_ap, gDr_ap, gDv_ap, keyR_str, keyR_int, e_disp, d_nil, d_cons, d1_cons, e_nil, e_cons, j_nil, j_cons, o_none, o_some, c_none, c_some, i_seq, i_rng1, i_rng2, i_zp, i_enm, i_keys, t_cmp, t_chain, t_and, t_or, t_not, t_var, t_ix, t_call, t_meth, t_isi, t_kin, t_fld, t_bf, s_nil, s_cons, s_pass, s_doc, s_brk, s_cnt, s_retN, s_expr, s_asg, s_asgL, s_asgT, s_par, s_asgI, s_asgF, s_augN, s_augF, s_ret, s_iff, s_whl, s_for, s_tryN, strR_str, Option.getD_some, Option.getD_none, Option.isSome_some, Option.isSome_none, mVar, gJc_ap, opN, opB, and_self, true_and, and_true, if_true, if_false, Bool.true_or, Bool.not_true, Bool.not_false, eq_self, x0, m0, u0]
        exact ⟨_, _, .inl rfl, rfl, _, _, rfl⟩
    · simp only [fin_nx, fin_rt, fin_ex, ofO_some, ofO_none, asB_bl, asI_int, truR_bl, outS_some, outE_some, outO_some, R.bind_ok, R.bind_ex, R.bind_bad, R.to_ok, R.to_ex, R.to_bad, Out.seq_nx, Out.seq_rt, Out.seq_bk, Out.seq_ct, Out.seq_ex, Out.seq_bad, cond_true, cond_false, gam_gl, gam_ncls, gam_init, gam_kd, List.getElem?_cons_zero, List.getElem?_cons_succ, List.set_cons_zero, List.set_cons_succ, List.cons_append, List.nil_append, k2_ap, gBin_ap, gCmp_ap, gCmpT_ap, gNeg_ap, gCh3_ap, gCh2_ap, gCh_ap, gCh3T_ap, gCh2T_ap, gChT_ap, gAnd2_ap, gAnd_ap, gOr2_ap, gOr_ap, gNot2_ap, gNot_ap, gIte_ap, gIx_ap, gSl2_ap, gSl1_ap, gSl_ap, gRev_ap, gFld_ap, gMk2_ap, gMk_ap, gMt2_ap, gMt_ap, gBf_ap, gBm2_ap, gBm_ap, gIsi_ap, gLc_ap, gStr_ap, gKget_ap, gKin_ap, gCo2_ap, gCo_ap, gOs2_ap, gOs_ap, gRn1_ap, gRn3_ap, gRn2_ap, gRn_ap, gZp_ap, gAndT_ap, gOrT_ap, gNotT_ap, gJ_ap, sNx_ap, sSet_ap, sSetT_ap, sPar2_ap, sPar1_ap, sI3_ap, sI2_ap, sI1_ap, sF2_ap, sF1_ap, sN2_ap, sN1_ap, sA3_ap, sA2_ap, sA1_ap, sR_ap, sIff_ap, sFr_ap, e_var, e_cst, e_glob, e_bin, e_neg, e_cmp, e_chain, e_and, e_or, e_not, e_ite, e_ix, e_sl, e_rev, e_tup, e_lst, e_dnewK, e_dnewT, e_fld, e_call, e_make, e_meth, e_bf, e_bm, e_isi, e_lc, e_fst, e_fmt, e_kget, e_kin, gDk_ap, gDr_ap, gDv_ap, keyR_str, keyR_int, e_disp, d_nil, d_cons, d1_cons, e_nil, e_cons, j_nil, j_cons, o_none, o_some, c_none, c_some, i_seq, i_rng1, i_rng2, i_zp, i_enm, i_keys, t_cmp, t_chain, t_and, t_or, t_not, t_var, t_ix, t_call, t_meth, t_isi, t_kin, t_fld, t_bf, s_nil, s_cons, s_pass, s_doc, s_brk, s_cnt, s_retN, s_expr, s_asg, s_asgL, s_asgT, s_par, s_asgI, s_asgF, s_augN, s_augF, s_ret, s_iff, s_whl, s_for, s_tryN, strR_str, Option.getD_some, Option.getD_none, Option.isSome_some, Option.isSome_none, mVar, gJc_ap, opN, opB, and_self, true_and, and_true, if_true, if_false, Bool.true_or, Bool.not_true, Bool.not_false, eq_self, hp j hj hj2, str_eq, decide_eq_false cv]
      exact ⟨_, _, .inl rfl, rfl, _, _, rfl⟩
  · rintro ρ s1 _
    simp [sItem, pairO]
  · rintro ρ' s' ⟨rfl, c, d, rfl⟩ rfl
    rfl
def bVars (fv : Nat) : Sts := .cons (.iff (.or (.not (.isi (.var 0) "tuple")) (.cmp .gt (.bf .len (.cons (.var 0) (.nil))) (.glob 1))) (.cons (.never) (.nil)) (.nil)) (.cons (.for_ (.nm 1) (.seq (.var 0)) (.cons (.iff (.or (.not (.isi (.var 1) "tuple")) (.cmp .ne (.bf .len (.cons (.var 1) (.nil))) (.cst (.int 2)))) (.cons (.never) (.nil)) (.nil)) (.cons (.iff (.or (.not (.call fv (.cons (.ix (.var 1) (.cst (.int 0))) (.nil)))) (.not (.isi (.ix (.var 1) (.cst (.int 1))) "bool"))) (.cons (.never) (.nil)) (.nil)) (.nil)))) (.nil))
def bThr (fb fv : Nat) : Sts := .cons (.iff (.or (.not (.isi (.var 0) "tuple")) (.not (.chain .le .le (.cst (.int 1)) (.bf .len (.cons (.var 0) (.nil))) (.glob 5)))) (.cons (.never) (.nil)) (.nil)) (.cons (.for_ (.nm 2) (.seq (.var 0)) (.cons (.iff (.or (.not (.isi (.var 2) "tuple")) (.cmp .ne (.bf .len (.cons (.var 2) (.nil))) (.cst (.int 2)))) (.cons (.never) (.nil)) (.nil)) (.cons (.iff (.or (.not (.call fb (.cons (.ix (.var 2) (.cst (.int 0))) (.cons (.var 1) (.nil))))) (.not (.call fv (.cons (.ix (.var 2) (.cst (.int 1))) (.nil))))) (.cons (.never) (.nil)) (.nil)) (.nil)))) (.nil))
def eThr (t : Int × Int) : D := .tup [.int t.1, .int t.2]
theorem vars_is {T : Tb} {f fv fi : Nat} (h : Is T f 2 1 (bVars fv)) (hv : Is T fv 1 1 (bValue fi)) (hi : Is T fi 1 1 bIsInt) (g0 : T.glv.getD 0 .non = .int 999) (g1 : T.glv.getD 1 .non = .int 4) {k fuel : Nat} {vars : List (Int × Bool)} {s : Sto}
    (hl : vars.length ≤ 4) (ok : ∀ v ∈ vars, -999 ≤ v.1 ∧ v.1 ≤ 999) : (T.gam fuel (k + 3)).fn f [.tup (vars.map eVar)] s = .ok .non s := by
  rw [h.call rfl]
  show (svs _ _ (bVars fv) [some (.tup (vars.map eVar)), none] s).fin = _
  have t0 : tupOf (.tup (vars.map eVar)) = some (vars.map eVar) := rfl
  have t1 := ty_tup (s := s) t0
  have l0 := len_tup (s := s) t0
  have g2 : opC .gt (.int ((vars.map eVar).length : Nat)) (.int 4) s = some (.bl false, s) := by
    show some (D.bl (decide _), s) = _
    rw [decide_eq_false (by rw [List.length_map]; omega)]
  have s0 : srcR (.tup (vars.map eVar)) s = .ok (.fix (vars.map eVar)) s := rfl
  unfold bVars
  simp only [fin_nx, fin_rt, fin_ex, ofO_some, ofO_none, asB_bl, asI_int, truR_bl, outS_some, outE_some, outO_some, R.bind_ok, R.bind_ex, R.bind_bad, R.to_ok, R.to_ex, R.to_bad, Out.seq_nx, Out.seq_rt, Out.seq_bk, Out.seq_ct, Out.seq_ex, Out.seq_bad, cond_true, cond_false, gam_gl, gam_ncls, gam_init, gam_kd, List.getElem?_cons_zero, List.getElem?_cons_succ, List.set_cons_zero, List.set_cons_succ, List.cons_append, List.nil_append, k2_ap, gBin_ap, gCmp_ap, gCmpT_ap, gNeg_ap, gCh3_ap, gCh2_ap, gCh_ap, gCh3T_ap, gCh2T_ap, gChT_ap, gAnd2_ap, gAnd_ap, gOr2_ap, gOr_ap, gNot2_ap, gNot_ap, gIte_ap, gIx_ap, gSl2_ap, gSl1_ap, gSl_ap, gRev_ap, gFld_ap, gMk2_ap, gMk_ap, gMt2_ap, gMt_ap, gBf_ap, gBm2_ap, gBm_ap, gIsi_ap, gLc_ap, gStr_ap, gKget_ap, gKin_ap, gCo2_ap, gCo_ap, gOs2_ap, gOs_ap, gRn1_ap, gRn3_ap, gRn2_ap, gRn_ap, gZp_ap, gAndT_ap, gOrT_ap, gNotT_ap, gJ_ap, sNx_ap, sSet_ap, sSetT_ap, sPar2_ap, sPar1_ap, sI3_ap, sI2_ap, sI1_ap, sF2_ap, sF1_ap, sN2_ap, sN1_ap, sA3_ap, sA2_ap, sA1_ap, sR_ap, sIff_ap, sFr_ap, e_var, e_cst, e_glob, e_bin, e_neg, e_cmp, e_chain, e_and, e_or, e_not, e_ite, e_ix, e_sl, e_rev, e_tup, e_lst, e_dnewK, e_dnewT, e_fld, e_call, e_make, e_meth, e_bf, e_bm, e_isi, e_lc, e_fst, e_fmt, e_kget, e_kin, gDk_ap, gDr_ap, gDv_ap, keyR_str, keyR_int, e_disp, d_nil, d_cons, d1_cons, e_nil, e_cons, j_nil, j_cons, o_none, o_some, c_none, c_some, i_seq, i_rng1, i_rng2, i_zp, i_enm, i_keys, t_cmp, t_chain, t_and, t_or, t_not, t_var, t_ix, t_call, t_meth, t_isi, t_kin, t_fld, t_bf, s_nil, s_cons, s_pass, s_doc, s_brk, s_cnt, s_retN, s_expr, s_asg, s_asgL, s_asgT, s_par, s_asgI, s_asgF, s_augN, s_augF, s_ret, s_iff, s_whl, s_for, s_tryN, strR_str, Option.getD_some, Option.getD_none, Option.isSome_some, Option.isSome_none, mVar, gJc_ap, opN, opB, and_self, true_and, and_true, if_true, if_false, Bool.true_or, Bool.not_true, Bool.not_false, eq_self, isi_of (T := "tuple") t1 rfl, l0, g1, g2, s0]
  generalize hX : fLoop _ _ _ _ _ _ _ = o
  refine for_c hX vars.length (fun j ρ s1 => s1 = s ∧ ∃ c, ρ = [some (.tup (vars.map eVar)), c]) ⟨rfl, none, rfl⟩ (Nat.zero_le _) ?_ ?_ ?_ ?_
  · show vars.length - 0 < (vars.map eVar).length + 1
    simp
  · rintro j ρ s1 hj ⟨rfl, c, rfl⟩
    refine ⟨eVar vars[j], _, by simp [sItem, hj], rfl, ?_⟩
    show ∃ ρ2 s3, (svs _ _ _ [some (.tup (vars.map eVar)), some (eVar vars[j])] s1 = .nx ρ2 s3 ∨ svs _ _ _ [some (.tup (vars.map eVar)), some (eVar vars[j])] s1 = .ct ρ2 s3) ∧ _
    obtain ⟨o1, o2⟩ := ok vars[j] (List.getElem_mem hj)
    have u0 : tupOf (eVar vars[j]) = some [.int vars[j].1, .bl vars[j].2] := rfl
    have u1 := ty_tup (s := s1) u0
    have u2 : fO .len [eVar vars[j]] s1 = some (.int 2, s1) := len_tup u0
    have u3 : ixO (eVar vars[j]) (.int 0) s1 = some (.int vars[j].1, s1) := ixO_tup u0 (atI_nat (j := 0) rfl)
    have u4 : ixO (eVar vars[j]) (.int 1) s1 = some (.bl vars[j].2, s1) := ixO_tup u0 (atI_nat (j := 1) rfl)
    have u5 : opC .ne (.int 2) (.int 2) s1 = some (.bl false, s1) := rfl
    have u6 : tyName (.bl vars[j].2) s1 = some "bool" := rfl
    simp only [fin_nx, fin_rt, fin_ex, ofO_some, ofO_none, asB_bl, asI_int, truR_bl, outS_some, outE_some, outO_some, R.bind_ok, R.bind_ex, R.bind_bad, R.to_ok, R.to_ex, R.to_bad, Out.seq_nx, Out.seq_rt, Out.seq_bk, Out.seq_ct, Out.seq_ex, Out.seq_bad, cond_true, cond_false, gam_gl, gam_ncls, gam_init, gam_kd, List.getElem?_cons_zero, List.getElem?_cons_succ, List.set_cons_zero, List.set_cons_succ, List.cons_append, List.nil_append, k2_ap, gBin_ap, gCmp_ap, gCmpT_ap, gNeg_ap, gCh3_ap, gCh2_ap, gCh_ap, gCh3T_ap, gCh2T_ap, gChT_ap, gAnd2_ap, gAnd_ap, gOr2_ap, gOr_ap, gNot2_ap, gNot_ap, gIte_ap, gIx_ap, gSl2_ap, gSl1_ap, gSl_ap, gRev_ap, gFld_ap, gMk2_ap, gMk_ap, gMt2_ap, gMt_ap, gBf_ap, gBm2_ap, gBm_ap, gIsi_ap, gLc_ap, gStr_ap, gKget_ap, gKin_ap, gCo2_ap, gCo_ap, gOs2_ap, gOs_ap, gRn1_ap, gRn3_ap, gRn2_ap, gRn_ap, gZp_ap, gAndT_ap, gOrT_ap, gNotT_ap, gJ_ap, sNx_ap, sSet_ap, sSetT_ap, sPar2_ap, sPar1_ap, sI3_ap, sI2_ap, sI1_ap, sF2_ap, sF1_ap, sN2_ap, sN1_ap, sA3_ap, sA2_ap, sA1_ap, sR_ap, sIff_ap, sFr_ap, e_var, e_cst, e_glob, e_bin, e_neg, e_cmp, e_chain, e_and, e_or, e_not, e_ite, e_ix, e_sl, e_rev, e_tup, e_lst, e_dnewK, e_dnewT, e_fld, e_call, e_make, e_meth, e_bf, e_bm, e_isi, e_lc, e_fst, e_fmt, e_kget, e_kin, gDk_ap, gDr_ap, gDv_ap, keyR_str, keyR_int, e_disp, d_nil, d_cons, d1_cons, e_nil, e_cons, j_nil, j_cons, o_none, o_some, c_none, c_some, i_seq, i_rng1, i_rng2, i_zp, i_enm, i_keys, t_cmp, t_chain, t_and, t_or, t_not, t_var, t_ix, t_call, t_meth, t_isi, t_kin, t_fld, t_bf, s_nil, s_cons, s_pass, s_doc, s_brk, s_cnt, s_retN, s_expr, s_asg, s_asgL, s_asgT, s_par, s_asgI, s_asgF, s_augN, s_augF, s_ret, s_iff, s_whl, s_for, s_tryN, strR_str, Option.getD_some, Option.getD_none, Option.isSome_some, Option.isSome_none, mVar, gJc_ap, opN, opB, and_self, true_and, and_true, if_true, if_false, Bool.true_or, Bool.not_true, Bool.not_false, eq_self, isi_of (T := "tuple") u1 rfl, u2, u5, u3, u4, value_is hv hi g0, decide_eq_true o1, decide_eq_true o2, Bool.and_self, isi_of (T := "bool") u6 rfl]
    exact ⟨_, _, .inl rfl, rfl, _, rfl⟩
  · rintro ρ s1 _
    simp [sItem]
  · rintro ρ' s' ⟨rfl, c, rfl⟩ rfl
    rfl
theorem thr_is {T : Tb} {f fb fv fi : Nat} (h : Is T f 3 2 (bThr fb fv)) (hb : Is T fb 2 2 (bBelow fi)) (hv : Is T fv 1 1 (bValue fi)) (hi : Is T fi 1 1 bIsInt) (g0 : T.glv.getD 0 .non = .int 999) (g5 : T.glv.getD 5 .non = .int 4) {k fuel : Nat} {ts : List (Int × Int)} {n : Nat} {s : Sto}
    (h1 : 1 ≤ ts.length) (hl : ts.length ≤ 4) (ok : ∀ v ∈ ts, 0 ≤ v.1 ∧ v.1 < n ∧ -999 ≤ v.2 ∧ v.2 ≤ 999) : (T.gam fuel (k + 3)).fn f [.tup (ts.map eThr), .int n] s = .ok .non s := by
  rw [h.call rfl]
  show (svs _ _ (bThr fb fv) [some (.tup (ts.map eThr)), some (.int n), none] s).fin = _
  have t0 : tupOf (.tup (ts.map eThr)) = some (ts.map eThr) := rfl
  have t1 := ty_tup (s := s) t0
  have l0 := len_tup (s := s) t0
  have g1 : opC .le (.int 1) (.int ((ts.map eThr).length : Nat)) s = some (.bl true, s) := by
    show some (D.bl (decide _), s) = _
    rw [decide_eq_true (by rw [List.length_map]; omega)]
  have g2 : opC .le (.int ((ts.map eThr).length : Nat)) (.int 4) s = some (.bl true, s) := by
    show some (D.bl (decide _), s) = _
    rw [decide_eq_true (by rw [List.length_map]; omega)]
  have s0 : srcR (.tup (ts.map eThr)) s = .ok (.fix (ts.map eThr)) s := rfl
  unfold bThr
  simp only [fin_nx, fin_rt, fin_ex, ofO_some, ofO_none, asB_bl, asI_int, truR_bl, outS_some, outE_some, outO_some, R.bind_ok, R.bind_ex, R.bind_bad, R.to_ok, R.to_ex, R.to_bad, Out.seq_nx, Out.seq_rt, Out.seq_bk, Out.seq_ct, Out.seq_ex, Out.seq_bad, cond_true, cond_false, gam_gl, gam_ncls, gam_init, gam_kd, List.getElem?_cons_zero, List.getElem?_cons_succ, List.set_cons_zero, List.set_cons_succ, List.cons_append, List.nil_append, k2_ap, gBin_ap, gCmp_ap, gCmpT_ap, gNeg_ap, gCh3_ap, gCh2_ap, gCh_ap, gCh3T_ap, gCh2T_ap, gChT_ap, gAnd2_ap, gAnd_ap, gOr2_ap, gOr_ap, gNot2_ap, gNot_ap, gIte_ap, gIx_ap, gSl2_ap, gSl1_ap, gSl_ap, gRev_ap, gFld_ap, gMk2_ap, gMk_ap, gMt2_ap, gMt_ap, gBf_ap, gBm2_ap, gBm_ap, gIsi_ap, gLc_ap, gStr_ap, gKget_ap, gKin_ap, gCo2_ap, gCo_ap, gOs2_ap, gOs_ap, gRn1_ap, gRn3_ap, gRn2_ap, gRn_ap, gZp_ap, gAndT_ap, gOrT_ap, gNotT_ap, gJ_ap, sNx_ap, sSet_ap, sSetT_ap, sPar2_ap, sPar1_ap, sI3_ap, sI2_ap, sI1_ap, sF2_ap, sF1_ap, sN2_ap, sN1_ap, sA3_ap, sA2_ap, sA1_ap, sR_ap, sIff_ap, sFr_ap, e_var, e_cst, e_glob, e_bin, e_neg, e_cmp, e_chain, e_and, e_or, e_not, e_ite, e_ix, e_sl, e_rev, e_tup, e_lst, e_dnewK, e_dnewT, e_fld, e_call, e_make, e_meth, e_bf, e_bm, e_isi, e_lc, e_fst, e_fmt, e_kget, e_kin, gDk_ap, gDr_ap, gDv_ap, keyR_str, keyR_int, e_disp, d_nil, d_cons, d1_cons, e_nil, e_cons, j_nil, j_cons, o_none, o_some, c_none, c_some, i_seq, i_rng1, i_rng2, i_zp, i_enm, i_keys, t_cmp, t_chain, t_and, t_or, t_not, t_var, t_ix, t_call, t_meth, t_isi, t_kin, t_fld, t_bf, s_nil, s_cons, s_pass, s_doc, s_brk, s_cnt, s_retN, s_expr, s_asg, s_asgL, s_asgT, s_par, s_asgI, s_asgF, s_augN, s_augF, s_ret, s_iff, s_whl, s_for, s_tryN, strR_str, Option.getD_some, Option.getD_none, Option.isSome_some, Option.isSome_none, mVar, gJc_ap, opN, opB, and_self, true_and, and_true, if_true, if_false, Bool.true_or, Bool.not_true, Bool.not_false, eq_self, isi_of (T := "tuple") t1 rfl, l0, g1, g5, g2, s0]
  generalize hX : fLoop _ _ _ _ _ _ _ = o
  refine for_c hX ts.length (fun j ρ s1 => s1 = s ∧ ∃ c, ρ = [some (.tup (ts.map eThr)), some (.int n), c]) ⟨rfl, none, rfl⟩ (Nat.zero_le _) ?_ ?_ ?_ ?_
  · show ts.length - 0 < (ts.map eThr).length + 1
    simp
  · rintro j ρ s1 hj ⟨rfl, c, rfl⟩
    refine ⟨eThr ts[j], _, by simp [sItem, hj], rfl, ?_⟩
    show ∃ ρ2 s3, (svs _ _ _ [some (.tup (ts.map eThr)), some (.int n), some (eThr ts[j])] s1 = .nx ρ2 s3 ∨ svs _ _ _ [some (.tup (ts.map eThr)), some (.int n), some (eThr ts[j])] s1 = .ct ρ2 s3) ∧ _
    obtain ⟨o1, o2, o3, o4⟩ := ok ts[j] (List.getElem_mem hj)
    have u0 : tupOf (eThr ts[j]) = some [.int ts[j].1, .int ts[j].2] := rfl
    have u1 := ty_tup (s := s1) u0
    have u2 : fO .len [eThr ts[j]] s1 = some (.int 2, s1) := len_tup u0
    have u3 : ixO (eThr ts[j]) (.int 0) s1 = some (.int ts[j].1, s1) := ixO_tup u0 (atI_nat (j := 0) rfl)
    have u4 : ixO (eThr ts[j]) (.int 1) s1 = some (.int ts[j].2, s1) := ixO_tup u0 (atI_nat (j := 1) rfl)
    have u5 : opC .ne (.int 2) (.int 2) s1 = some (.bl false, s1) := rfl
    simp only [fin_nx, fin_rt, fin_ex, ofO_some, ofO_none, asB_bl, asI_int, truR_bl, outS_some, outE_some, outO_some, R.bind_ok, R.bind_ex, R.bind_bad, R.to_ok, R.to_ex, R.to_bad, Out.seq_nx, Out.seq_rt, Out.seq_bk, Out.seq_ct, Out.seq_ex, Out.seq_bad, cond_true, cond_false, gam_gl, gam_ncls, gam_init, gam_kd, List.getElem?_cons_zero, List.getElem?_cons_succ, List.set_cons_zero, List.set_cons_succ, List.cons_append, List.nil_append, k2_ap, gBin_ap, gCmp_ap, gCmpT_ap, gNeg_ap, gCh3_ap, gCh2_ap, gCh_ap, gCh3T_ap, gCh2T_ap, gChT_ap, gAnd2_ap, gAnd_ap, gOr2_ap, gOr_ap, gNot2_ap, gNot_ap, gIte_ap, gIx_ap, gSl2_ap, gSl1_ap, gSl_ap, gRev_ap, gFld_ap, gMk2_ap, gMk_ap, gMt2_ap, gMt_ap, gBf_ap, gBm2_ap, gBm_ap, gIsi_ap, gLc_ap, gStr_ap, gKget_ap, gKin_ap, gCo2_ap, gCo_ap, gOs2_ap, gOs_ap, gRn1_ap, gRn3_ap, gRn2_ap, gRn_ap, gZp_ap, gAndT_ap, gOrT_ap, gNotT_ap, gJ_ap, sNx_ap, sSet_ap, sSetT_ap, sPar2_ap, sPar1_ap, sI3_ap, sI2_ap, sI1_ap, sF2_ap, sF1_ap, sN2_ap, sN1_ap, sA3_ap, sA2_ap, sA1_ap, sR_ap, sIff_ap, sFr_ap, e_var, e_cst, e_glob, e_bin, e_neg, e_cmp, e_chain, e_and, e_or, e_not, e_ite, e_ix, e_sl, e_rev, e_tup, e_lst, e_dnewK, e_dnewT, e_fld, e_call, e_make, e_meth, e_bf, e_bm, e_isi, e_lc, e_fst, e_fmt, e_kget, e_kin, gDk_ap, gDr_ap, gDv_ap, keyR_str, keyR_int, e_disp, d_nil, d_cons, d1_cons, e_nil, e_cons, j_nil, j_cons, o_none, o_some, c_none, c_some, i_seq, i_rng1, i_rng2, i_zp, i_enm, i_keys, t_cmp, t_chain, t_and, t_or, t_not, t_var, t_ix, t_call, t_meth, t_isi, t_kin, t_fld, t_bf, s_nil, s_cons, s_pass, s_doc, s_brk, s_cnt, s_retN, s_expr, s_asg, s_asgL, s_asgT, s_par, s_asgI, s_asgF, s_augN, s_augF, s_ret, s_iff, s_whl, s_for, s_tryN, strR_str, Option.getD_some, Option.getD_none, Option.isSome_some, Option.isSome_none, mVar, gJc_ap, opN, opB, and_self, true_and, and_true, if_true, if_false, Bool.true_or, Bool.not_true, Bool.not_false, eq_self, isi_of (T := "tuple") u1 rfl, u2, u5, u3, u4, value_is hv hi g0, below_is hb hi, decide_eq_true o1, decide_eq_true o2, decide_eq_true o3, decide_eq_true o4, Bool.and_self]
    exact ⟨_, _, .inl rfl, rfl, _, rfl⟩
  · rintro ρ s1 _
    simp [sItem]
  · rintro ρ' s' ⟨rfl, c, rfl⟩ rfl
    rfl
end Ab
set_option Elab.async false
set_option linter.all false
set_option maxRecDepth 100000
set_option maxHeartbeats 2000000
/-! Ab23: check_program of a right program, all of it -/
namespace Ab
open PySem L2
structure Pg where
  vars : List (Int × Bool)
  locks : Nat
  codes : List (List (Str × List Int))
  ts : List (Int × Int)
def eCode (c : List (Str × List Int)) : D := .tup (c.map fun i => eIns i.1 i.2)
def Pg.enc (p : Pg) : D := .tup [.tup (p.vars.map eVar), .int p.locks, .tup (p.codes.map eCode), .tup (p.ts.map eThr)]
def bnd (nv lk nc : Int) : List (Key × D) := [(.inr "register", .int 4), (.inr "variable", .int nv), (.inr "lock", .int lk), (.inr "code", .int nc)]
def bndP (nv lk nc pl : Int) : List (Key × D) := [(.inr "register", .int 4), (.inr "variable", .int nv), (.inr "lock", .int lk), (.inr "code", .int nc), (.inr "place", .int pl)]
/-- an instruction is right; kd: the forms -/
structure OkIns (kd : List (Str × D)) (vars : List (Int × Bool)) (lk nc pl : Nat) (w : Str) (ps : List Int) : Prop where
  ex : ∃ forms : List Str, kd.lookup w = some (.kt (forms.map .str)) ∧ ps.length = forms.length ∧ ps.length < 1000 ∧
    (∀ i (h1 : i < ps.length) (h2 : i < forms.length), okPart (bndP vars.length lk nc pl) forms[i] ps[i]) ∧
    ∀ i (h1 : i < ps.length) (h2 : i < forms.length), forms[i] = "variable" → ∃ (j : Nat) (v : Int × Bool), ps[i] = (j : Int) ∧ vars[j]? = some v ∧ (v.2 = true → w = "load" ∨ w = "store")
structure OkPg (kd : List (Str × D)) (p : Pg) : Prop where
  v1 : p.vars.length ≤ 4
  v2 : ∀ v ∈ p.vars, -999 ≤ v.1 ∧ v.1 ≤ 999
  lk : p.locks ≤ 2
  c1 : 1 ≤ p.codes.length
  c2 : p.codes.length ≤ 6
  c3 : ∀ c ∈ p.codes, c.length ≤ 16 ∧ ∀ i ∈ c, OkIns kd p.vars p.locks p.codes.length (c.length + 1) i.1 i.2
  t1 : 1 ≤ p.ts.length
  t2 : p.ts.length ≤ 4
  t3 : ∀ v ∈ p.ts, 0 ≤ v.1 ∧ v.1 < p.codes.length ∧ -999 ≤ v.2 ∧ v.2 ≤ 999
def bProg (fvs fb fin ft : Nat) : Sts := .cons (.iff (.or (.not (.isi (.var 0) "tuple")) (.cmp .ne (.bf .len (.cons (.var 0) (.nil))) (.cst (.int 4)))) (.cons (.never) (.nil)) (.nil)) (.cons (.asgT (.tp (.cons (.nm 1) (.cons (.nm 2) (.cons (.nm 3) (.cons (.nm 4) (.nil)))))) (.var 0)) (.cons (.expr (.call fvs (.cons (.var 1) (.nil)))) (.cons (.iff (.not (.call fb (.cons (.var 2) (.cons (.bin .add (.glob 2) (.cst (.int 1))) (.nil))))) (.cons (.never) (.nil)) (.nil)) (.cons (.iff (.or (.not (.isi (.var 3) "tuple")) (.not (.chain .le .le (.cst (.int 1)) (.bf .len (.cons (.var 3) (.nil))) (.glob 3)))) (.cons (.never) (.nil)) (.nil)) (.cons (.asg 5 (.disp (.cons (.cst (.str "register")) (.cons (.glob 6) (.cons (.cst (.str "variable")) (.cons (.bf .len (.cons (.var 1) (.nil))) (.cons (.cst (.str "lock")) (.cons (.var 2) (.cons (.cst (.str "code")) (.cons (.bf .len (.cons (.var 3) (.nil))) (.nil))))))))))) (.cons (.for_ (.nm 6) (.seq (.var 3)) (.cons (.iff (.or (.not (.isi (.var 6) "tuple")) (.cmp .gt (.bf .len (.cons (.var 6) (.nil))) (.glob 4))) (.cons (.never) (.nil)) (.nil)) (.cons (.asgI (.var 5) (.cst (.str "place")) (.bin .add (.bf .len (.cons (.var 6) (.nil))) (.cst (.int 1)))) (.cons (.for_ (.nm 7) (.seq (.var 6)) (.cons (.expr (.call fin (.cons (.var 7) (.cons (.var 5) (.cons (.var 1) (.nil)))))) (.nil))) (.nil))))) (.cons (.expr (.call ft (.cons (.var 4) (.cons (.bf .len (.cons (.var 3) (.nil))) (.nil))))) (.nil))))))))
structure Chk (T : Tb) (fi fb fv fp fin fvs ft f : Nat) : Prop where
  int : Is T fi 1 1 bIsInt
  below : Is T fb 2 2 (bBelow fi)
  value : Is T fv 1 1 (bValue fi)
  part : Is T fp 3 3 (bPart fv fb)
  ins : Is T fin 6 3 (bInstr fp)
  vars : Is T fvs 2 1 (bVars fv)
  thr : Is T ft 3 2 (bThr fb fv)
  prog : Is T f 8 1 (bProg fvs fb fin ft)
  g : ∀ i : Fin 7, T.glv.getD i .non = .int ([999, 4, 2, 6, 16, 4, 4].getD i 0)
theorem prog_is {T : Tb} {fi fb fv fp fin fvs ft f : Nat} (C : Chk T fi fb fv fp fin fvs ft f) {k fuel : Nat} {p : Pg} {s : Sto} (ok : OkPg (T.kdv.getD 0 []) p) :
    ∃ s', (T.gam fuel (k + 5)).fn f [p.enc] s = .ok .non s' ∧ Fr (fun _ => False) s s' := by
  have g0 : T.glv.getD 0 .non = .int 999 := C.g 0
  have g2 : T.glv.getD 2 .non = .int 2 := C.g 2
  have g3 : T.glv.getD 3 .non = .int 6 := C.g 3
  have g4 : T.glv.getD 4 .non = .int 16 := C.g 4
  have g6 : T.glv.getD 6 .non = .int 4 := C.g 6
  rw [C.prog.call rfl]
  show ∃ s', (svs _ _ (bProg fvs fb fin ft) [some p.enc, none, none, none, none, none, none, none] s).fin = _ ∧ _
  have t0 : tupOf p.enc = some [.tup (p.vars.map eVar), .int p.locks, .tup (p.codes.map eCode), .tup (p.ts.map eThr)] := rfl
  have t1 := ty_tup (s := s) t0
  have l0 : fO .len [p.enc] s = some (.int 4, s) := len_tup t0
  have n0 : opC .ne (.int 4) (.int 4) s = some (.bl false, s) := rfl
  have b0 : bindT (.tp (.cons (.nm 1) (.cons (.nm 2) (.cons (.nm 3) (.cons (.nm 4) (.nil)))))) p.enc [some p.enc, none, none, none, none, none, none, none] = some [some p.enc, some (.tup (p.vars.map eVar)), some (.int p.locks), some (.tup (p.codes.map eCode)), some (.tup (p.ts.map eThr)), none, none, none] := rfl
  have q1 := vars_is C.vars C.value C.int g0 (C.g 1) (k := k + 1) (fuel := fuel) (s := s) ok.v1 ok.v2
  have q2 := below_is C.below C.int (k := k + 2) (fuel := fuel) (i := (p.locks : Int)) (j := 2 + 1) (s := s)
  have lk1 : decide ((0 : Int) ≤ p.locks) = true := decide_eq_true (Int.natCast_nonneg _)
  have lk2 : decide ((p.locks : Int) < 2 + 1) = true := decide_eq_true (by have := ok.lk; omega)
  have t3 : tyName (.tup (p.codes.map eCode)) s = some "tuple" := rfl
  have l3 : fO .len [.tup (p.codes.map eCode)] s = some (.int ((p.codes.map eCode).length : Nat), s) := len_tup rfl
  have c1 : opC .le (.int 1) (.int ((p.codes.map eCode).length : Nat)) s = some (.bl true, s) := by
    show some (D.bl (decide _), s) = _
    rw [decide_eq_true (by rw [List.length_map]; have := ok.c1; omega)]
  have c2 : opC .le (.int ((p.codes.map eCode).length : Nat)) (.int 6) s = some (.bl true, s) := by
    show some (D.bl (decide _), s) = _
    rw [decide_eq_true (by rw [List.length_map]; have := ok.c2; omega)]
  have lv : ∀ s : Sto, fO .len [.tup (p.vars.map eVar)] s = some (.int ((p.vars.map eVar).length : Nat), s) := fun s => len_tup rfl
  have lc : ∀ s : Sto, fO .len [.tup (p.codes.map eCode)] s = some (.int ((p.codes.map eCode).length : Nat), s) := fun s => len_tup rfl
  have dp : ∀ (a b c : Int), gDp s.n [(.inr "register", .int 4), (.inr "variable", .int a), (.inr "lock", .int b), (.inr "code", .int c)] (s.new (.dk false [])) = .ok (.ref s.n) ((s.new (.dk false [])).put s.n (.dk false (bnd a b c))) := fun a b c => gDp_of new_g (show 4 ≤ 15 by decide)
  have sc : ∀ s : Sto, srcR (.tup (p.codes.map eCode)) s = .ok (.fix (p.codes.map eCode)) s := fun _ => rfl
  unfold bProg
  simp only [fin_nx, fin_rt, fin_ex, ofO_some, ofO_none, asB_bl, asI_int, truR_bl, outS_some, outE_some, outO_some, R.bind_ok, R.bind_ex, R.bind_bad, R.to_ok, R.to_ex, R.to_bad, Out.seq_nx, Out.seq_rt, Out.seq_bk, Out.seq_ct, Out.seq_ex, Out.seq_bad, cond_true, cond_false, gam_gl, gam_ncls, gam_init, gam_kd, List.getElem?_cons_zero, List.getElem?_cons_succ, List.set_cons_zero, List.set_cons_succ, List.cons_append, List.nil_append, k2_ap, gBin_ap, gCmp_ap, gCmpT_ap, gNeg_ap, gCh3_ap, gCh2_ap, gCh_ap, gCh3T_ap, gCh2T_ap, gChT_ap, gAnd2_ap, gAnd_ap, gOr2_ap, gOr_ap, gNot2_ap, gNot_ap, gIte_ap, gIx_ap, gSl2_ap, gSl1_ap, gSl_ap, gRev_ap, gFld_ap, gMk2_ap, gMk_ap, gMt2_ap, gMt_ap, gBf_ap, gBm2_ap, gBm_ap, gIsi_ap, gLc_ap, gStr_ap, gKget_ap, gKin_ap, gCo2_ap, gCo_ap, gOs2_ap, gOs_ap, gRn1_ap, gRn3_ap, gRn2_ap, gRn_ap, gZp_ap, gAndT_ap, gOrT_ap, gNotT_ap, gJ_ap, sNx_ap, sSet_ap, sSetT_ap, sPar2_ap, sPar1_ap, sI3_ap, sI2_ap, sI1_ap, sF2_ap, sF1_ap, sN2_ap, sN1_ap, sA3_ap, sA2_ap, sA1_ap, sR_ap, sIff_ap, sFr_ap, e_var, e_cst, e_glob, e_bin, e_neg, e_cmp, e_chain, e_and, e_or, e_not, e_ite, e_ix, e_sl, e_rev, e_tup, e_lst, e_dnewK, e_dnewT, e_fld, e_call, e_make, e_meth, e_bf, e_bm, e_isi, e_lc, e_fst, e_fmt, e_kget, e_kin, gDk_ap, gDr_ap, gDv_ap, keyR_str, keyR_int, e_disp, d_nil, d_cons, d1_cons, e_nil, e_cons, j_nil, j_cons, o_none, o_some, c_none, c_some, i_seq, i_rng1, i_rng2, i_zp, i_enm, i_keys, t_cmp, t_chain, t_and, t_or, t_not, t_var, t_ix, t_call, t_meth, t_isi, t_kin, t_fld, t_bf, s_nil, s_cons, s_pass, s_doc, s_brk, s_cnt, s_retN, s_expr, s_asg, s_asgL, s_asgT, s_par, s_asgI, s_asgF, s_augN, s_augF, s_ret, s_iff, s_whl, s_for, s_tryN, strR_str, Option.getD_some, Option.getD_none, Option.isSome_some, Option.isSome_none, mVar, gJc_ap, opN, opB, and_self, true_and, and_true, if_true, if_false, Bool.true_or, Bool.not_true, Bool.not_false, eq_self, isi_of (T := "tuple") t1 rfl, l0, n0, b0, q1, g2, q2, lk1, lk2, Bool.and_self, isi_of (T := "tuple") t3 rfl, l3, c1, g3, c2, g6, lv, lc, dp, sc]
  rw [List.length_map, List.length_map]
  generalize hX : fLoop _ _ _ _ _ _ _ = o
  have w0 : s.n < ((s.new (.dk false [])).put s.n (.dk false (bnd p.vars.length p.locks p.codes.length))).n := Nat.lt_succ_self _
  have f0 : Fr (fun q => q = s.n) s ((s.new (.dk false [])).put s.n (.dk false (bnd p.vars.length p.locks p.codes.length))) := Fr.new.trans (Fr.put rfl)
  refine for_c hX p.codes.length (fun j ρ s1 => (∃ c d, ρ = [some p.enc, some (.tup (p.vars.map eVar)), some (.int p.locks), some (.tup (p.codes.map eCode)), some (.tup (p.ts.map eThr)), some (.ref s.n), c, d]) ∧ s.n < s1.n ∧ Fr (fun q => q = s.n) s s1 ∧ ∃ kvs, s1.g s.n = .dk false kvs ∧ (kvs = bnd p.vars.length p.locks p.codes.length ∨ ∃ pl, kvs = bndP p.vars.length p.locks p.codes.length pl))
    ⟨⟨_, _, rfl⟩, w0, f0, _, put_g, .inl rfl⟩ (Nat.zero_le _) ?_ ?_ ?_ ?_
  · show p.codes.length - 0 < (p.codes.map eCode).length + 1
    simp
  · rintro j ρ s1 hj ⟨⟨c, d, rfl⟩, w1, f1, kvs, e1, e2⟩
    obtain ⟨k1, k2⟩ := ok.c3 p.codes[j] (List.getElem_mem hj)
    refine ⟨eCode p.codes[j], _, by simp [sItem, hj], rfl, ?_⟩
    show ∃ ρ2 s3, (svs _ _ _ [some p.enc, some (.tup (p.vars.map eVar)), some (.int p.locks), some (.tup (p.codes.map eCode)), some (.tup (p.ts.map eThr)), some (.ref s.n), some (eCode p.codes[j]), d] s1 = .nx ρ2 s3 ∨ svs _ _ _ [some p.enc, some (.tup (p.vars.map eVar)), some (.int p.locks), some (.tup (p.codes.map eCode)), some (.tup (p.ts.map eThr)), some (.ref s.n), some (eCode p.codes[j]), d] s1 = .ct ρ2 s3) ∧ _
    have u0 : tupOf (eCode p.codes[j]) = some (p.codes[j].map fun i => eIns i.1 i.2) := rfl
    have u1 := ty_tup (s := s1) u0
    have u2 : ∀ s : Sto, fO .len [eCode p.codes[j]] s = some (.int (p.codes[j].length : Nat), s) := fun s => by rw [len_tup u0, List.length_map]
    have u3 : opC .gt (.int (p.codes[j].length : Nat)) (.int 16) s1 = some (.bl false, s1) := by
      show some (D.bl (decide _), s1) = _
      rw [decide_eq_false (by omega)]
    have u4 : setO (.ref s.n) (.str "place") (.int ((p.codes[j].length : Nat) + 1)) s1 = some (s1.put s.n (.dk false (bndP p.vars.length p.locks p.codes.length ((p.codes[j].length : Nat) + 1)))) := by
      unfold setO
      simp only [e1]
      rcases e2 with rfl | ⟨pl, rfl⟩ <;> rfl
    have u5 : ∀ s : Sto, srcR (eCode p.codes[j]) s = .ok (.fix (p.codes[j].map fun i => eIns i.1 i.2)) s := fun _ => rfl
    simp only [fin_nx, fin_rt, fin_ex, ofO_some, ofO_none, asB_bl, asI_int, truR_bl, outS_some, outE_some, outO_some, R.bind_ok, R.bind_ex, R.bind_bad, R.to_ok, R.to_ex, R.to_bad, Out.seq_nx, Out.seq_rt, Out.seq_bk, Out.seq_ct, Out.seq_ex, Out.seq_bad, cond_true, cond_false, gam_gl, gam_ncls, gam_init, gam_kd, List.getElem?_cons_zero, List.getElem?_cons_succ, List.set_cons_zero, List.set_cons_succ, List.cons_append, List.nil_append, k2_ap, gBin_ap, gCmp_ap, gCmpT_ap, gNeg_ap, gCh3_ap, gCh2_ap, gCh_ap, gCh3T_ap, gCh2T_ap, gChT_ap, gAnd2_ap, gAnd_ap, gOr2_ap, gOr_ap, gNot2_ap, gNot_ap, gIte_ap, gIx_ap, gSl2_ap, gSl1_ap, gSl_ap, gRev_ap, gFld_ap, gMk2_ap, gMk_ap, gMt2_ap, gMt_ap, gBf_ap, gBm2_ap, gBm_ap, gIsi_ap, gLc_ap, gStr_ap, gKget_ap, gKin_ap, gCo2_ap, gCo_ap, gOs2_ap, gOs_ap, gRn1_ap, gRn3_ap, gRn2_ap, gRn_ap, gZp_ap, gAndT_ap, gOrT_ap, gNotT_ap, gJ_ap, sNx_ap, sSet_ap, sSetT_ap, sPar2_ap, sPar1_ap, sI3_ap, sI2_ap, sI1_ap, sF2_ap, sF1_ap, sN2_ap, sN1_ap, sA3_ap, sA2_ap, sA1_ap, sR_ap, sIff_ap, sFr_ap, e_var, e_cst, e_glob, e_bin, e_neg, e_cmp, e_chain, e_and, e_or, e_not, e_ite, e_ix, e_sl, e_rev, e_tup, e_lst, e_dnewK, e_dnewT, e_fld, e_call, e_make, e_meth, e_bf, e_bm, e_isi, e_lc, e_fst, e_fmt, e_kget, e_kin, gDk_ap, gDr_ap, gDv_ap, keyR_str, keyR_int, e_disp, d_nil, d_cons, d1_cons, e_nil, e_cons, j_nil, j_cons, o_none, o_some, c_none, c_some, i_seq, i_rng1, i_rng2, i_zp, i_enm, i_keys, t_cmp, t_chain, t_and, t_or, t_not, t_var, t_ix, t_call, t_meth, t_isi, t_kin, t_fld, t_bf, s_nil, s_cons, s_pass, s_doc, s_brk, s_cnt, s_retN, s_expr, s_asg, s_asgL, s_asgT, s_par, s_asgI, s_asgF, s_augN, s_augF, s_ret, s_iff, s_whl, s_for, s_tryN, strR_str, Option.getD_some, Option.getD_none, Option.isSome_some, Option.isSome_none, mVar, gJc_ap, opN, opB, and_self, true_and, and_true, if_true, if_false, Bool.true_or, Bool.not_true, Bool.not_false, eq_self, isi_of (T := "tuple") u1 rfl, u2, g4, u3, u4, u5]
    generalize hY : fLoop _ _ _ _ _ _ _ = o2
    have w2 : s.n < (s1.put s.n (.dk false (bndP p.vars.length p.locks p.codes.length ((p.codes[j].length : Nat) + 1)))).n := w1
    refine for_c hY p.codes[j].length (fun i ρ s2 => s2 = s1.put s.n (.dk false (bndP p.vars.length p.locks p.codes.length ((p.codes[j].length : Nat) + 1))) ∧ ∃ d, ρ = [some p.enc, some (.tup (p.vars.map eVar)), some (.int p.locks), some (.tup (p.codes.map eCode)), some (.tup (p.ts.map eThr)), some (.ref s.n), some (eCode p.codes[j]), d])
      ⟨rfl, _, rfl⟩ (Nat.zero_le _) ?_ ?_ ?_ ?_
    · show p.codes[j].length - 0 < (p.codes[j].map fun i => eIns i.1 i.2).length + 1
      simp
    · rintro i ρ s2 hi ⟨rfl, d, rfl⟩
      refine ⟨eIns p.codes[j][i].1 p.codes[j][i].2, _, by simp [sItem, hi], rfl, ?_⟩
      show ∃ ρ2 s3, (svs _ _ _ [some p.enc, some (.tup (p.vars.map eVar)), some (.int p.locks), some (.tup (p.codes.map eCode)), some (.tup (p.ts.map eThr)), some (.ref s.n), some (eCode p.codes[j]), some (eIns p.codes[j][i].1 p.codes[j][i].2)] _ = .nx ρ2 s3 ∨ svs _ _ _ [some p.enc, some (.tup (p.vars.map eVar)), some (.int p.locks), some (.tup (p.codes.map eCode)), some (.tup (p.ts.map eThr)), some (.ref s.n), some (eCode p.codes[j]), some (eIns p.codes[j][i].1 p.codes[j][i].2)] _ = .ct ρ2 s3) ∧ _
      obtain ⟨forms, y1, y2, y3, y4, y5⟩ := (k2 p.codes[j][i] (List.getElem_mem hi)).ex
      have key := instr_is C.ins (k := k + 3) (fuel := fuel) (s := s1.put s.n (.dk false (bndP p.vars.length p.locks p.codes.length ((p.codes[j].length : Nat) + 1)))) (r := s.n) (vars := p.vars) y1 y2 y3 (fun q h1 h2 => part_is C.part C.value C.below C.int g0 (k := k) put_g (show okPart (bndP p.vars.length p.locks p.codes.length (((p.codes[j].length : Nat) : Int) + 1)) _ _ from y4 q h1 h2)) y5
      simp only [fin_nx, fin_rt, fin_ex, ofO_some, ofO_none, asB_bl, asI_int, truR_bl, outS_some, outE_some, outO_some, R.bind_ok, R.bind_ex, R.bind_bad, R.to_ok, R.to_ex, R.to_bad, Out.seq_nx, Out.seq_rt, Out.seq_bk, Out.seq_ct, Out.seq_ex, Out.seq_bad, cond_true, cond_false, gam_gl, gam_ncls, gam_init, gam_kd, List.getElem?_cons_zero, List.getElem?_cons_succ, List.set_cons_zero, List.set_cons_succ, List.cons_append, List.nil_append, k2_ap, gBin_ap, gCmp_ap, gCmpT_ap, gNeg_ap, gCh3_ap, gCh2_ap, gCh_ap, gCh3T_ap, gCh2T_ap, gChT_ap, gAnd2_ap, gAnd_ap, gOr2_ap, gOr_ap, gNot2_ap, gNot_ap, gIte_ap, gIx_ap, gSl2_ap, gSl1_ap, gSl_ap, gRev_ap, gFld_ap, gMk2_ap, gMk_ap, gMt2_ap, gMt_ap, gBf_ap, gBm2_ap, gBm_ap, gIsi_ap, gLc_ap, gStr_ap, gKget_ap, gKin_ap, gCo2_ap, gCo_ap, gOs2_ap, gOs_ap, gRn1_ap, gRn3_ap, gRn2_ap, gRn_ap, gZp_ap, gAndT_ap, gOrT_ap, gNotT_ap, gJ_ap, sNx_ap, sSet_ap, sSetT_ap, sPar2_ap, sPar1_ap, sI3_ap, sI2_ap, sI1_ap, sF2_ap, sF1_ap, sN2_ap, sN1_ap, sA3_ap, sA2_ap, sA1_ap, sR_ap, sIff_ap, sFr_ap, e_var, e_cst, e_glob, e_bin, e_neg, e_cmp, e_chain, e_and, e_or, e_not, e_ite, e_ix, e_sl, e_rev, e_tup, e_lst, e_dnewK, e_dnewT, e_fld, e_call, e_make, e_meth, e_bf, e_bm, e_isi, e_lc, e_fst, e_fmt, e_kget, e_kin, gDk_ap, gDr_ap, gDv_ap, keyR_str, keyR_int, e_disp, d_nil, d_cons, d1_cons, e_nil, e_cons, j_nil, j_cons, o_none, o_some, c_none, c_some, i_seq, i_rng1, i_rng2, i_zp, i_enm, i_keys, t_cmp, t_chain, t_and, t_or, t_not, t_var, t_ix, t_call, t_meth, t_isi, t_kin, t_fld, t_bf, s_nil, s_cons, s_pass, s_doc, s_brk, s_cnt, s_retN, s_expr, s_asg, s_asgL, s_asgT, s_par, s_asgI, s_asgF, s_augN, s_augF, s_ret, s_iff, s_whl, s_for, s_tryN, strR_str, Option.getD_some, Option.getD_none, Option.isSome_some, Option.isSome_none, mVar, gJc_ap, opN, opB, and_self, true_and, and_true, if_true, if_false, Bool.true_or, Bool.not_true, Bool.not_false, eq_self, key]
      exact ⟨_, _, .inl rfl, rfl, _, rfl⟩
    · rintro ρ s2 _
      simp [sItem]
    · rintro ρ' s' ⟨rfl, d, rfl⟩ rfl
      exact ⟨_, _, .inl rfl, ⟨_, _, rfl⟩, w2, f1.trans (Fr.put rfl), _, put_g, .inr ⟨_, rfl⟩⟩
  · rintro ρ s1 _
    simp [sItem]
  · rintro ρ' s' ⟨⟨c, d, rfl⟩, w1, f1, _⟩ rfl
    have q3 := thr_is C.thr C.below C.value C.int g0 (C.g 5) (k := k + 1) (fuel := fuel) (n := p.codes.length) (s := s') ok.t1 ok.t2 ok.t3
    have lc2 : fO .len [.tup (p.codes.map eCode)] s' = some (.int (p.codes.length : Nat), s') := by rw [lc, List.length_map]
    simp only [fin_nx, fin_rt, fin_ex, ofO_some, ofO_none, asB_bl, asI_int, truR_bl, outS_some, outE_some, outO_some, R.bind_ok, R.bind_ex, R.bind_bad, R.to_ok, R.to_ex, R.to_bad, Out.seq_nx, Out.seq_rt, Out.seq_bk, Out.seq_ct, Out.seq_ex, Out.seq_bad, cond_true, cond_false, gam_gl, gam_ncls, gam_init, gam_kd, List.getElem?_cons_zero, List.getElem?_cons_succ, List.set_cons_zero, List.set_cons_succ, List.cons_append, List.nil_append, k2_ap, gBin_ap, gCmp_ap, gCmpT_ap, gNeg_ap, gCh3_ap, gCh2_ap, gCh_ap, gCh3T_ap, gCh2T_ap, gChT_ap, gAnd2_ap, gAnd_ap, gOr2_ap, gOr_ap, gNot2_ap, gNot_ap, gIte_ap, gIx_ap, gSl2_ap, gSl1_ap, gSl_ap, gRev_ap, gFld_ap, gMk2_ap, gMk_ap, gMt2_ap, gMt_ap, gBf_ap, gBm2_ap, gBm_ap, gIsi_ap, gLc_ap, gStr_ap, gKget_ap, gKin_ap, gCo2_ap, gCo_ap, gOs2_ap, gOs_ap, gRn1_ap, gRn3_ap, gRn2_ap, gRn_ap, gZp_ap, gAndT_ap, gOrT_ap, gNotT_ap, gJ_ap, sNx_ap, sSet_ap, sSetT_ap, sPar2_ap, sPar1_ap, sI3_ap, sI2_ap, sI1_ap, sF2_ap, sF1_ap, sN2_ap, sN1_ap, sA3_ap, sA2_ap, sA1_ap, sR_ap, sIff_ap, sFr_ap, e_var, e_cst, e_glob, e_bin, e_neg, e_cmp, e_chain, e_and, e_or, e_not, e_ite, e_ix, e_sl, e_rev, e_tup, e_lst, e_dnewK, e_dnewT, e_fld, e_call, e_make, e_meth, e_bf, e_bm, e_isi, e_lc, e_fst, e_fmt, e_kget, e_kin, gDk_ap, gDr_ap, gDv_ap, keyR_str, keyR_int, e_disp, d_nil, d_cons, d1_cons, e_nil, e_cons, j_nil, j_cons, o_none, o_some, c_none, c_some, i_seq, i_rng1, i_rng2, i_zp, i_enm, i_keys, t_cmp, t_chain, t_and, t_or, t_not, t_var, t_ix, t_call, t_meth, t_isi, t_kin, t_fld, t_bf, s_nil, s_cons, s_pass, s_doc, s_brk, s_cnt, s_retN, s_expr, s_asg, s_asgL, s_asgT, s_par, s_asgI, s_asgF, s_augN, s_augF, s_ret, s_iff, s_whl, s_for, s_tryN, strR_str, Option.getD_some, Option.getD_none, Option.isSome_some, Option.isSome_none, mVar, gJc_ap, opN, opB, and_self, true_and, and_true, if_true, if_false, Bool.true_or, Bool.not_true, Bool.not_false, eq_self, lc2, q3]
    exact ⟨s', rfl, f1.le, fun q hq _ => f1.eq q hq (Nat.ne_of_lt hq)⟩
end Ab
set_option Elab.async false
set_option linter.all false
set_option maxRecDepth 100000
set_option maxHeartbeats 2000000
/-! Ab24: right instructions, by their parts -/
namespace Ab
open PySem L2
theorem sz_ge {n : Nat} (h : n ≤ 100) : n ≤ sizeLine := Nat.le_trans h (by decide)
theorem tup1 (a : D) (s : Sto) : tupR [a] s = .ok (.tup [a]) s := if_pos (sz_ge (by show 1 ≤ 100; decide))
theorem tup2 (a b : D) (s : Sto) : tupR [a, b] s = .ok (.tup [a, b]) s := if_pos (sz_ge (by show 2 ≤ 100; decide))
theorem tup3 (a b c : D) (s : Sto) : tupR [a, b, c] s = .ok (.tup [a, b, c]) s := if_pos (sz_ge (by show 3 ≤ 100; decide))
theorem tup4 (a b c d : D) (s : Sto) : tupR [a, b, c, d] s = .ok (.tup [a, b, c, d]) s := if_pos (sz_ge (by show 4 ≤ 100; decide))
theorem tup5 (a b c d e : D) (s : Sto) : tupR [a, b, c, d, e] s = .ok (.tup [a, b, c, d, e]) s := if_pos (sz_ge (by show 5 ≤ 100; decide))
theorem tup6 (a b c d e f : D) (s : Sto) : tupR [a, b, c, d, e, f] s = .ok (.tup [a, b, c, d, e, f]) s := if_pos (sz_ge (by show 6 ≤ 100; decide))
theorem lst_n {xs : List D} (s : Sto) (h : xs.length ≤ 100) : lstR xs s = .ok (.ref s.n) (s.new (.lst xs)) := if_pos (sz_ge h)
/-- the forms of the program -/
def FM : List (Str × D) := [("const", .kt [.str "register", .str "value"]), ("copy", .kt [.str "register", .str "register"]), ("add", .kt [.str "register", .str "register", .str "register"]), ("sub", .kt [.str "register", .str "register", .str "register"]), ("mul", .kt [.str "register", .str "register", .str "register"]), ("eq", .kt [.str "register", .str "register", .str "register"]), ("less", .kt [.str "register", .str "register", .str "register"]), ("jump", .kt [.str "place"]), ("branch", .kt [.str "register", .str "place"]), ("assert", .kt [.str "register"]), ("stop", .kt []), ("load", .kt [.str "register", .str "variable"]), ("store", .kt [.str "variable", .str "register"]), ("swap", .kt [.str "register", .str "variable", .str "register"]), ("fetch", .kt [.str "register", .str "variable", .str "register"]), ("cas", .kt [.str "register", .str "variable", .str "register", .str "register"]), ("await", .kt [.str "register", .str "variable", .str "register"]), ("fence", .kt []), ("lock", .kt [.str "lock"]), ("unlock", .kt [.str "lock"]), ("spawn", .kt [.str "register", .str "code", .str "register"]), ("join", .kt [.str "register"])]
section
variable {vars : List (Int × Bool)} {lk nc pl : Nat} {w : Str}
/-- a part is right in an instruction w -/
def okP (vars : List (Int × Bool)) (lk nc pl : Nat) (w f : Str) (v : Int) : Prop :=
  okPart (bndP vars.length lk nc pl) f v ∧ (f = "variable" → ∃ (j : Nat) (x : Int × Bool), v = (j : Int) ∧ vars[j]? = some x ∧ (x.2 = true → w = "load" ∨ w = "store"))
def OkL (vars : List (Int × Bool)) (lk nc pl : Nat) (w : Str) : List Str → List Int → Prop
  | [], [] => True
  | f :: fs, v :: vs => okP vars lk nc pl w f v ∧ OkL vars lk nc pl w fs vs
  | _, _ => False
theorem OkL.len : ∀ {fs : List Str} {ps : List Int}, OkL vars lk nc pl w fs ps → ps.length = fs.length
  | [], [], _ => rfl
  | _ :: fs, _ :: ps, h => by rw [List.length_cons, List.length_cons, OkL.len h.2]
  | [], _ :: _, h => h.elim
  | _ :: _, [], h => h.elim
theorem OkL.get : ∀ {fs : List Str} {ps : List Int}, OkL vars lk nc pl w fs ps → ∀ i (h1 : i < ps.length) (h2 : i < fs.length), okP vars lk nc pl w fs[i] ps[i]
  | _ :: fs, _ :: ps, h, 0, _, _ => h.1
  | _ :: fs, _ :: ps, h, i + 1, h1, h2 => OkL.get h.2 i (by simpa using h1) (by simpa using h2)
  | [], [], _, _, h1, _ => absurd h1 (Nat.not_lt_zero _)
  | [], _ :: _, h, _, _, _ => h.elim
  | _ :: _, [], h, _, _, _ => h.elim
theorem OkL.ok {fs : List Str} {ps : List Int} {kd : List (Str × D)} (h : OkL vars lk nc pl w fs ps) (hk : kd.lookup w = some (.kt (fs.map .str))) (hs : fs.length < 1000) : OkIns kd vars lk nc pl w ps :=
  ⟨fs, hk, h.len, by rw [h.len]; exact hs, fun i h1 h2 => (h.get i h1 h2).1, fun i h1 h2 => (h.get i h1 h2).2⟩
theorem p_reg {v : Int} (h0 : 0 ≤ v) (h1 : v < 4) : okP vars lk nc pl w "register" v :=
  ⟨by unfold okPart; rw [if_neg (by decide +kernel)]; exact ⟨4, rfl, h0, h1⟩, fun e => absurd e (by decide +kernel)⟩
theorem p_val {v : Int} (h0 : -999 ≤ v) (h1 : v ≤ 999) : okP vars lk nc pl w "value" v :=
  ⟨by unfold okPart; rw [if_pos rfl]; exact ⟨h0, h1⟩, fun e => absurd e (by decide +kernel)⟩
theorem p_lock {v : Int} (h0 : 0 ≤ v) (h1 : v < lk) : okP vars lk nc pl w "lock" v :=
  ⟨by unfold okPart; rw [if_neg (by decide +kernel)]; exact ⟨lk, rfl, h0, h1⟩, fun e => absurd e (by decide +kernel)⟩
theorem p_code {v : Int} (h0 : 0 ≤ v) (h1 : v < nc) : okP vars lk nc pl w "code" v :=
  ⟨by unfold okPart; rw [if_neg (by decide +kernel)]; exact ⟨nc, rfl, h0, h1⟩, fun e => absurd e (by decide +kernel)⟩
theorem p_place {v : Int} (h0 : 0 ≤ v) (h1 : v < pl) : okP vars lk nc pl w "place" v :=
  ⟨by unfold okPart; rw [if_neg (by decide +kernel)]; exact ⟨pl, rfl, h0, h1⟩, fun e => absurd e (by decide +kernel)⟩
theorem p_var {j : Nat} {x : Int × Bool} (h : vars[j]? = some x) (hp : x.2 = true → w = "load" ∨ w = "store") : okP vars lk nc pl w "variable" (j : Int) := by
  have hj := (List.getElem?_eq_some_iff.mp h).1
  exact ⟨by unfold okPart; rw [if_neg (by decide +kernel)]; exact ⟨vars.length, rfl, Int.natCast_nonneg _, by exact_mod_cast hj⟩, fun _ => ⟨j, x, rfl, h, hp⟩⟩
theorem find_skip {α : Type} {x y : Str} {v : α} {r : List (Key × α)} (h : ¬ x = y) : ((.inr x, v) :: r).find? (fun kv => decide (kv.1 = (.inr y : Key))) = r.find? (fun kv => decide (kv.1 = (.inr y : Key))) := by
  rw [List.find?_cons, decide_eq_false (fun e => h (Sum.inr.inj e))]
theorem find_hit {α : Type} {y : Str} {v : α} {r : List (Key × α)} : ((.inr y, v) :: r).find? (fun kv => decide (kv.1 = (.inr y : Key))) = some (.inr y, v) := by
  rw [List.find?_cons, decide_eq_true rfl]
theorem bndP_get {nv lk nc pl j : Int} {f : Str} (h : getG (bndP nv lk nc pl) (.inr f) = some (.int j)) : (f = "register" ∧ j = 4) ∨ (f = "variable" ∧ j = nv) ∨ (f = "lock" ∧ j = lk) ∨ (f = "code" ∧ j = nc) ∨ (f = "place" ∧ j = pl) := by
  unfold getG bndP at h
  by_cases c1 : (("register" : Str)) = f
  · subst c1; rw [find_hit] at h; cases h; exact .inl ⟨rfl, rfl⟩
  rw [find_skip c1] at h
  by_cases c2 : (("variable" : Str)) = f
  · subst c2; rw [find_hit] at h; cases h; exact .inr (.inl ⟨rfl, rfl⟩)
  rw [find_skip c2] at h
  by_cases c3 : (("lock" : Str)) = f
  · subst c3; rw [find_hit] at h; cases h; exact .inr (.inr (.inl ⟨rfl, rfl⟩))
  rw [find_skip c3] at h
  by_cases c4 : (("code" : Str)) = f
  · subst c4; rw [find_hit] at h; cases h; exact .inr (.inr (.inr (.inl ⟨rfl, rfl⟩)))
  rw [find_skip c4] at h
  by_cases c5 : (("place" : Str)) = f
  · subst c5; rw [find_hit] at h; cases h; exact .inr (.inr (.inr (.inr ⟨rfl, rfl⟩)))
  rw [find_skip c5] at h
  cases h
/-- more variables, codes, places -/
theorem OkIns.mono {kd : List (Str × D)} {ps : List Int} {vars' : List (Int × Bool)} {nc' pl' : Nat} (h : OkIns kd vars lk nc pl w ps) (hv : ∀ (j : Nat) x, vars[j]? = some x → vars'[j]? = some x) (hn : nc ≤ nc') (hp : pl ≤ pl') : OkIns kd vars' lk nc' pl' w ps := by
  obtain ⟨fs, h1, h2, h3, h4, h5⟩ := h.ex
  have hl : vars.length ≤ vars'.length := by
    by_cases z : vars.length = 0
    · omega
    · have e : vars[vars.length - 1]? = some (vars[vars.length - 1]'(by omega)) := List.getElem?_eq_getElem _
      have := (List.getElem?_eq_some_iff.mp (hv _ _ e)).1
      omega
  refine ⟨fs, h1, h2, h3, fun i a b => ?_, fun i a b e => let ⟨j, v, e1, e2, e3⟩ := h5 i a b e; ⟨j, v, e1, hv j v e2, e3⟩⟩
  have q := h4 i a b
  unfold okPart at q ⊢
  by_cases c : fs[i] = "value"
  · rw [if_pos c] at q ⊢
    exact q
  · rw [if_neg c] at q ⊢
    obtain ⟨j, e1, e2, e3⟩ := q
    rcases bndP_get e1 with ⟨e, rfl⟩ | ⟨e, rfl⟩ | ⟨e, rfl⟩ | ⟨e, rfl⟩ | ⟨e, rfl⟩ <;> rw [e]
    · exact ⟨4, rfl, e2, e3⟩
    · exact ⟨vars'.length, rfl, e2, by omega⟩
    · exact ⟨lk, rfl, e2, e3⟩
    · exact ⟨nc', rfl, e2, by omega⟩
    · exact ⟨pl', rfl, e2, by omega⟩
end
end Ab
set_option Elab.async false
set_option linter.all false
set_option maxRecDepth 100000
set_option maxHeartbeats 2000000
/-! Ab25: lists: slices, sums, picks, comprehensions -/
namespace Ab
open PySem L2
theorem cut_to {xs : List D} {j : Nat} : cutD xs none (some (j : Int)) = xs.take j := by
  unfold cutD
  rw [HT.sIx_nat]
  show (xs.drop 0).take (min j xs.length - 0) = _
  rw [List.drop_zero, Nat.sub_zero]
  by_cases h : j ≤ xs.length
  · rw [Nat.min_eq_left h]
  · rw [Nat.min_eq_right (by omega), List.take_length, List.take_of_length_le (by omega)]
theorem sl_lst {s : Sto} {r j : Nat} {xs : List D} (h : s.g r = .lst xs) : slO (.ref r) none (some (j : Int)) s = some (.ref s.n, s.new (.lst (xs.take j))) := by
  simp only [slO, rdOf, h, Option.bind_some, cut_to]
theorem sl_tup {s : Sto} {j : Nat} {xs : List D} : slO (.tup xs) none (some (j : Int)) s = some (.tup (xs.take j), s) := by
  simp only [slO, cut_to]
theorem add_lst {s : Sto} {a b : Nat} {xs ys : List D} (h : s.g a = .lst xs) (h' : s.g b = .lst ys) (hl : xs.length + ys.length ≤ 100) : opB .add (.ref a) (.ref b) s = some (.ref s.n, s.new (.lst (xs ++ ys))) := by
  simp only [opB, lstOf, h, h', Option.bind_some, if_pos (sz_ge hl)]
theorem add_tup {s : Sto} {xs ys : List D} (hl : xs.length + ys.length ≤ 100) : opB .add (.tup xs) (.tup ys) s = some (.tup (xs ++ ys), s) := by
  simp only [opB, if_pos (sz_ge hl)]
theorem lo {s : Sto} {r : Nat} {xs : List D} (h : s.g r = .lst xs) : lstOf s r = some xs := by unfold lstOf; rw [h]
theorem tup_lst {s : Sto} {a : Nat} {xs : List D} (h : s.g a = .lst xs) : fO .tuple [.ref a] s = some (.tup xs, s) := by
  simp only [fO, rdOf, h, Option.map_some]
theorem Dr.new {s : Sto} {r l : Nat} {o : Ob} (d : Dr s r l) : Dr (s.new o) r l := d.keep (Fr.new (X := fun _ => False)) id id
theorem new_at {s : Sto} {q : Nat} {o o' : Ob} (h : q < s.n) (e : s.g q = o') : (s.new o).g q = o' := (new_old h).trans e
theorem mod_nn (n : Int) {m : Int} (h : 0 < m) : 0 ≤ n % m := Int.emod_nonneg _ (by omega)
theorem mod_lt (n : Int) {m : Int} (h : 0 < m) : n % m < m := Int.emod_lt_of_pos _ h
theorem mod_nat (n : Int) {m : Nat} (h : 0 < m) : ∃ j : Nat, n % (m : Int) = (j : Int) ∧ j < m := by
  have a := mod_nn n (m := m) (by exact_mod_cast h)
  have b := mod_lt n (m := m) (by exact_mod_cast h)
  exact ⟨(n % (m : Int)).toNat, (Int.toNat_of_nonneg a).symm, by omega⟩
/-- one of a list's own, by a draw -/
theorem pick {s : Sto} {q : Nat} {xs : List D} (h : s.g q = .lst xs) {m : Nat} (hm : xs.length = m) (hp : 0 < m) (n : Int) : ∃ x, x ∈ xs ∧ ixO (.ref q) (.int (n % (m : Int))) s = some (x, s) := by
  obtain ⟨j, h1, h2⟩ := mod_nat n hp
  have hj : j < xs.length := hm ▸ h2
  exact ⟨xs[j], List.getElem_mem hj, by rw [h1]; exact ixO_lst h (Ab.atI_nat (List.getElem?_eq_getElem hj))⟩
theorem unmap {α : Type} {f : α → D} {P : α → Prop} : ∀ {xs : List D}, (∀ x ∈ xs, ∃ a, x = f a ∧ P a) → ∃ as : List α, xs = as.map f ∧ ∀ a ∈ as, P a
  | [], _ => ⟨[], rfl, fun _ h => absurd h List.not_mem_nil⟩
  | x :: xs, h => by
    obtain ⟨a, rfl, h2⟩ := h x (List.mem_cons_self ..)
    obtain ⟨as, rfl, h4⟩ := unmap (xs := xs) fun y hy => h y (List.mem_cons_of_mem _ hy)
    exact ⟨a :: as, rfl, fun b hb => by
      rcases List.mem_cons.mp hb with rfl | hb
      · exact h2
      · exact h4 b hb⟩
/-- a comprehension without a test; I: what holds of the store, X: the places that may change -/
theorem lc_g {o : R D} {G : Prop} {src : Src} {tg : D → Option Env} {c : Env → Sto → R Bool} {e : Env → Sto → R D} {m : Nat} {s : Sto} (hX : lcLoop src s.n tg c e m 0 (s.new (.lst [])) = o) (hc : ∀ ρ s, c ρ s = .ok true s) (n : Nat) (I : Sto → Prop) (X : Nat → Prop) (Q : Nat → D → Prop)
    (i0 : I (s.new (.lst []))) (hI : ∀ s' ob, I s' → I (s'.put s.n ob)) (hx : ¬ X s.n) (hm : n < m) (hn : n ≤ sizeLine)
    (hs : ∀ j s', j < n → s.n < s'.n → I s' → Fr X s s' → ∃ d ρ, sItem src j s' = some (some d) ∧ tg d = some ρ ∧ ∃ y s2, e ρ s' = .ok y s2 ∧ Q j y ∧ I s2 ∧ Fr X s' s2)
    (he : ∀ s', Fr X s s' → sItem src n s' = some none)
    (hk : ∀ xs s', xs.length = n → (∀ j (h : j < xs.length), Q j xs[j]) → s'.g s.n = .lst xs → s.n < s'.n → I s' → Fr X s s' → o = .ok (.ref s.n) s' → G) : G := by
  refine lc_c hX n (fun j acc s' => acc.length = j ∧ (∀ j (h : j < acc.length), Q j acc[j]) ∧ s'.g s.n = .lst acc ∧ s.n < s'.n ∧ I s' ∧ Fr X s s') [] ⟨rfl, fun j h => absurd h (Nat.not_lt_zero _), new_g, Nat.lt_succ_self _, i0, Fr.new⟩ (Nat.zero_le _) (by omega) ?_ (fun acc s' h => he s' h.2.2.2.2.2) (fun acc s' h => hk acc s' h.1 h.2.1 h.2.2.1 h.2.2.2.1 h.2.2.2.2.1 h.2.2.2.2.2)
  rintro j acc s' hj ⟨h1, h2, h3, h4, h5, h6⟩
  obtain ⟨d, ρ, k1, k2, y, s2, k3, k4, k5, k6⟩ := hs j s' hj h4 h5 h6
  refine ⟨d, ρ, k1, k2, true, s', hc ρ s', .inr ⟨rfl, y, s2, k3, (k6.eq s.n h4 hx).trans h3, by omega, by simp [h1], ?_, put_g, Nat.lt_of_lt_of_le h4 k6.le, hI _ _ k5, ?_⟩⟩
  · intro i hi
    rw [List.length_append, List.length_singleton] at hi
    by_cases e : i < acc.length
    · rw [List.getElem_append_left e]
      exact h2 i e
    · have : i = acc.length := by omega
      subst this
      rw [List.getElem_append_right (Nat.le_refl _)]
      simp only [Nat.sub_self, List.getElem_cons_zero]
      rw [h1]; exact k4
  · exact ⟨Nat.le_trans h6.le k6.le, fun q hq hx' => (put_ne (Nat.ne_of_lt hq)).trans ((k6.eq q (Nat.lt_of_lt_of_le hq h6.le) hx').trans (h6.eq q hq hx'))⟩
/-- .. which makes known data -/
theorem lc_map {o : R D} {G : Prop} {src : Src} {tg : D → Option Env} {c : Env → Sto → R Bool} {e : Env → Sto → R D} {m : Nat} {s : Sto} (hX : lcLoop src s.n tg c e m 0 (s.new (.lst [])) = o) (hc : ∀ ρ s, c ρ s = .ok true s) (ys : List D) (hm : ys.length < m) (hn : ys.length ≤ sizeLine)
    (hs : ∀ j (h : j < ys.length) s', s.n < s'.n → Fr (fun _ => False) s s' → ∃ d ρ, sItem src j s' = some (some d) ∧ tg d = some ρ ∧ ∃ s2, e ρ s' = .ok ys[j] s2 ∧ Fr (fun _ => False) s' s2)
    (he : ∀ s', Fr (fun _ => False) s s' → sItem src ys.length s' = some none)
    (hk : ∀ s', s'.g s.n = .lst ys → s.n < s'.n → Fr (fun _ => False) s s' → o = .ok (.ref s.n) s' → G) : G := by
  refine lc_g hX hc ys.length (fun _ => True) (fun _ => False) (fun j y => ys[j]? = some y) trivial (fun _ _ _ => trivial) id hm hn ?_ he ?_
  · intro j s' hj h1 _ h2
    obtain ⟨d, ρ, k1, k2, s2, k3, k4⟩ := hs j hj s' h1 h2
    exact ⟨d, ρ, k1, k2, ys[j], s2, k3, List.getElem?_eq_getElem hj, trivial, k4⟩
  · intro xs s' h1 h2 h3 h4 _ h5 h6
    have : xs = ys := by
      refine List.ext_getElem h1 fun i a b => ?_
      have := h2 i a
      rw [List.getElem?_eq_getElem b] at this
      exact (Option.some.inj this).symm
    subst this
    exact hk s' h3 h4 h5 h6
/-- .. with draws -/
theorem lc_dr {o : R D} {G : Prop} {src : Src} {tg : D → Option Env} {c : Env → Sto → R Bool} {e : Env → Sto → R D} {m : Nat} {s : Sto} {r l : Nat} (hX : lcLoop src s.n tg c e m 0 (s.new (.lst [])) = o) (hc : ∀ ρ s, c ρ s = .ok true s) (n : Nat) (Q : D → Prop) (d : Dr s r l) (hm : n < m) (hn : n ≤ 100)
    (hs : ∀ j s', j < n → Dr s' r l → Fr (· = r) s s' → ∃ d ρ, sItem src j s' = some (some d) ∧ tg d = some ρ ∧ ∃ y s2, e ρ s' = .ok y s2 ∧ Q y ∧ Dr s2 r l ∧ Fr (· = r) s' s2)
    (he : ∀ s', sItem src n s' = some none)
    (hk : ∀ xs s', xs.length = n → (∀ x ∈ xs, Q x) → s'.g s.n = .lst xs → s.n < s'.n → Dr s' r l → Fr (· = r) s s' → o = .ok (.ref s.n) s' → G) : G := by
  refine lc_g hX hc n (fun s' => Dr s' r l) (· = r) (fun _ y => Q y) d.new (fun s' ob h => h.keep (Fr.put (X := (· = s.n)) rfl) (Nat.ne_of_lt d.hr) (Nat.ne_of_lt d.hl)) (Nat.ne_of_gt d.hr) hm (sz_ge hn) (fun j s' h1 _ h2 h3 => hs j s' h1 h2 h3) (fun s' _ => he s') ?_
  intro xs s' h1 h2 h3 h4 h5 h6 h7
  refine hk xs s' h1 (fun x hx => ?_) h3 h4 h5 h6 h7
  obtain ⟨i, hi, rfl⟩ := List.getElem_of_mem hx
  exact h2 i hi
end Ab
set_option Elab.async false
set_option linter.all false
set_option maxRecDepth 100000
set_option maxHeartbeats 2000000
/-! Ab26: texts: numbers, joins, splits -/
namespace Ab
open PySem L2
def num (i : Int) : Str := toString i
theorem tl_num (i : Int) : TL.tl (num i) = if i < 0 then 45 :: TL.numL i.natAbs else TL.numL i.natAbs := by
  cases i with
  | ofNat n =>
    rw [if_neg (by show ¬ (Int.ofNat n < 0); exact Int.not_lt.mpr (Int.natCast_nonneg n))]
    exact TL.tl_num n
  | negSucc m =>
    rw [if_pos (Int.negSucc_lt_zero m)]
    have e : toString (Int.negSucc m) = "-" ++ toString ((m + 1 : Nat) : Int) := rfl
    have h := TL.tl_num (m + 1)
    show TL.tl (Str.ofString (toString (Int.negSucc m))) = _
    rw [e, TL.tl_ofString, String.toList_append, List.map_append]
    rw [TL.tl_ofString] at h
    rw [h]
    rfl
theorem numL_len3 {n : Nat} (h : n < 1000) : (TL.numL n).length ≤ 3 := TL.numL_len (by decide) h
theorem num_len {i : Int} (h : i.natAbs < 1000) : (num i).length ≤ 4 := by
  rw [TL.len_tl, tl_num]
  have := numL_len3 h
  split
  · rw [List.length_cons]; omega
  · omega
theorem num_free {i : Int} {c : Nat} (h : c ≠ 45 ∧ (c < 48 ∨ 57 < c)) : c ∉ TL.tl (num i) := PyProof.Rows.int_text_free' c h i
theorem numL_head {n : Nat} (h : 1 ≤ n) : ∃ c r, TL.numL n = c :: r ∧ 49 ≤ c ∧ c ≤ 57 := by
  induction n using Nat.strongRecOn with
  | _ n ih =>
    by_cases hn : n < 10
    · rw [TL.numL_lt hn]
      exact ⟨48 + n, [], rfl, by omega, by omega⟩
    · obtain ⟨c, r, e, h1, h2⟩ := ih (n / 10) (by omega) (by omega)
      rw [TL.numL_step (by omega), e]
      exact ⟨c, _, rfl, h1, h2⟩
theorem join_len {y : Str} {m : Nat} : ∀ {ps : List Str}, (∀ p ∈ ps, p.length ≤ m) → (Str.join y ps).length ≤ ps.length * (m + y.length)
  | [], _ => Nat.zero_le _
  | [p], h => by
    have := h p (List.mem_cons_self ..)
    show p.length ≤ 1 * (m + y.length)
    omega
  | p :: q :: r, h => by
    have h1 := h p (List.mem_cons_self ..)
    have h2 := join_len (y := y) (ps := q :: r) fun x hx => h x (List.mem_cons_of_mem _ hx)
    show (p ++ y ++ Str.join y (q :: r)).length ≤ _
    rw [Str.length_append, Str.length_append, List.length_cons (a := p), Nat.succ_mul]
    omega
theorem join_snoc {y w : Str} : ∀ {ws : List Str}, ws ≠ [] → Str.join y (ws ++ [w]) = Str.join y ws ++ y ++ w
  | [], h => absurd rfl h
  | [p], _ => rfl
  | p :: q :: r, _ => by
    show p ++ y ++ Str.join y (q :: r ++ [w]) = p ++ y ++ Str.join y (q :: r) ++ y ++ w
    rw [join_snoc (by simp)]
    simp only [Str.append_assoc]
theorem strsO_map : ∀ zs : List Str, strsO (zs.map D.str) = some zs
  | [] => rfl
  | z :: zs => by
    have ih := strsO_map zs
    unfold strsO at ih ⊢
    rw [List.map_cons, optAll, ih]
    rfl
theorem sum_le {m : Nat} : ∀ {zs : List Str}, (∀ z ∈ zs, z.length ≤ m) → (zs.map (·.length)).sum ≤ zs.length * m
  | [], _ => Nat.zero_le _
  | z :: zs, h => by
    have h1 := h z (List.mem_cons_self ..)
    have h2 := sum_le (zs := zs) fun x hx => h x (List.mem_cons_of_mem _ hx)
    rw [List.map_cons, List.sum_cons, List.length_cons, Nat.succ_mul]
    omega
theorem join_is {s : Sto} {e : D} {a : Str} {zs : List Str} {m : Nat} (h : sqOf e s = some (zs.map .str)) (hz : ∀ z ∈ zs, z.length ≤ m) (hl : zs.length * (m + a.length) ≤ 1000000) : mO .join (.str a) [e] s = some (.str (Str.join a zs), s) := by
  simp only [mO, h, Option.bind_some, strsO_map]
  rw [if_pos, TL.join_eq]
  have := sum_le hz
  rw [Nat.mul_add] at hl
  omega
theorem sq_lst {s : Sto} {r : Nat} {xs : List D} (h : s.g r = .lst xs) : sqOf (.ref r) s = some xs := by
  simp only [sqOf, rdOf, h]
theorem split_is {s : Sto} {y : Str} {c : Nat} {r : List Nat} (ey : TL.tl y = c :: r) (hk : y.cps.all (· < 256) = true) {zs : List Str} (hne : zs ≠ []) (hp : ∀ p ∈ zs, c ∉ TL.tl p) (hl : (Str.join y zs).length ≤ 1000000) :
    mO .split (.str (Str.join y zs)) [.str y] s = some (.ref s.n, s.new (.lst (zs.map .str))) := by
  have e := TL.split_join ey hk hne hp
  rw [TL.join_eq] at e
  simp only [mO]
  rw [if_pos, e]
  constructor
  · rw [beq_eq_false_iff_ne, TL.len_tl, ey]; simp
  · show (Str.join y zs).length + 2 ≤ 2 ^ 24
    omega
theorem joinR_s (acc y : Str) (s : Sto) (f : Str → R Str) (h : (acc ++ y).length ≤ sizeLine) : joinR acc (.str y) s f = f (acc ++ y) := if_pos h
theorem joinR_e (y : Str) (s : Sto) (f : Str → R Str) (h : y.length ≤ sizeLine) : joinR Str.empty (.str y) s f = f y := by
  have := joinR_s Str.empty y s f (by rw [Str.empty_append]; exact h)
  rw [Str.empty_append] at this
  exact this
theorem log_small {i : Int} (h : i.natAbs < 1000) : i.natAbs.log2 < 1920 := by
  by_cases z : i.natAbs = 0
  · rw [z]; decide
  · exact (Nat.log2_lt z).mpr (Nat.lt_of_lt_of_le h (by decide))
theorem fmt_int {i : Int} {s : Sto} (h : i.natAbs < 1000) : fmtR (.int i) s = .ok (.str (num i)) s := by
  have e : fmtO (.int i) = some (num i) := if_pos (log_small h)
  unfold fmtR
  rw [e]
theorem fmt_str {x : Str} {s : Sto} (h : x.length ≤ sizeLine) : fmtR (.str x) s = .ok (.str x) s := by
  have e : fmtO (.str x) = some x := if_pos h
  unfold fmtR
  rw [e]
theorem str_int {i : Int} {s : Sto} (h : i.natAbs < 1000) : fO .str [.int i] s = some (.str (num i), s) := by
  simp only [fO, if_pos (log_small h)]
  rfl
theorem str_str {x : Str} {s : Sto} : fO .str [.str x] s = some (.str x, s) := rfl
/-! cuts of texts -/
theorem cutS_to {z : Str} {j : Nat} : TL.tl (cutS z none (some (j : Int))) = (TL.tl z).take j := by
  show ((z.cps.toList.drop 0).take (HT.sIx z.length z.length (some (j : Int)) - 0)) = _
  rw [HT.sIx_nat, List.drop_zero, Nat.sub_zero]
  have e : z.length = z.cps.toList.length := TL.len_tl z
  rw [e]
  by_cases h : j ≤ z.cps.toList.length
  · rw [Nat.min_eq_left h]
  · rw [Nat.min_eq_right (by omega), List.take_length, List.take_of_length_le (show z.cps.toList.length ≤ j by omega)]
theorem cutS_from {z : Str} {j : Nat} (h : j ≤ z.length) : TL.tl (cutS z (some (j : Int)) none) = (TL.tl z).drop j := by
  show ((z.cps.toList.drop (HT.sIx z.length 0 (some (j : Int)))).take (HT.sIx z.length z.length none - HT.sIx z.length 0 (some (j : Int)))) = _
  rw [HT.sIx_nat, Nat.min_eq_left h]
  have e : z.length = z.cps.toList.length := TL.len_tl z
  show (z.cps.toList.drop j).take (z.length - j) = _
  exact List.take_of_length_le (by rw [List.length_drop, ← e]; exact Nat.le_refl _)
theorem cutS_app {a b : Str} : cutS (a ++ b) none (some (a.length : Int)) = a := by
  refine TL.ext_tl ?_
  rw [cutS_to, TL.tl_append, TL.len_tl]
  exact List.take_left' rfl
theorem cutS_app' {a b : Str} : cutS (a ++ b) (some (a.length : Int)) none = b := by
  refine TL.ext_tl ?_
  rw [cutS_from (by rw [Str.length_append]; omega), TL.tl_append, TL.len_tl]
  exact List.drop_left' rfl
theorem slS {z : Str} {lo hi : Option Int} {s : Sto} (h : z.length ≤ sizeLine) : slO (.str z) lo hi s = some (.str (cutS z lo hi), s) := if_pos h
theorem lenS {z : Str} {s : Sto} (h : z.length ≤ sizeLine) : fO .len [.str z] s = some (.int z.length, s) := if_pos h
theorem srcS {z : Str} {s : Sto} : srcR (.str z) s = .ok (.txt z) s := rfl
/-! parse_integer -/
def bInt (g7 g8 : Nat) : Sts := .cons (.asg 1 (.ite (.cmp .eq (.sl (.var 0) .none (.some (.cst (.int 1)))) (.cst (.str "-"))) (.sl (.var 0) (.some (.cst (.int 1))) .none) (.var 0))) (.cons (.iff (.not (.chain .le .le (.cst (.int 1)) (.bf .len (.cons (.var 1) (.nil))) (.glob g8))) (.cons (.never) (.nil)) (.nil)) (.cons (.for_ (.nm 2) (.seq (.var 1)) (.cons (.iff (.cmp .nin (.var 2) (.glob g7)) (.cons (.never) (.nil)) (.nil)) (.nil))) (.cons (.iff (.and (.cmp .eq (.ix (.var 1) (.cst (.int 0))) (.cst (.str "0"))) (.cmp .ne (.var 0) (.cst (.str "0")))) (.cons (.never) (.nil)) (.nil)) (.cons (.ret (.bf .int (.cons (.var 0) (.nil)))) (.nil)))))
theorem dig_in {c : Nat} {s : Sto} (h1 : 48 ≤ c) (h2 : c ≤ 57) : opC .nin (.str ⟨#[c]⟩) (.str "0123456789") s = some (.bl false, s) := by
  have e : ∀ i : Fin 10, (Builtin.Str.occurrences (Str.ofString "0123456789") ⟨#[48 + i.1]⟩ 0 (Str.ofString "0123456789").length 1).isEmpty = false := by decide +kernel
  have e1 := e ⟨c - 48, by omega⟩
  have e2 : 48 + (c - 48) = c := by omega
  simp only [e2] at e1
  show some (D.bl (!!(Builtin.Str.occurrences (Str.ofString "0123456789") ⟨#[c]⟩ 0 (Str.ofString "0123456789").length 1).isEmpty), s) = _
  rw [e1]
  rfl
theorem int_num {i : Int} (h : i.natAbs < 1000) : intText? (num i) = some i := by
  have hl := num_len h
  have h3 := numL_len3 h
  have e := tl_num i
  by_cases c : i < 0
  · rw [if_pos c] at e
    have z := intText_neg (x := num i) (cs := TL.numL i.natAbs) e (TL.numL_digits _) (TL.numL_ne _) (by omega)
    rw [TL.numL_val] at z
    rw [z]
    exact congrArg some (by omega)
  · rw [if_neg c] at e
    have z := intText_digits (x := num i) (by rw [show (num i).cps.toList = _ from e]; exact TL.numL_digits _) (by rw [show (num i).cps.toList = _ from e]; exact TL.numL_ne _) (by omega)
    rw [show (num i).cps.toList = _ from e, TL.numL_val] at z
    rw [z]
    exact congrArg some (by omega)
theorem sz_big {n : Nat} (h : n ≤ 1000000) : n ≤ sizeLine := Nat.le_trans h (by decide)
theorem parse_int_is {T : Tb} {f g7 g8 : Nat} (h : Is T f 3 1 (bInt g7 g8)) (e7 : T.glv.getD g7 .non = .str "0123456789") (e8 : T.glv.getD g8 .non = .int 9) {k fuel : Nat} {i : Int} {s : Sto} (hi : i.natAbs < 1000) :
    (T.gam fuel (k + 1)).fn f [.str (num i)] s = .ok (.int i) s := by
  rw [h.call rfl]
  show (svs _ _ (bInt g7 g8) [some (.str (num i)), none, none] s).fin = _
  have hl := num_len hi
  have h3 := numL_len3 hi
  have e := tl_num i
  have z1 : slO (.str (num i)) none (some 1) s = some (.str (cutS (num i) none (some 1)), s) := slS (sz_big (by omega))
  have z2 : slO (.str (num i)) (some 1) none s = some (.str (cutS (num i) (some 1) none), s) := slS (sz_big (by omega))
  -- the figures
  obtain ⟨fg, hf, hfc⟩ : ∃ fg : Str, TL.tl fg = TL.numL i.natAbs ∧ (if i < 0 then cutS (num i) none (some 1) = "-" ∧ cutS (num i) (some 1) none = fg else cutS (num i) none (some 1) ≠ "-" ∧ num i = fg) := by
    by_cases c : i < 0
    · rw [if_pos c] at e
      refine ⟨cutS (num i) (some 1) none, ?_, ?_⟩
      rotate_left
      · rw [if_pos c]
        refine ⟨?_, rfl⟩
        refine TL.ext_tl ?_
        have := cutS_to (z := num i) (j := 1)
        rw [e] at this
        exact this
      · have := cutS_from (z := num i) (j := 1) (by rw [TL.len_tl, e]; simp)
        rw [e] at this
        exact this
    · rw [if_neg c] at e
      refine ⟨num i, e, ?_⟩
      rw [if_neg c]
      refine ⟨?_, rfl⟩
      intro q
      have t := cutS_to (z := num i) (j := 1)
      have q2 : TL.tl (cutS (num i) none (some ((1 : Nat) : Int))) = [45] := congrArg TL.tl q
      rw [q2, e] at t
      have hd := TL.numL_digits i.natAbs
      cases hn : TL.numL i.natAbs with
      | nil => rw [hn] at t; cases t
      | cons a r =>
        rw [hn] at t hd
        have := hd a (List.mem_cons_self ..)
        have : (45 : Nat) = a := by injection t
        omega
  have lf : fg.length = (TL.numL i.natAbs).length := by rw [TL.len_tl, hf]
  have pos := List.length_pos_iff.mpr (TL.numL_ne i.natAbs)
  have b1 : opC .le (.int 1) (.int (fg.length : Nat)) s = some (.bl true, s) := by
    show some (D.bl (decide _), s) = _
    rw [decide_eq_true (by omega)]
  have b2 : opC .le (.int (fg.length : Nat)) (.int 9) s = some (.bl true, s) := by
    show some (D.bl (decide _), s) = _
    rw [decide_eq_true (by omega)]
  have ln := lenS (z := fg) (s := s) (sz_big (by omega))
  have fin_ : fO .int [.str (num i)] s = some (.int i, s) := by
    show (if (num i).length ≤ 640 then (intText? (num i)).map fun n => (D.int n, s) else none) = _
    rw [if_pos (by omega), int_num hi]
    rfl
  have rest : ∀ m1, (svs (T.gam fuel k) fuel (.cons (.iff (.not (.chain .le .le (.cst (.int 1)) (.bf .len (.cons (.var 1) (.nil))) (.glob g8))) (.cons (.never) (.nil)) (.nil)) (.cons (.for_ (.nm 2) (.seq (.var 1)) (.cons (.iff (.cmp .nin (.var 2) (.glob g7)) (.cons (.never) (.nil)) (.nil)) (.nil))) (.cons (.iff (.and (.cmp .eq (.ix (.var 1) (.cst (.int 0))) (.cst (.str "0"))) (.cmp .ne (.var 0) (.cst (.str "0")))) (.cons (.never) (.nil)) (.nil)) (.cons (.ret (.bf .int (.cons (.var 0) (.nil)))) (.nil))))) [some (.str (num i)), some (.str fg), m1] s).fin = .ok (.int i) s := by
    intro m1
    simp only [fin_nx, fin_rt, fin_ex, ofO_some, ofO_none, asB_bl, asI_int, truR_bl, outS_some, outE_some, outO_some, R.bind_ok, R.bind_ex, R.bind_bad, R.to_ok, R.to_ex, R.to_bad, Out.seq_nx, Out.seq_rt, Out.seq_bk, Out.seq_ct, Out.seq_ex, Out.seq_bad, cond_true, cond_false, gam_gl, gam_ncls, gam_init, gam_kd, List.getElem?_cons_zero, List.getElem?_cons_succ, List.set_cons_zero, List.set_cons_succ, List.cons_append, List.nil_append, k2_ap, gBin_ap, gCmp_ap, gCmpT_ap, gNeg_ap, gCh3_ap, gCh2_ap, gCh_ap, gCh3T_ap, gCh2T_ap, gChT_ap, gAnd2_ap, gAnd_ap, gOr2_ap, gOr_ap, gNot2_ap, gNot_ap, gIte_ap, gIx_ap, gSl2_ap, gSl1_ap, gSl_ap, gRev_ap, gFld_ap, gMk2_ap, gMk_ap, gMt2_ap, gMt_ap, gBf_ap, gBm2_ap, gBm_ap, gIsi_ap, gLc_ap, gStr_ap, gKget_ap, gKin_ap, gCo2_ap, gCo_ap, gOs2_ap, gOs_ap, gRn1_ap, gRn3_ap, gRn2_ap, gRn_ap, gZp_ap, gAndT_ap, gOrT_ap, gNotT_ap, gJ_ap, sNx_ap, sSet_ap, sSetT_ap, sPar2_ap, sPar1_ap, sI3_ap, sI2_ap, sI1_ap, sF2_ap, sF1_ap, sN2_ap, sN1_ap, sA3_ap, sA2_ap, sA1_ap, sR_ap, sIff_ap, sFr_ap, e_var, e_cst, e_glob, e_bin, e_neg, e_cmp, e_chain, e_and, e_or, e_not, e_ite, e_ix, e_sl, e_rev, e_tup, e_lst, e_dnewK, e_dnewT, e_fld, e_call, e_make, e_meth, e_bf, e_bm, e_isi, e_lc, e_fst, e_fmt, e_kget, e_kin, gDk_ap, gDr_ap, gDv_ap, keyR_str, keyR_int, e_disp, d_nil, d_cons, d1_cons, e_nil, e_cons, j_nil, j_cons, o_none, o_some, c_none, c_some, i_seq, i_rng1, i_rng2, i_zp, i_enm, i_keys, t_cmp, t_chain, t_and, t_or, t_not, t_var, t_ix, t_call, t_meth, t_isi, t_kin, t_fld, t_bf, s_nil, s_cons, s_pass, s_doc, s_brk, s_cnt, s_retN, s_expr, s_asg, s_asgL, s_asgT, s_par, s_asgI, s_asgF, s_augN, s_augF, s_ret, s_iff, s_whl, s_for, s_tryN, strR_str, Option.getD_some, Option.getD_none, Option.isSome_some, Option.isSome_none, mVar, gJc_ap, opN, opB, and_self, true_and, and_true, if_true, if_false, Bool.true_or, Bool.not_true, Bool.not_false, eq_self, ln, e8, b1, b2, srcS]
    generalize hX : fLoop _ _ _ _ _ _ _ = o
    refine for_c hX (TL.tl fg).length (fun j ρ s1 => s1 = s ∧ ∃ c, ρ = [some (.str (num i)), some (.str fg), c]) ⟨rfl, m1, rfl⟩ (Nat.zero_le _) ?_ ?_ ?_ ?_
    · show (TL.tl fg).length - 0 < fg.length + 1
      rw [← TL.len_tl]; omega
    · rintro j ρ s1 hj ⟨rfl, c, rfl⟩
      have hd : 48 ≤ (TL.tl fg)[j] ∧ (TL.tl fg)[j] ≤ 57 := by
        have := TL.numL_digits i.natAbs (TL.tl fg)[j] (by rw [← hf]; exact List.getElem_mem hj)
        omega
      refine ⟨.str ⟨#[(TL.tl fg)[j]]⟩, _, ?_, rfl, ?_⟩
      · have : fg.cps[j]? = some (TL.tl fg)[j] := by
          rw [← Array.getElem?_toList]
          exact List.getElem?_eq_getElem hj
        simp only [sItem, this, Option.map_some]
      show ∃ ρ2 s3, (svs _ _ _ [some (.str (num i)), some (.str fg), some (.str ⟨#[(TL.tl fg)[j]]⟩)] s1 = .nx ρ2 s3 ∨ svs _ _ _ [some (.str (num i)), some (.str fg), some (.str ⟨#[(TL.tl fg)[j]]⟩)] s1 = .ct ρ2 s3) ∧ _
      simp only [fin_nx, fin_rt, fin_ex, ofO_some, ofO_none, asB_bl, asI_int, truR_bl, outS_some, outE_some, outO_some, R.bind_ok, R.bind_ex, R.bind_bad, R.to_ok, R.to_ex, R.to_bad, Out.seq_nx, Out.seq_rt, Out.seq_bk, Out.seq_ct, Out.seq_ex, Out.seq_bad, cond_true, cond_false, gam_gl, gam_ncls, gam_init, gam_kd, List.getElem?_cons_zero, List.getElem?_cons_succ, List.set_cons_zero, List.set_cons_succ, List.cons_append, List.nil_append, k2_ap, gBin_ap, gCmp_ap, gCmpT_ap, gNeg_ap, gCh3_ap, gCh2_ap, gCh_ap, gCh3T_ap, gCh2T_ap, gChT_ap, gAnd2_ap, gAnd_ap, gOr2_ap, gOr_ap, gNot2_ap, gNot_ap, gIte_ap, gIx_ap, gSl2_ap, gSl1_ap, gSl_ap, gRev_ap, gFld_ap, gMk2_ap, gMk_ap, gMt2_ap, gMt_ap, gBf_ap, gBm2_ap, gBm_ap, gIsi_ap, gLc_ap, gStr_ap, gKget_ap, gKin_ap, gCo2_ap, gCo_ap, gOs2_ap, gOs_ap, gRn1_ap, gRn3_ap, gRn2_ap, gRn_ap, gZp_ap, gAndT_ap, gOrT_ap, gNotT_ap, gJ_ap, sNx_ap, sSet_ap, sSetT_ap, sPar2_ap, sPar1_ap, sI3_ap, sI2_ap, sI1_ap, sF2_ap, sF1_ap, sN2_ap, sN1_ap, sA3_ap, sA2_ap, sA1_ap, sR_ap, sIff_ap, sFr_ap, e_var, e_cst, e_glob, e_bin, e_neg, e_cmp, e_chain, e_and, e_or, e_not, e_ite, e_ix, e_sl, e_rev, e_tup, e_lst, e_dnewK, e_dnewT, e_fld, e_call, e_make, e_meth, e_bf, e_bm, e_isi, e_lc, e_fst, e_fmt, e_kget, e_kin, gDk_ap, gDr_ap, gDv_ap, keyR_str, keyR_int, e_disp, d_nil, d_cons, d1_cons, e_nil, e_cons, j_nil, j_cons, o_none, o_some, c_none, c_some, i_seq, i_rng1, i_rng2, i_zp, i_enm, i_keys, t_cmp, t_chain, t_and, t_or, t_not, t_var, t_ix, t_call, t_meth, t_isi, t_kin, t_fld, t_bf, s_nil, s_cons, s_pass, s_doc, s_brk, s_cnt, s_retN, s_expr, s_asg, s_asgL, s_asgT, s_par, s_asgI, s_asgF, s_augN, s_augF, s_ret, s_iff, s_whl, s_for, s_tryN, strR_str, Option.getD_some, Option.getD_none, Option.isSome_some, Option.isSome_none, mVar, gJc_ap, opN, opB, and_self, true_and, and_true, if_true, if_false, Bool.true_or, Bool.not_true, Bool.not_false, eq_self, e7, dig_in hd.1 hd.2]
      exact ⟨_, _, .inl rfl, rfl, _, rfl⟩
    · rintro ρ s1 _
      have : fg.cps[(TL.tl fg).length]? = none := by
        rw [← Array.getElem?_toList]
        exact List.getElem?_eq_none (Nat.le_refl _)
      simp only [sItem, this, Option.map_none]
    · rintro ρ' s1 ⟨rfl, c, rfl⟩ rfl
      obtain ⟨a, r, ea⟩ : ∃ a r, TL.tl fg = a :: r := by
        rw [hf]
        cases hn : TL.numL i.natAbs with
        | nil => exact absurd hn (TL.numL_ne _)
        | cons a r => exact ⟨a, r, rfl⟩
      have x0 : ixO (.str fg) (.int 0) s1 = some (.str ⟨#[a]⟩, s1) := by
        show (if fg.length ≤ sizeLine then (atI fg.cps.toList 0).map fun c => (D.str ⟨#[c]⟩, s1) else none) = _
        rw [if_pos (sz_big (by omega))]
        have : atI fg.cps.toList ((0 : Nat) : Int) = some a := Ab.atI_nat (by rw [show fg.cps.toList = _ from ea]; rfl)
        rw [show (0 : Int) = ((0 : Nat) : Int) from rfl, this]
        rfl
      simp only [fin_nx, fin_rt, fin_ex, ofO_some, ofO_none, asB_bl, asI_int, truR_bl, outS_some, outE_some, outO_some, R.bind_ok, R.bind_ex, R.bind_bad, R.to_ok, R.to_ex, R.to_bad, Out.seq_nx, Out.seq_rt, Out.seq_bk, Out.seq_ct, Out.seq_ex, Out.seq_bad, cond_true, cond_false, gam_gl, gam_ncls, gam_init, gam_kd, List.getElem?_cons_zero, List.getElem?_cons_succ, List.set_cons_zero, List.set_cons_succ, List.cons_append, List.nil_append, k2_ap, gBin_ap, gCmp_ap, gCmpT_ap, gNeg_ap, gCh3_ap, gCh2_ap, gCh_ap, gCh3T_ap, gCh2T_ap, gChT_ap, gAnd2_ap, gAnd_ap, gOr2_ap, gOr_ap, gNot2_ap, gNot_ap, gIte_ap, gIx_ap, gSl2_ap, gSl1_ap, gSl_ap, gRev_ap, gFld_ap, gMk2_ap, gMk_ap, gMt2_ap, gMt_ap, gBf_ap, gBm2_ap, gBm_ap, gIsi_ap, gLc_ap, gStr_ap, gKget_ap, gKin_ap, gCo2_ap, gCo_ap, gOs2_ap, gOs_ap, gRn1_ap, gRn3_ap, gRn2_ap, gRn_ap, gZp_ap, gAndT_ap, gOrT_ap, gNotT_ap, gJ_ap, sNx_ap, sSet_ap, sSetT_ap, sPar2_ap, sPar1_ap, sI3_ap, sI2_ap, sI1_ap, sF2_ap, sF1_ap, sN2_ap, sN1_ap, sA3_ap, sA2_ap, sA1_ap, sR_ap, sIff_ap, sFr_ap, e_var, e_cst, e_glob, e_bin, e_neg, e_cmp, e_chain, e_and, e_or, e_not, e_ite, e_ix, e_sl, e_rev, e_tup, e_lst, e_dnewK, e_dnewT, e_fld, e_call, e_make, e_meth, e_bf, e_bm, e_isi, e_lc, e_fst, e_fmt, e_kget, e_kin, gDk_ap, gDr_ap, gDv_ap, keyR_str, keyR_int, e_disp, d_nil, d_cons, d1_cons, e_nil, e_cons, j_nil, j_cons, o_none, o_some, c_none, c_some, i_seq, i_rng1, i_rng2, i_zp, i_enm, i_keys, t_cmp, t_chain, t_and, t_or, t_not, t_var, t_ix, t_call, t_meth, t_isi, t_kin, t_fld, t_bf, s_nil, s_cons, s_pass, s_doc, s_brk, s_cnt, s_retN, s_expr, s_asg, s_asgL, s_asgT, s_par, s_asgI, s_asgF, s_augN, s_augF, s_ret, s_iff, s_whl, s_for, s_tryN, strR_str, Option.getD_some, Option.getD_none, Option.isSome_some, Option.isSome_none, mVar, gJc_ap, opN, opB, and_self, true_and, and_true, if_true, if_false, Bool.true_or, Bool.not_true, Bool.not_false, eq_self, x0, str_eq]
      by_cases ca : (⟨#[a]⟩ : Str) = "0"
      · rw [decide_eq_true ca]
        have a48 : a = 48 := by
          have := congrArg TL.tl ca
          injection this
        have n0 : i.natAbs = 0 := by
          by_cases z : i.natAbs = 0
          · exact z
          · obtain ⟨c, r', e1, e2, e3⟩ := numL_head (n := i.natAbs) (by omega)
            rw [← hf, ea] at e1
            injection e1 with e1 _
            omega
        have i0 : i = 0 := by omega
        have ne : opC .ne (.str (num i)) (.str "0") s1 = some (.bl false, s1) := by
          show some (D.bl (!decide _), s1) = _
          rw [decide_eq_true (by rw [i0]; exact TL.ext_tl (by rw [tl_num]; rfl))]
          rfl
        simp only [fin_nx, fin_rt, fin_ex, ofO_some, ofO_none, asB_bl, asI_int, truR_bl, outS_some, outE_some, outO_some, R.bind_ok, R.bind_ex, R.bind_bad, R.to_ok, R.to_ex, R.to_bad, Out.seq_nx, Out.seq_rt, Out.seq_bk, Out.seq_ct, Out.seq_ex, Out.seq_bad, cond_true, cond_false, gam_gl, gam_ncls, gam_init, gam_kd, List.getElem?_cons_zero, List.getElem?_cons_succ, List.set_cons_zero, List.set_cons_succ, List.cons_append, List.nil_append, k2_ap, gBin_ap, gCmp_ap, gCmpT_ap, gNeg_ap, gCh3_ap, gCh2_ap, gCh_ap, gCh3T_ap, gCh2T_ap, gChT_ap, gAnd2_ap, gAnd_ap, gOr2_ap, gOr_ap, gNot2_ap, gNot_ap, gIte_ap, gIx_ap, gSl2_ap, gSl1_ap, gSl_ap, gRev_ap, gFld_ap, gMk2_ap, gMk_ap, gMt2_ap, gMt_ap, gBf_ap, gBm2_ap, gBm_ap, gIsi_ap, gLc_ap, gStr_ap, gKget_ap, gKin_ap, gCo2_ap, gCo_ap, gOs2_ap, gOs_ap, gRn1_ap, gRn3_ap, gRn2_ap, gRn_ap, gZp_ap, gAndT_ap, gOrT_ap, gNotT_ap, gJ_ap, sNx_ap, sSet_ap, sSetT_ap, sPar2_ap, sPar1_ap, sI3_ap, sI2_ap, sI1_ap, sF2_ap, sF1_ap, sN2_ap, sN1_ap, sA3_ap, sA2_ap, sA1_ap, sR_ap, sIff_ap, sFr_ap, e_var, e_cst, e_glob, e_bin, e_neg, e_cmp, e_chain, e_and, e_or, e_not, e_ite, e_ix, e_sl, e_rev, e_tup, e_lst, e_dnewK, e_dnewT, e_fld, e_call, e_make, e_meth, e_bf, e_bm, e_isi, e_lc, e_fst, e_fmt, e_kget, e_kin, gDk_ap, gDr_ap, gDv_ap, keyR_str, keyR_int, e_disp, d_nil, d_cons, d1_cons, e_nil, e_cons, j_nil, j_cons, o_none, o_some, c_none, c_some, i_seq, i_rng1, i_rng2, i_zp, i_enm, i_keys, t_cmp, t_chain, t_and, t_or, t_not, t_var, t_ix, t_call, t_meth, t_isi, t_kin, t_fld, t_bf, s_nil, s_cons, s_pass, s_doc, s_brk, s_cnt, s_retN, s_expr, s_asg, s_asgL, s_asgT, s_par, s_asgI, s_asgF, s_augN, s_augF, s_ret, s_iff, s_whl, s_for, s_tryN, strR_str, Option.getD_some, Option.getD_none, Option.isSome_some, Option.isSome_none, mVar, gJc_ap, opN, opB, and_self, true_and, and_true, if_true, if_false, Bool.true_or, Bool.not_true, Bool.not_false, eq_self, ne, fin_]
      · rw [decide_eq_false ca]
        simp only [fin_nx, fin_rt, fin_ex, ofO_some, ofO_none, asB_bl, asI_int, truR_bl, outS_some, outE_some, outO_some, R.bind_ok, R.bind_ex, R.bind_bad, R.to_ok, R.to_ex, R.to_bad, Out.seq_nx, Out.seq_rt, Out.seq_bk, Out.seq_ct, Out.seq_ex, Out.seq_bad, cond_true, cond_false, gam_gl, gam_ncls, gam_init, gam_kd, List.getElem?_cons_zero, List.getElem?_cons_succ, List.set_cons_zero, List.set_cons_succ, List.cons_append, List.nil_append, k2_ap, gBin_ap, gCmp_ap, gCmpT_ap, gNeg_ap, gCh3_ap, gCh2_ap, gCh_ap, gCh3T_ap, gCh2T_ap, gChT_ap, gAnd2_ap, gAnd_ap, gOr2_ap, gOr_ap, gNot2_ap, gNot_ap, gIte_ap, gIx_ap, gSl2_ap, gSl1_ap, gSl_ap, gRev_ap, gFld_ap, gMk2_ap, gMk_ap, gMt2_ap, gMt_ap, gBf_ap, gBm2_ap, gBm_ap, gIsi_ap, gLc_ap, gStr_ap, gKget_ap, gKin_ap, gCo2_ap, gCo_ap, gOs2_ap, gOs_ap, gRn1_ap, gRn3_ap, gRn2_ap, gRn_ap, gZp_ap, gAndT_ap, gOrT_ap, gNotT_ap, gJ_ap, sNx_ap, sSet_ap, sSetT_ap, sPar2_ap, sPar1_ap, sI3_ap, sI2_ap, sI1_ap, sF2_ap, sF1_ap, sN2_ap, sN1_ap, sA3_ap, sA2_ap, sA1_ap, sR_ap, sIff_ap, sFr_ap, e_var, e_cst, e_glob, e_bin, e_neg, e_cmp, e_chain, e_and, e_or, e_not, e_ite, e_ix, e_sl, e_rev, e_tup, e_lst, e_dnewK, e_dnewT, e_fld, e_call, e_make, e_meth, e_bf, e_bm, e_isi, e_lc, e_fst, e_fmt, e_kget, e_kin, gDk_ap, gDr_ap, gDv_ap, keyR_str, keyR_int, e_disp, d_nil, d_cons, d1_cons, e_nil, e_cons, j_nil, j_cons, o_none, o_some, c_none, c_some, i_seq, i_rng1, i_rng2, i_zp, i_enm, i_keys, t_cmp, t_chain, t_and, t_or, t_not, t_var, t_ix, t_call, t_meth, t_isi, t_kin, t_fld, t_bf, s_nil, s_cons, s_pass, s_doc, s_brk, s_cnt, s_retN, s_expr, s_asg, s_asgL, s_asgT, s_par, s_asgI, s_asgF, s_augN, s_augF, s_ret, s_iff, s_whl, s_for, s_tryN, strR_str, Option.getD_some, Option.getD_none, Option.isSome_some, Option.isSome_none, mVar, gJc_ap, opN, opB, and_self, true_and, and_true, if_true, if_false, Bool.true_or, Bool.not_true, Bool.not_false, eq_self, fin_]
  unfold bInt
  by_cases c : i < 0
  · rw [if_pos c] at hfc
    simp only [fin_nx, fin_rt, fin_ex, ofO_some, ofO_none, asB_bl, asI_int, truR_bl, outS_some, outE_some, outO_some, R.bind_ok, R.bind_ex, R.bind_bad, R.to_ok, R.to_ex, R.to_bad, Out.seq_nx, Out.seq_rt, Out.seq_bk, Out.seq_ct, Out.seq_ex, Out.seq_bad, cond_true, cond_false, gam_gl, gam_ncls, gam_init, gam_kd, List.getElem?_cons_zero, List.getElem?_cons_succ, List.set_cons_zero, List.set_cons_succ, List.cons_append, List.nil_append, k2_ap, gBin_ap, gCmp_ap, gCmpT_ap, gNeg_ap, gCh3_ap, gCh2_ap, gCh_ap, gCh3T_ap, gCh2T_ap, gChT_ap, gAnd2_ap, gAnd_ap, gOr2_ap, gOr_ap, gNot2_ap, gNot_ap, gIte_ap, gIx_ap, gSl2_ap, gSl1_ap, gSl_ap, gRev_ap, gFld_ap, gMk2_ap, gMk_ap, gMt2_ap, gMt_ap, gBf_ap, gBm2_ap, gBm_ap, gIsi_ap, gLc_ap, gStr_ap, gKget_ap, gKin_ap, gCo2_ap, gCo_ap, gOs2_ap, gOs_ap, gRn1_ap, gRn3_ap, gRn2_ap, gRn_ap, gZp_ap, gAndT_ap, gOrT_ap, gNotT_ap, gJ_ap, sNx_ap, sSet_ap, sSetT_ap, sPar2_ap, sPar1_ap, sI3_ap, sI2_ap, sI1_ap, sF2_ap, sF1_ap, sN2_ap, sN1_ap, sA3_ap, sA2_ap, sA1_ap, sR_ap, sIff_ap, sFr_ap, e_var, e_cst, e_glob, e_bin, e_neg, e_cmp, e_chain, e_and, e_or, e_not, e_ite, e_ix, e_sl, e_rev, e_tup, e_lst, e_dnewK, e_dnewT, e_fld, e_call, e_make, e_meth, e_bf, e_bm, e_isi, e_lc, e_fst, e_fmt, e_kget, e_kin, gDk_ap, gDr_ap, gDv_ap, keyR_str, keyR_int, e_disp, d_nil, d_cons, d1_cons, e_nil, e_cons, j_nil, j_cons, o_none, o_some, c_none, c_some, i_seq, i_rng1, i_rng2, i_zp, i_enm, i_keys, t_cmp, t_chain, t_and, t_or, t_not, t_var, t_ix, t_call, t_meth, t_isi, t_kin, t_fld, t_bf, s_nil, s_cons, s_pass, s_doc, s_brk, s_cnt, s_retN, s_expr, s_asg, s_asgL, s_asgT, s_par, s_asgI, s_asgF, s_augN, s_augF, s_ret, s_iff, s_whl, s_for, s_tryN, strR_str, Option.getD_some, Option.getD_none, Option.isSome_some, Option.isSome_none, mVar, gJc_ap, opN, opB, and_self, true_and, and_true, if_true, if_false, Bool.true_or, Bool.not_true, Bool.not_false, eq_self, z1, z2, str_eq, hfc.1, hfc.2, decide_true]
    exact rest none
  · rw [if_neg c] at hfc
    simp only [fin_nx, fin_rt, fin_ex, ofO_some, ofO_none, asB_bl, asI_int, truR_bl, outS_some, outE_some, outO_some, R.bind_ok, R.bind_ex, R.bind_bad, R.to_ok, R.to_ex, R.to_bad, Out.seq_nx, Out.seq_rt, Out.seq_bk, Out.seq_ct, Out.seq_ex, Out.seq_bad, cond_true, cond_false, gam_gl, gam_ncls, gam_init, gam_kd, List.getElem?_cons_zero, List.getElem?_cons_succ, List.set_cons_zero, List.set_cons_succ, List.cons_append, List.nil_append, k2_ap, gBin_ap, gCmp_ap, gCmpT_ap, gNeg_ap, gCh3_ap, gCh2_ap, gCh_ap, gCh3T_ap, gCh2T_ap, gChT_ap, gAnd2_ap, gAnd_ap, gOr2_ap, gOr_ap, gNot2_ap, gNot_ap, gIte_ap, gIx_ap, gSl2_ap, gSl1_ap, gSl_ap, gRev_ap, gFld_ap, gMk2_ap, gMk_ap, gMt2_ap, gMt_ap, gBf_ap, gBm2_ap, gBm_ap, gIsi_ap, gLc_ap, gStr_ap, gKget_ap, gKin_ap, gCo2_ap, gCo_ap, gOs2_ap, gOs_ap, gRn1_ap, gRn3_ap, gRn2_ap, gRn_ap, gZp_ap, gAndT_ap, gOrT_ap, gNotT_ap, gJ_ap, sNx_ap, sSet_ap, sSetT_ap, sPar2_ap, sPar1_ap, sI3_ap, sI2_ap, sI1_ap, sF2_ap, sF1_ap, sN2_ap, sN1_ap, sA3_ap, sA2_ap, sA1_ap, sR_ap, sIff_ap, sFr_ap, e_var, e_cst, e_glob, e_bin, e_neg, e_cmp, e_chain, e_and, e_or, e_not, e_ite, e_ix, e_sl, e_rev, e_tup, e_lst, e_dnewK, e_dnewT, e_fld, e_call, e_make, e_meth, e_bf, e_bm, e_isi, e_lc, e_fst, e_fmt, e_kget, e_kin, gDk_ap, gDr_ap, gDv_ap, keyR_str, keyR_int, e_disp, d_nil, d_cons, d1_cons, e_nil, e_cons, j_nil, j_cons, o_none, o_some, c_none, c_some, i_seq, i_rng1, i_rng2, i_zp, i_enm, i_keys, t_cmp, t_chain, t_and, t_or, t_not, t_var, t_ix, t_call, t_meth, t_isi, t_kin, t_fld, t_bf, s_nil, s_cons, s_pass, s_doc, s_brk, s_cnt, s_retN, s_expr, s_asg, s_asgL, s_asgT, s_par, s_asgI, s_asgF, s_augN, s_augF, s_ret, s_iff, s_whl, s_for, s_tryN, strR_str, Option.getD_some, Option.getD_none, Option.isSome_some, Option.isSome_none, mVar, gJc_ap, opN, opB, and_self, true_and, and_true, if_true, if_false, Bool.true_or, Bool.not_true, Bool.not_false, eq_self, z1, str_eq, decide_eq_false hfc.1]
    have := rest none
    rw [← hfc.2] at this
    exact this
end Ab
set_option Elab.async false
set_option linter.all false
set_option maxRecDepth 100000
set_option maxHeartbeats 2000000
/-! Ab27: the textual form of a program -/
namespace Ab
open PySem L2
abbrev eI (i : Str × List Int) : D := eIns i.1 i.2
def tVar (v : Int × Bool) : Str := if v.2 then num v.1 ++ "p" else num v.1
def sIns (i : Str × List Int) : List Str := i.1 :: i.2.map num
def tIns (i : Str × List Int) : Str := Str.join " " (sIns i)
def tCode : List (Str × List Int) → Str
  | [] => "code"
  | i :: c => "code " ++ Str.join ", " ((i :: c).map tIns)
def tThr (t : Int × Int) : Str := num t.1 ++ ":" ++ num t.2
def Pg.heads (p : Pg) : Str := Str.join " " ("vars" :: p.vars.map tVar)
def Pg.tails (p : Pg) : Str := Str.join " " ("threads" :: p.ts.map tThr)
def Pg.parts (p : Pg) : List Str := p.heads :: ("locks " ++ num p.locks) :: (p.codes.map tCode ++ [p.tails])
def Pg.text (p : Pg) : Str := Str.join "; " p.parts
structure InsT (i : Str × List Int) : Prop where
  w : i.1 ∈ FM.map (·.1)
  p1 : i.2.length ≤ 4
  p2 : ∀ v ∈ i.2, v.natAbs < 1000
structure TxOk (p : Pg) : Prop where
  v1 : p.vars.length ≤ 4
  v2 : ∀ v ∈ p.vars, v.1.natAbs < 1000
  lk : p.locks ≤ 2
  c2 : p.codes.length ≤ 6
  c3 : ∀ c ∈ p.codes, c.length ≤ 16 ∧ ∀ i ∈ c, InsT i
  t2 : p.ts.length ≤ 4
  t3 : ∀ t ∈ p.ts, t.1.natAbs < 1000 ∧ t.2.natAbs < 1000
theorem words_ok : ∀ w ∈ FM.map (·.1), w.length ≤ 6 ∧ 32 ∉ TL.tl w ∧ 44 ∉ TL.tl w ∧ 58 ∉ TL.tl w ∧ 59 ∉ TL.tl w ∧ (FM.lookup w).isSome = true := by decide +kernel
def ktLen : D → Nat
  | .kt xs => xs.length
  | _ => 0
theorem forms_ok : ∀ kv ∈ FM, ktLen kv.2 ≤ 4 := by
  intro kv h
  simp only [FM, List.mem_cons, List.not_mem_nil, or_false] at h
  rcases h with rfl | rfl | rfl | rfl | rfl | rfl | rfl | rfl | rfl | rfl | rfl | rfl | rfl | rfl | rfl | rfl | rfl | rfl | rfl | rfl | rfl | rfl <;> decide
theorem lookup_mem {α : Type} {w : Str} {v : α} : ∀ {l : List (Str × α)}, l.lookup w = some v → (w, v) ∈ l
  | [], h => nomatch h
  | (x, y) :: l, h => by
    rw [List.lookup_cons] at h
    by_cases e : w = x
    · rw [e, beq_self_eq_true] at h
      cases h
      rw [e]; exact List.mem_cons_self ..
    · rw [beq_eq_false_iff_ne.mpr e] at h
      exact List.mem_cons_of_mem _ (lookup_mem h)
theorem OkIns.tx {vars : List (Int × Bool)} {lk nc pl : Nat} {i : Str × List Int} (h : OkIns FM vars lk nc pl i.1 i.2) (hv : vars.length ≤ 4) (hl : lk ≤ 2) (hn : nc ≤ 6) (hp : pl ≤ 17) : InsT i := by
  obtain ⟨fs, h1, h2, h3, h4, h5⟩ := h.ex
  have m := lookup_mem h1
  have f4 : fs.length ≤ 4 := by
    have := forms_ok _ m
    simpa [ktLen] using this
  refine ⟨List.mem_map.mpr ⟨_, m, rfl⟩, by omega, fun v hv' => ?_⟩
  obtain ⟨j, hj, rfl⟩ := List.getElem_of_mem hv'
  have q := h4 j hj (by omega)
  unfold okPart at q
  split at q
  · omega
  · obtain ⟨b, e1, e2, e3⟩ := q
    rcases bndP_get e1 with ⟨_, rfl⟩ | ⟨_, rfl⟩ | ⟨_, rfl⟩ | ⟨_, rfl⟩ | ⟨_, rfl⟩ <;> omega
theorem OkPg.tx {p : Pg} (ok : OkPg FM p) : TxOk p :=
  ⟨ok.v1, fun v h => by have := ok.v2 v h; omega, ok.lk, ok.c2, fun c h => ⟨(ok.c3 c h).1, fun i hi => ((ok.c3 c h).2 i hi).tx ok.v1 ok.lk ok.c2 (by have := (ok.c3 c h).1; omega)⟩, ok.t2, fun t h => by have := ok.t3 t h; have := ok.c2; omega⟩
/-! how long -/
theorem tVar_len {v : Int × Bool} (h : v.1.natAbs < 1000) : (tVar v).length ≤ 5 := by
  have := num_len h
  unfold tVar
  split
  · rw [Str.length_append]
    have : ("p" : Str).length = 1 := rfl
    omega
  · omega
theorem tThr_len {t : Int × Int} (h : t.1.natAbs < 1000 ∧ t.2.natAbs < 1000) : (tThr t).length ≤ 9 := by
  have := num_len h.1
  have := num_len h.2
  unfold tThr
  rw [Str.length_append, Str.length_append]
  have : (":" : Str).length = 1 := rfl
  omega
theorem sIns_len {i : Str × List Int} (h : InsT i) : ∀ z ∈ sIns i, z.length ≤ 6 := by
  intro z hz
  rcases List.mem_cons.mp hz with rfl | hz
  · exact (words_ok _ h.w).1
  · obtain ⟨v, hv, rfl⟩ := List.mem_map.mp hz
    have := num_len (h.p2 v hv)
    omega
theorem sIns_n {i : Str × List Int} (h : InsT i) : (sIns i).length ≤ 5 := by
  have := h.p1
  show (i.2.map num).length + 1 ≤ 5
  rw [List.length_map]
  omega
theorem tIns_len {i : Str × List Int} (h : InsT i) : (tIns i).length ≤ 35 := by
  have a := join_len (y := " ") (sIns_len h)
  have b := sIns_n h
  have : (" " : Str).length = 1 := rfl
  rw [this] at a
  exact Nat.le_trans a (by omega)
theorem codeJ_len {c : List (Str × List Int)} (h : c.length ≤ 16) (hi : ∀ i ∈ c, InsT i) : (Str.join ", " (c.map tIns)).length ≤ 592 := by
  have a := join_len (y := ", ") (m := 35) (ps := c.map tIns) (fun p hp => by
    obtain ⟨i, h1, rfl⟩ := List.mem_map.mp hp
    exact tIns_len (hi i h1))
  have : (", " : Str).length = 2 := rfl
  rw [this, List.length_map] at a
  exact Nat.le_trans a (by omega)
theorem tCode_len {c : List (Str × List Int)} (h : c.length ≤ 16) (hi : ∀ i ∈ c, InsT i) : (tCode c).length ≤ 600 := by
  cases c with
  | nil => show ("code" : Str).length ≤ 600; decide
  | cons i c =>
    have := codeJ_len h hi
    show (("code " : Str) ++ Str.join ", " ((i :: c).map tIns)).length ≤ 600
    rw [Str.length_append]
    have : ("code " : Str).length = 5 := rfl
    omega
theorem heads_part {p : Pg} (h : TxOk p) : ∀ z ∈ (("vars" : Str) :: p.vars.map tVar), z.length ≤ 9 := by
  intro z hz
  rcases List.mem_cons.mp hz with rfl | hz
  · decide
  · obtain ⟨v, hv, rfl⟩ := List.mem_map.mp hz
    have := tVar_len (h.v2 v hv)
    omega
theorem tails_part {p : Pg} (h : TxOk p) : ∀ z ∈ (("threads" : Str) :: p.ts.map tThr), z.length ≤ 9 := by
  intro z hz
  rcases List.mem_cons.mp hz with rfl | hz
  · decide
  · obtain ⟨v, hv, rfl⟩ := List.mem_map.mp hz
    exact tThr_len (h.t3 v hv)
theorem heads_len {p : Pg} (h : TxOk p) : p.heads.length ≤ 50 := by
  have a := join_len (y := " ") (heads_part h)
  have b := h.v1
  have : (" " : Str).length = 1 := rfl
  rw [this, List.length_cons, List.length_map] at a
  exact Nat.le_trans a (by omega)
theorem tails_len {p : Pg} (h : TxOk p) : p.tails.length ≤ 50 := by
  have a := join_len (y := " ") (tails_part h)
  have b := h.t2
  have : (" " : Str).length = 1 := rfl
  rw [this, List.length_cons, List.length_map] at a
  exact Nat.le_trans a (by omega)
theorem parts_part {p : Pg} (h : TxOk p) : ∀ z ∈ p.parts, z.length ≤ 600 := by
  intro z hz
  rcases List.mem_cons.mp hz with rfl | hz
  · have := heads_len h; omega
  rcases List.mem_cons.mp hz with rfl | hz
  · rw [Str.length_append]
    have := num_len (i := (p.locks : Int)) (by have := h.lk; omega)
    have : ("locks " : Str).length = 6 := rfl
    omega
  rcases List.mem_append.mp hz with hz | hz
  · obtain ⟨c, hc, rfl⟩ := List.mem_map.mp hz
    exact tCode_len (h.c3 c hc).1 (h.c3 c hc).2
  · cases List.mem_singleton.mp hz
    have := tails_len h; omega
theorem parts_n {p : Pg} (h : TxOk p) : p.parts.length ≤ 9 := by
  have := h.c2
  show (p.codes.map tCode ++ [p.tails]).length + 1 + 1 ≤ 9
  rw [List.length_append, List.length_map, List.length_singleton]
  omega
theorem text_len {p : Pg} (h : TxOk p) : p.text.length ≤ 10000 := by
  have a := join_len (y := "; ") (parts_part h)
  have b := parts_n h
  have : ("; " : Str).length = 2 := rfl
  rw [this] at a
  exact Nat.le_trans a (by omega)
theorem tyJ (a : Str) (s : Sto) : tyO .join (.str a) s = true := rfl
theorem tyS (a : Str) (s : Sto) : tyO .split (.str a) s = true := rfl
/-- the parts of an instruction, written -/
theorem insJ {Γ : Gam} {ρ : Env} {s : Sto} {x y : Nat} {i : Str × List Int} (h : ρ[y]? = some (some (eI i))) (hx : x < ρ.length) (it : InsT i) :
    ∃ s', ev Γ (.bm .join (.cst (.str " ")) (.cons (.lc [x] (.nm x) (.seq (.var y)) .none (.bf .str (.cons (.var x) (.nil)))) (.nil))) ρ s = .ok (.str (tIns i)) s' ∧ Fr (fun _ => False) s s' := by
  have e0 : ∀ s, ev Γ (.var y) ρ s = .ok (eI i) s := fun s => by show mVar y ρ s = _; exact mVar_at h
  have e1 : ∀ s, srcR (eI i) s = .ok (.fix (.str i.1 :: i.2.map .int)) s := fun _ => rfl
  rw [e_bm, e_cst, R.bind_ok, gBm_ap, tyJ, if_pos rfl, e_cons, e_lc, i_seq, e0, R.bind_ok, e1, R.bind_ok, gLc_ap]
  generalize hX : lcLoop _ _ _ _ _ _ _ _ = o
  have n5 := sIns_n it
  refine lc_map hX (fun _ _ => rfl) ((sIns i).map .str) ?_ ?_ ?_ ?_ ?_
  · show ((i.1 :: i.2.map num).map D.str).length < (D.str i.1 :: i.2.map D.int).length + 1
    simp
  · rw [List.length_map]; exact sz_ge (by omega)
  · intro j hj s' _ _
    have hj2 : j < (D.str i.1 :: i.2.map D.int).length := by
      have : j < ((i.1 :: i.2.map num).map D.str).length := hj
      simpa using this
    refine ⟨(D.str i.1 :: i.2.map D.int)[j], _, by show some ((D.str i.1 :: i.2.map D.int)[j]?) = _; rw [List.getElem?_eq_getElem hj2], rfl, s', ?_, Fr.refl⟩
    have e2 : ev Γ (.var x) ((wipeD ρ [x]).set x (some (D.str i.1 :: i.2.map D.int)[j])) s' = .ok (D.str i.1 :: i.2.map D.int)[j] s' := by
      show mVar x _ s' = _
      refine mVar_at ?_
      show ((ρ.set x none).set x _)[x]? = _
      rw [List.set_set, List.getElem?_set_self hx]
    rw [e_bf, e_cons, e2, R.bind_ok, gCo_ap, e_nil, R.bind_ok, gCo2_ap, R.bind_ok, gBf_ap]
    have key : fO .str [(D.str i.1 :: i.2.map D.int)[j]] s' = some (((sIns i).map D.str)[j], s') := by
      cases j with
      | zero => rfl
      | succ j =>
        have hj3 : j < i.2.length := by simpa using hj2
        have : (D.str i.1 :: i.2.map D.int)[j + 1] = .int i.2[j] := by simp
        rw [this, str_int (it.p2 _ (List.getElem_mem hj3))]
        simp [sIns]
    rw [key, ofO_some]
  · intro s' _
    show some ((D.str i.1 :: i.2.map D.int)[((sIns i).map D.str).length]?) = _
    rw [List.getElem?_eq_none (by simp [sIns])]
  · rintro s' g1 g2 g3 rfl
    refine ⟨s', ?_, g3⟩
    rw [R.bind_ok, gCo_ap, e_nil, R.bind_ok, gCo2_ap, R.bind_ok, gBm2_ap, join_is (m := 6) (sq_lst g1) (sIns_len it) (by have : (" " : Str).length = 1 := rfl; rw [this]; omega), ofO_some]
    rfl
end Ab
set_option Elab.async false
set_option linter.all false
set_option maxRecDepth 100000
set_option maxHeartbeats 2000000
/-! Ab28: cuts at the end, free texts -/
namespace Ab
open PySem L2
theorem sIx_m1 {n d : Nat} : HT.sIx n d (some (-1)) = n - 1 := by
  show (if (-1 : Int) < 0 then ((-1 : Int) + (n : Int)).toNat else min (-1 : Int).toNat n) = _
  rw [if_pos (by decide)]
  omega
theorem cutS_last {a : Str} {c : Nat} : cutS (a ++ ⟨#[c]⟩) (some (-1)) none = ⟨#[c]⟩ := by
  refine TL.ext_tl ?_
  show ((a ++ ⟨#[c]⟩ : Str).cps.toList.drop (HT.sIx _ 0 (some (-1)))).take (HT.sIx (a ++ ⟨#[c]⟩ : Str).length (a ++ ⟨#[c]⟩ : Str).length none - HT.sIx (a ++ ⟨#[c]⟩ : Str).length 0 (some (-1))) = [c]
  have l : (a ++ ⟨#[c]⟩ : Str).length = a.length + 1 := by rw [Str.length_append]; rfl
  rw [sIx_m1, l, show HT.sIx (a.length + 1) (a.length + 1) none = a.length + 1 from rfl, show a.length + 1 - (a.length + 1 - 1) = 1 from by omega, show a.length + 1 - 1 = a.length from by omega]
  show ((TL.tl (a ++ ⟨#[c]⟩)).drop a.length).take 1 = [c]
  rw [TL.tl_append, TL.len_tl, List.drop_left' rfl]
  rfl
theorem cutS_init {a : Str} {c : Nat} : cutS (a ++ ⟨#[c]⟩) none (some (-1)) = a := by
  refine TL.ext_tl ?_
  show ((a ++ ⟨#[c]⟩ : Str).cps.toList.drop 0).take (HT.sIx (a ++ ⟨#[c]⟩ : Str).length (a ++ ⟨#[c]⟩ : Str).length (some (-1)) - 0) = _
  have l : (a ++ ⟨#[c]⟩ : Str).length = a.length + 1 := by rw [Str.length_append]; rfl
  rw [sIx_m1, l, List.drop_zero, show a.length + 1 - 1 - 0 = a.length from by omega]
  show (TL.tl (a ++ ⟨#[c]⟩)).take a.length = _
  rw [TL.tl_append, TL.len_tl, List.take_left' rfl]
/-- a number ends in a digit -/
theorem num_last (i : Int) : ∃ (a : Str) (c : Nat), num i = a ++ ⟨#[c]⟩ ∧ 48 ≤ c ∧ c ≤ 57 := by
  obtain ⟨l, c, e, h1, h2⟩ : ∃ l c, TL.tl (num i) = l ++ [c] ∧ 48 ≤ c ∧ c ≤ 57 := by
    rw [tl_num]
    have ne := TL.numL_ne i.natAbs
    have hd := TL.numL_digits i.natAbs
    have e := List.dropLast_concat_getLast ne
    have := hd _ (List.getLast_mem ne)
    split
    · exact ⟨45 :: (TL.numL i.natAbs).dropLast, (TL.numL i.natAbs).getLast ne, by rw [List.cons_append, e], by omega, by omega⟩
    · exact ⟨(TL.numL i.natAbs).dropLast, (TL.numL i.natAbs).getLast ne, e.symm, by omega, by omega⟩
  refine ⟨⟨l.toArray⟩, c, TL.ext_tl ?_, h1, h2⟩
  rw [e, TL.tl_append]
theorem free_join {c : Nat} {y : Str} (hy : c ∉ TL.tl y) : ∀ {ps : List Str}, (∀ p ∈ ps, c ∉ TL.tl p) → c ∉ TL.tl (Str.join y ps)
  | [], _ => List.not_mem_nil
  | [p], h => h p (List.mem_singleton.mpr rfl)
  | p :: q :: r, h => by
    have ih := free_join hy (ps := q :: r) fun x hx => h x (List.mem_cons_of_mem _ hx)
    have h1 := h p (List.mem_cons_self ..)
    show c ∉ TL.tl (p ++ y ++ Str.join y (q :: r))
    rw [TL.tl_append, TL.tl_append]
    intro hm
    rcases List.mem_append.mp hm with hm | hm
    · rcases List.mem_append.mp hm with hm | hm
      · exact h1 hm
      · exact hy hm
    · exact ih hm
theorem free_app {c : Nat} {x y : Str} (h : c ∉ TL.tl x) (h' : c ∉ TL.tl y) : c ∉ TL.tl (x ++ y) := by
  rw [TL.tl_append]
  intro hm
  rcases List.mem_append.mp hm with hm | hm
  · exact h hm
  · exact h' hm
theorem tVar_free {v : Int × Bool} {c : Nat} (h : c ≠ 45 ∧ (c < 48 ∨ 57 < c)) (hp : c ≠ 112) : c ∉ TL.tl (tVar v) := by
  unfold tVar
  split
  · refine free_app (num_free h) ?_
    intro hm
    exact hp (List.mem_singleton.mp hm)
  · exact num_free h
theorem tThr_free {t : Int × Int} {c : Nat} (h : c ≠ 45 ∧ (c < 48 ∨ 57 < c)) (hp : c ≠ 58) : c ∉ TL.tl (tThr t) := by
  unfold tThr
  refine free_app (free_app (num_free h) ?_) (num_free h)
  intro hm
  exact hp (List.mem_singleton.mp hm)
theorem sIns_free {i : Str × List Int} (h : InsT i) {c : Nat} (hc : c = 32 ∨ c = 44 ∨ c = 59) : ∀ z ∈ sIns i, c ∉ TL.tl z := by
  intro z hz
  obtain ⟨_, w1, w2, _, w4, _⟩ := words_ok _ h.w
  rcases List.mem_cons.mp hz with rfl | hz
  · rcases hc with rfl | rfl | rfl
    · exact w1
    · exact w2
    · exact w4
  · obtain ⟨v, hv, rfl⟩ := List.mem_map.mp hz
    exact num_free (by omega)
theorem tIns_free {i : Str × List Int} (h : InsT i) {c : Nat} (hc : c = 44 ∨ c = 59) : c ∉ TL.tl (tIns i) :=
  free_join (by
    intro hm
    have : c = 32 := List.mem_singleton.mp hm
    omega) (sIns_free h (.inr hc))
theorem tCode_free {c : List (Str × List Int)} (hi : ∀ i ∈ c, InsT i) : 59 ∉ TL.tl (tCode c) := by
  cases c with
  | nil => show 59 ∉ TL.tl ("code" : Str); decide
  | cons i c =>
    refine free_app (by decide) (free_join (by decide) fun p hp => ?_)
    obtain ⟨x, hx, rfl⟩ := List.mem_map.mp hp
    exact tIns_free (hi x hx) (.inr rfl)
theorem heads_free {p : Pg} : 59 ∉ TL.tl p.heads := by
  refine free_join (by decide) fun z hz => ?_
  rcases List.mem_cons.mp hz with rfl | hz
  · decide
  · obtain ⟨v, hv, rfl⟩ := List.mem_map.mp hz
    exact tVar_free (by omega) (by omega)
theorem tails_free {p : Pg} : 59 ∉ TL.tl p.tails := by
  refine free_join (by decide) fun z hz => ?_
  rcases List.mem_cons.mp hz with rfl | hz
  · decide
  · obtain ⟨v, hv, rfl⟩ := List.mem_map.mp hz
    exact tThr_free (by omega) (by omega)
theorem parts_free {p : Pg} (h : TxOk p) : ∀ z ∈ p.parts, 59 ∉ TL.tl z := by
  intro z hz
  rcases List.mem_cons.mp hz with rfl | hz
  · exact heads_free
  rcases List.mem_cons.mp hz with rfl | hz
  · exact free_app (by decide) (num_free (by omega))
  rcases List.mem_append.mp hz with hz | hz
  · obtain ⟨c, hc, rfl⟩ := List.mem_map.mp hz
    exact tCode_free (h.c3 c hc).2
  · cases List.mem_singleton.mp hz
    exact tails_free
theorem heads_sp {p : Pg} : ∀ z ∈ (("vars" : Str) :: p.vars.map tVar), 32 ∉ TL.tl z := by
  intro z hz
  rcases List.mem_cons.mp hz with rfl | hz
  · decide
  · obtain ⟨v, hv, rfl⟩ := List.mem_map.mp hz
    exact tVar_free (by omega) (by omega)
theorem tails_sp {p : Pg} : ∀ z ∈ (("threads" : Str) :: p.ts.map tThr), 32 ∉ TL.tl z := by
  intro z hz
  rcases List.mem_cons.mp hz with rfl | hz
  · decide
  · obtain ⟨v, hv, rfl⟩ := List.mem_map.mp hz
    exact tThr_free (by omega) (by omega)
theorem sl_from {s : Sto} {r j : Nat} {xs : List D} (h : s.g r = .lst xs) (hj : j ≤ xs.length) : slO (.ref r) (some (j : Int)) none s = some (.ref s.n, s.new (.lst (xs.drop j))) := by
  simp only [slO, rdOf, h, Option.bind_some, cut_from hj]
/-- xs[j:-1] -/
theorem cut_mid {xs : List D} {j : Nat} : cutD xs (some (j : Int)) (some (-1)) = (xs.drop (min j xs.length)).take (xs.length - 1 - min j xs.length) := by
  unfold cutD
  rw [sIx_m1, HT.sIx_nat]
theorem atI_last {α : Type} {xs : List α} {x : α} : atI (xs ++ [x]) (-1) = some x := by
  unfold atI ixN
  rw [if_neg (by decide), if_pos (by simp; omega)]
  have e : ((-1 : Int) + ((xs ++ [x]).length : Nat)).toNat = xs.length := by rw [List.length_append, List.length_singleton]; omega
  rw [e]
  show (xs ++ [x])[xs.length]? = some x
  rw [List.getElem?_append_right (Nat.le_refl _), Nat.sub_self]
  rfl
theorem srcD {s : Sto} {q : Nat} {xs : List D} (h : s.g q = .lst xs) : srcR (.ref q) s = .ok (.dyn q) s := src_lst h
theorem itemD {s : Sto} {q : Nat} {xs : List D} (h : s.g q = .lst xs) (j : Nat) : sItem (.dyn q) j s = some xs[j]? := by
  simp only [sItem, rdOf, h, Option.map_some]
theorem manyD {s : Sto} {q : Nat} {xs : List D} (h : s.g q = .lst xs) : sMany (.dyn q) s = xs.length + 1 := by
  simp only [sMany, rdOf, h, Option.getD_some]
end Ab
set_option Elab.async false
set_option linter.all false
set_option maxRecDepth 100000
set_option maxHeartbeats 0
namespace Lk61
open PySem L2 Ab
def top (i : Nat) : Stmt := PySem.Challenge.pw_everyweave_k61_programs_are_written.main.body.getD i (.Pass ⟨0, 0, 0, 0⟩)
/-- is_integer(value); slots ['value'] -/
def b0 : Sts := .cons (.ret (.and (.isi (.var 0) "int") (.not (.isi (.var 0) "bool")))) (.nil)
def d0 : Df := ⟨("is_integer", none), "is_integer", "is_integer", (top 13), ["value"], ["value"], b0⟩
/-- is_below(value, bound); slots ['value', 'bound'] -/
def b1 : Sts := .cons (.ret (.and (.call 0 (.cons (.var 0) (.nil))) (.chain .le .lt (.cst (.int 0)) (.var 0) (.var 1)))) (.nil)
def d1 : Df := ⟨("is_below", none), "is_below", "is_below", (top 14), ["value", "bound"], ["value", "bound"], b1⟩
/-- is_value(value); slots ['value'] -/
def b2 : Sts := .cons (.ret (.and (.call 0 (.cons (.var 0) (.nil))) (.chain .le .le (.neg (.glob 0)) (.var 0) (.glob 0)))) (.nil)
def d2 : Df := ⟨("is_value", none), "is_value", "is_value", (top 15), ["value"], ["value"], b2⟩
/-- check_part(part, form, bounds); slots ['part', 'form', 'bounds'] -/
def b3 : Sts := .cons (.iff (.cmp .eq (.var 1) (.cst (.str "value"))) (.cons (.iff (.not (.call 2 (.cons (.var 0) (.nil)))) (.cons (.never) (.nil)) (.nil)) (.nil)) (.cons (.iff (.not (.call 1 (.cons (.var 0) (.cons (.ix (.var 2) (.var 1)) (.nil))))) (.cons (.never) (.nil)) (.nil)) (.nil))) (.nil)
def d3 : Df := ⟨("check_part", none), "check_part", "check_part", (top 16), ["part", "form", "bounds"], ["part", "form", "bounds"], b3⟩
/-- check_instruction(instruction, bounds, variables); slots ['instruction', 'bounds', 'variables', 'forms', 'part', 'form'] -/
def b4 : Sts := .cons (.iff (.or (.not (.isi (.var 0) "tuple")) (.or (.not (.var 0)) (.not (.isi (.ix (.var 0) (.cst (.int 0))) "str")))) (.cons (.never) (.nil)) (.nil)) (.cons (.asg 3 (.kget 0 (.ix (.var 0) (.cst (.int 0))))) (.cons (.iff (.or (.cmp .is (.var 3) (.cst (.non))) (.cmp .ne (.bf .len (.cons (.var 3) (.nil))) (.bin .sub (.bf .len (.cons (.var 0) (.nil))) (.cst (.int 1))))) (.cons (.never) (.nil)) (.nil)) (.cons (.for_ (.tp (.cons (.nm 4) (.cons (.nm 5) (.nil)))) (.zp (.sl (.var 0) (.some (.cst (.int 1))) .none) (.var 3)) (.cons (.expr (.call 3 (.cons (.var 4) (.cons (.var 5) (.cons (.var 1) (.nil)))))) (.cons (.iff (.and (.cmp .eq (.var 5) (.cst (.str "variable"))) (.and (.ix (.ix (.var 2) (.var 4)) (.cst (.int 1))) (.cmp .nin (.ix (.var 0) (.cst (.int 0))) (.tup (.cons (.cst (.str "load")) (.cons (.cst (.str "store")) (.nil))))))) (.cons (.never) (.nil)) (.nil)) (.nil)))) (.nil))))
def d4 : Df := ⟨("check_instruction", none), "check_instruction", "check_instruction", (top 17), ["instruction", "bounds", "variables", "forms", "part", "form"], ["instruction", "bounds", "variables"], b4⟩
/-- check_variables(variables); slots ['variables', 'variable'] -/
def b5 : Sts := .cons (.iff (.or (.not (.isi (.var 0) "tuple")) (.cmp .gt (.bf .len (.cons (.var 0) (.nil))) (.glob 1))) (.cons (.never) (.nil)) (.nil)) (.cons (.for_ (.nm 1) (.seq (.var 0)) (.cons (.iff (.or (.not (.isi (.var 1) "tuple")) (.cmp .ne (.bf .len (.cons (.var 1) (.nil))) (.cst (.int 2)))) (.cons (.never) (.nil)) (.nil)) (.cons (.iff (.or (.not (.call 2 (.cons (.ix (.var 1) (.cst (.int 0))) (.nil)))) (.not (.isi (.ix (.var 1) (.cst (.int 1))) "bool"))) (.cons (.never) (.nil)) (.nil)) (.nil)))) (.nil))
def d5 : Df := ⟨("check_variables", none), "check_variables", "check_variables", (top 18), ["variables", "variable"], ["variables"], b5⟩
/-- check_threads(threads, codes); slots ['threads', 'codes', 'thread'] -/
def b6 : Sts := .cons (.iff (.or (.not (.isi (.var 0) "tuple")) (.not (.chain .le .le (.cst (.int 1)) (.bf .len (.cons (.var 0) (.nil))) (.glob 5)))) (.cons (.never) (.nil)) (.nil)) (.cons (.for_ (.nm 2) (.seq (.var 0)) (.cons (.iff (.or (.not (.isi (.var 2) "tuple")) (.cmp .ne (.bf .len (.cons (.var 2) (.nil))) (.cst (.int 2)))) (.cons (.never) (.nil)) (.nil)) (.cons (.iff (.or (.not (.call 1 (.cons (.ix (.var 2) (.cst (.int 0))) (.cons (.var 1) (.nil))))) (.not (.call 2 (.cons (.ix (.var 2) (.cst (.int 1))) (.nil))))) (.cons (.never) (.nil)) (.nil)) (.nil)))) (.nil))
def d6 : Df := ⟨("check_threads", none), "check_threads", "check_threads", (top 19), ["threads", "codes", "thread"], ["threads", "codes"], b6⟩
/-- check_program(program); slots ['program', 'variables', 'locks', 'codes', 'threads', 'bounds', 'code', 'instruction'] -/
def b7 : Sts := .cons (.iff (.or (.not (.isi (.var 0) "tuple")) (.cmp .ne (.bf .len (.cons (.var 0) (.nil))) (.cst (.int 4)))) (.cons (.never) (.nil)) (.nil)) (.cons (.asgT (.tp (.cons (.nm 1) (.cons (.nm 2) (.cons (.nm 3) (.cons (.nm 4) (.nil)))))) (.var 0)) (.cons (.expr (.call 5 (.cons (.var 1) (.nil)))) (.cons (.iff (.not (.call 1 (.cons (.var 2) (.cons (.bin .add (.glob 2) (.cst (.int 1))) (.nil))))) (.cons (.never) (.nil)) (.nil)) (.cons (.iff (.or (.not (.isi (.var 3) "tuple")) (.not (.chain .le .le (.cst (.int 1)) (.bf .len (.cons (.var 3) (.nil))) (.glob 3)))) (.cons (.never) (.nil)) (.nil)) (.cons (.asg 5 (.disp (.cons (.cst (.str "register")) (.cons (.glob 6) (.cons (.cst (.str "variable")) (.cons (.bf .len (.cons (.var 1) (.nil))) (.cons (.cst (.str "lock")) (.cons (.var 2) (.cons (.cst (.str "code")) (.cons (.bf .len (.cons (.var 3) (.nil))) (.nil))))))))))) (.cons (.for_ (.nm 6) (.seq (.var 3)) (.cons (.iff (.or (.not (.isi (.var 6) "tuple")) (.cmp .gt (.bf .len (.cons (.var 6) (.nil))) (.glob 4))) (.cons (.never) (.nil)) (.nil)) (.cons (.asgI (.var 5) (.cst (.str "place")) (.bin .add (.bf .len (.cons (.var 6) (.nil))) (.cst (.int 1)))) (.cons (.for_ (.nm 7) (.seq (.var 6)) (.cons (.expr (.call 4 (.cons (.var 7) (.cons (.var 5) (.cons (.var 1) (.nil)))))) (.nil))) (.nil))))) (.cons (.expr (.call 6 (.cons (.var 4) (.cons (.bf .len (.cons (.var 3) (.nil))) (.nil))))) (.nil))))))))
def d7 : Df := ⟨("check_program", none), "check_program", "check_program", (top 20), ["program", "variables", "locks", "codes", "threads", "bounds", "code", "instruction"], ["program"], b7⟩
/-- format_instruction(instruction); slots ['instruction', 'part'] -/
def b8 : Sts := .cons (.ret (.bm .join (.cst (.str " ")) (.cons (.lc [1] (.nm 1) (.seq (.var 0)) .none (.bf .str (.cons (.var 1) (.nil)))) (.nil)))) (.nil)
def d8 : Df := ⟨("format_instruction", none), "format_instruction", "format_instruction", (top 24), ["instruction", "part"], ["instruction"], b8⟩
/-- format_program(program); slots ['program', 'variables', 'locks', 'codes', 'threads', 'words', 'parts', 'code', 'text', 'first', 'plain', 'instruction', 'argument'] -/
def b9 : Sts := .cons (.expr (.call 7 (.cons (.var 0) (.nil)))) (.cons (.asgT (.tp (.cons (.nm 1) (.cons (.nm 2) (.cons (.nm 3) (.cons (.nm 4) (.nil)))))) (.var 0)) (.cons (.asg 5 (.bin .add (.lst (.cons (.cst (.str "vars")) (.nil))) (.lc [9, 10] (.tp (.cons (.nm 9) (.cons (.nm 10) (.nil)))) (.seq (.var 1)) .none (.ite (.var 10) (.fst (.cons (.fmt (.var 9)) (.cons (.cst (.str "p")) (.nil)))) (.bf .str (.cons (.var 9) (.nil))))))) (.cons (.asg 6 (.lst (.cons (.bm .join (.cst (.str " ")) (.cons (.var 5) (.nil))) (.cons (.fst (.cons (.cst (.str "locks ")) (.cons (.fmt (.var 2)) (.nil)))) (.nil))))) (.cons (.for_ (.nm 7) (.seq (.var 3)) (.cons (.asg 8 (.bm .join (.cst (.str ", ")) (.cons (.lc [11] (.nm 11) (.seq (.var 7)) .none (.call 8 (.cons (.var 11) (.nil)))) (.nil)))) (.cons (.expr (.bm .append (.var 6) (.cons (.ite (.var 7) (.fst (.cons (.cst (.str "code ")) (.cons (.fmt (.var 8)) (.nil)))) (.cst (.str "code"))) (.nil)))) (.nil)))) (.cons (.expr (.bm .append (.var 6) (.cons (.bm .join (.cst (.str " ")) (.cons (.bin .add (.lst (.cons (.cst (.str "threads")) (.nil))) (.lc [7, 12] (.tp (.cons (.nm 7) (.cons (.nm 12) (.nil)))) (.seq (.var 4)) .none (.fst (.cons (.fmt (.var 7)) (.cons (.cst (.str ":")) (.cons (.fmt (.var 12)) (.nil))))))) (.nil))) (.nil)))) (.cons (.ret (.bm .join (.cst (.str "; ")) (.cons (.var 6) (.nil)))) (.nil)))))))
def d9 : Df := ⟨("format_program", none), "format_program", "format_program", (top 25), ["program", "variables", "locks", "codes", "threads", "words", "parts", "code", "text", "first", "plain", "instruction", "argument"], ["program"], b9⟩
/-- parse_integer(word); slots ['word', 'figures', 'sign'] -/
def b10 : Sts := .cons (.asg 1 (.ite (.cmp .eq (.sl (.var 0) .none (.some (.cst (.int 1)))) (.cst (.str "-"))) (.sl (.var 0) (.some (.cst (.int 1))) .none) (.var 0))) (.cons (.iff (.not (.chain .le .le (.cst (.int 1)) (.bf .len (.cons (.var 1) (.nil))) (.glob 8))) (.cons (.never) (.nil)) (.nil)) (.cons (.for_ (.nm 2) (.seq (.var 1)) (.cons (.iff (.cmp .nin (.var 2) (.glob 7)) (.cons (.never) (.nil)) (.nil)) (.nil))) (.cons (.iff (.and (.cmp .eq (.ix (.var 1) (.cst (.int 0))) (.cst (.str "0"))) (.cmp .ne (.var 0) (.cst (.str "0")))) (.cons (.never) (.nil)) (.nil)) (.cons (.ret (.bf .int (.cons (.var 0) (.nil)))) (.nil)))))
def d10 : Df := ⟨("parse_integer", none), "parse_integer", "parse_integer", (top 26), ["word", "figures", "sign"], ["word"], b10⟩
/-- parse_instruction(text); slots ['text', 'words', 'word'] -/
def b11 : Sts := .cons (.asg 1 (.bm .split (.var 0) (.cons (.cst (.str " ")) (.nil)))) (.cons (.iff (.kin true 0 (.ix (.var 1) (.cst (.int 0)))) (.cons (.never) (.nil)) (.nil)) (.cons (.ret (.bf .tuple (.cons (.bin .add (.lst (.cons (.ix (.var 1) (.cst (.int 0))) (.nil))) (.lc [2] (.nm 2) (.seq (.sl (.var 1) (.some (.cst (.int 1))) .none)) .none (.call 10 (.cons (.var 2) (.nil))))) (.nil)))) (.nil)))
def d11 : Df := ⟨("parse_instruction", none), "parse_instruction", "parse_instruction", (top 27), ["text", "words", "word"], ["text"], b11⟩
/-- parse_variable(word); slots ['word'] -/
def b12 : Sts := .cons (.iff (.cmp .eq (.sl (.var 0) (.some (.neg (.cst (.int 1)))) .none) (.cst (.str "p"))) (.cons (.ret (.tup (.cons (.call 10 (.cons (.sl (.var 0) .none (.some (.neg (.cst (.int 1))))) (.nil))) (.cons (.cst (.bl true)) (.nil))))) (.nil)) (.nil)) (.cons (.ret (.tup (.cons (.call 10 (.cons (.var 0) (.nil))) (.cons (.cst (.bl false)) (.nil))))) (.nil))
def d12 : Df := ⟨("parse_variable", none), "parse_variable", "parse_variable", (top 28), ["word"], ["word"], b12⟩
/-- parse_thread(word); slots ['word', 'ends'] -/
def b13 : Sts := .cons (.asg 1 (.bm .split (.var 0) (.cons (.cst (.str ":")) (.nil)))) (.cons (.iff (.cmp .ne (.bf .len (.cons (.var 1) (.nil))) (.cst (.int 2))) (.cons (.never) (.nil)) (.nil)) (.cons (.ret (.tup (.cons (.call 10 (.cons (.ix (.var 1) (.cst (.int 0))) (.nil))) (.cons (.call 10 (.cons (.ix (.var 1) (.cst (.int 1))) (.nil))) (.nil))))) (.nil)))
def d13 : Df := ⟨("parse_thread", none), "parse_thread", "parse_thread", (top 29), ["word", "ends"], ["word"], b13⟩
/-- parse_code(text); slots ['text', 'part'] -/
def b14 : Sts := .cons (.iff (.cmp .eq (.var 0) (.cst (.str "code"))) (.cons (.ret (.tup (.nil))) (.nil)) (.nil)) (.cons (.iff (.cmp .ne (.sl (.var 0) .none (.some (.cst (.int 5)))) (.cst (.str "code "))) (.cons (.never) (.nil)) (.nil)) (.cons (.ret (.bf .tuple (.cons (.lc [1] (.nm 1) (.seq (.bm .split (.sl (.var 0) (.some (.cst (.int 5))) .none) (.cons (.cst (.str ", ")) (.nil)))) .none (.call 11 (.cons (.var 1) (.nil)))) (.nil)))) (.nil)))
def d14 : Df := ⟨("parse_code", none), "parse_code", "parse_code", (top 30), ["text", "part"], ["text"], b14⟩
/-- parse_program(text); slots ['text', 'parts', 'heads', 'tails', 'variables', 'codes', 'threads', 'program', 'word', 'part'] -/
def b15 : Sts := .cons (.iff (.not (.isi (.var 0) "str")) (.cons (.never) (.nil)) (.nil)) (.cons (.asg 1 (.bm .split (.var 0) (.cons (.cst (.str "; ")) (.nil)))) (.cons (.iff (.cmp .lt (.bf .len (.cons (.var 1) (.nil))) (.cst (.int 3))) (.cons (.never) (.nil)) (.nil)) (.cons (.asg 2 (.bm .split (.ix (.var 1) (.cst (.int 0))) (.cons (.cst (.str " ")) (.nil)))) (.cons (.asg 3 (.bm .split (.ix (.var 1) (.neg (.cst (.int 1)))) (.cons (.cst (.str " ")) (.nil)))) (.cons (.iff (.or (.cmp .ne (.ix (.var 2) (.cst (.int 0))) (.cst (.str "vars"))) (.or (.cmp .ne (.ix (.var 3) (.cst (.int 0))) (.cst (.str "threads"))) (.cmp .ne (.sl (.ix (.var 1) (.cst (.int 1))) .none (.some (.cst (.int 6)))) (.cst (.str "locks "))))) (.cons (.never) (.nil)) (.nil)) (.cons (.asg 4 (.bf .tuple (.cons (.lc [8] (.nm 8) (.seq (.sl (.var 2) (.some (.cst (.int 1))) .none)) .none (.call 12 (.cons (.var 8) (.nil)))) (.nil)))) (.cons (.asg 5 (.bf .tuple (.cons (.lc [9] (.nm 9) (.seq (.sl (.var 1) (.some (.cst (.int 2))) (.some (.neg (.cst (.int 1)))))) .none (.call 14 (.cons (.var 9) (.nil)))) (.nil)))) (.cons (.asg 6 (.bf .tuple (.cons (.lc [8] (.nm 8) (.seq (.sl (.var 3) (.some (.cst (.int 1))) .none)) .none (.call 13 (.cons (.var 8) (.nil)))) (.nil)))) (.cons (.asg 7 (.tup (.cons (.var 4) (.cons (.call 10 (.cons (.sl (.ix (.var 1) (.cst (.int 1))) (.some (.cst (.int 6))) .none) (.nil))) (.cons (.var 5) (.cons (.var 6) (.nil))))))) (.cons (.tryN (.cons (.expr (.call 7 (.cons (.var 7) (.nil)))) (.nil))) (.cons (.ret (.var 7)) (.nil))))))))))))
def d15 : Df := ⟨("parse_program", none), "parse_program", "parse_program", (top 31), ["text", "parts", "heads", "tails", "variables", "codes", "threads", "program", "word", "part"], ["text"], b15⟩
/-- _law_mixed(_law_number, _law_k); slots ['_law_number', '_law_k', '_law_step'] -/
def b16 : Sts := .cons (.asg 2 (.bin .mod (.bin .add (.bin .add (.bin .mul (.var 0) (.cst (.int 48271))) (.bin .mul (.var 1) (.cst (.int 69621)))) (.cst (.int 12345))) (.cst (.int 2147483647)))) (.cons (.ret (.bin .mod (.bin .add (.bin .mul (.var 2) (.bin .add (.bin .fdiv (.var 2) (.cst (.int 65536))) (.cst (.int 3)))) (.var 1)) (.cst (.int 2147483647)))) (.nil))
def d16 : Df := ⟨("_law_mixed", none), "_law_mixed", "_law_mixed", (top 33), ["_law_number", "_law_k", "_law_step"], ["_law_number", "_law_k"], b16⟩
/-- _law_numbers(_law_script); slots ['_law_script', '_law_numbers_here', '_law_cell', '_law_rest', '_law_k'] -/
def b17 : Sts := .cons (.asg 1 (.lst (.nil))) (.cons (.for_ (.nm 2) (.seq (.var 0)) (.cons (.iff (.cmp .ge (.var 2) (.bin .pow (.cst (.int 10)) (.cst (.int 18)))) (.cons (.asg 3 (.var 2)) (.cons (.for_ (.nm 4) (.rng1 (.cst (.int 60))) (.cons (.iff (.cmp .gt (.var 3) (.cst (.int 0))) (.cons (.expr (.bm .append (.var 1) (.cons (.bin .mod (.var 3) (.cst (.int 1000000))) (.nil)))) (.cons (.asg 3 (.bin .fdiv (.var 3) (.cst (.int 1000000)))) (.nil))) (.nil)) (.nil))) (.nil))) (.cons (.expr (.bm .append (.var 1) (.cons (.bin .mod (.var 2) (.cst (.int 1000000))) (.nil)))) (.cons (.for_ (.nm 4) (.rng1 (.cst (.int 5))) (.cons (.expr (.bm .append (.var 1) (.cons (.bin .mod (.call 16 (.cons (.call 16 (.cons (.bin .mod (.var 2) (.cst (.int 2147483647))) (.cons (.var 4) (.nil)))) (.cons (.bin .add (.var 4) (.cst (.int 7))) (.nil)))) (.cst (.int 1000000))) (.nil)))) (.nil))) (.nil)))) (.nil))) (.cons (.ret (.var 1)) (.nil)))
def d17 : Df := ⟨("_law_numbers", none), "_law_numbers", "_law_numbers", (top 34), ["_law_script", "_law_numbers_here", "_law_cell", "_law_rest", "_law_k"], ["_law_script"], b17⟩
/-- _law_draw(_law_draws); slots ['_law_draws', '_law_at', '_law_first'] -/
def b18 : Sts := .cons (.asg 1 (.ix (.var 0) (.cst (.int 1)))) (.cons (.asgI (.var 0) (.cst (.int 1)) (.bin .add (.var 1) (.cst (.int 1)))) (.cons (.iff (.cmp .lt (.var 1) (.bf .len (.cons (.ix (.var 0) (.cst (.int 0))) (.nil)))) (.cons (.ret (.ix (.ix (.var 0) (.cst (.int 0))) (.var 1))) (.nil)) (.nil)) (.cons (.asg 2 (.bin .add (.cst (.int 1)) (.var 1))) (.cons (.iff (.cmp .gt (.bf .len (.cons (.ix (.var 0) (.cst (.int 0))) (.nil))) (.cst (.int 0))) (.cons (.asg 2 (.bin .add (.var 2) (.bin .mul (.cst (.int 1009)) (.ix (.ix (.var 0) (.cst (.int 0))) (.cst (.int 0)))))) (.nil)) (.nil)) (.cons (.ret (.bin .mod (.call 16 (.cons (.call 16 (.cons (.var 2) (.cons (.var 1) (.nil)))) (.cons (.cst (.int 5)) (.nil)))) (.cst (.int 1000000)))) (.nil))))))
def d18 : Df := ⟨("_law_draw", none), "_law_draw", "_law_draw", (top 35), ["_law_draws", "_law_at", "_law_first"], ["_law_draws"], b18⟩
/-- _law_equal(_law_actual, _law_due); slots ['_law_actual', '_law_due'] -/
def b19 : Sts := .cons (.iff (.isi (.var 1) "list") (.cons (.iff (.or (.not (.isi (.var 0) "list")) (.cmp .ne (.bf .len (.cons (.var 0) (.nil))) (.bf .len (.cons (.var 1) (.nil))))) (.cons (.ret (.cst (.bl false))) (.nil)) (.nil)) (.cons (.ret (.call 20 (.cons (.var 0) (.cons (.var 1) (.nil))))) (.nil))) (.nil)) (.cons (.iff (.isi (.var 1) "tuple") (.cons (.iff (.or (.not (.isi (.var 0) "tuple")) (.cmp .ne (.bf .len (.cons (.var 0) (.nil))) (.bf .len (.cons (.var 1) (.nil))))) (.cons (.ret (.cst (.bl false))) (.nil)) (.nil)) (.cons (.ret (.call 20 (.cons (.var 0) (.cons (.var 1) (.nil))))) (.nil))) (.nil)) (.cons (.iff (.isi (.var 1) "bool") (.cons (.ret (.and (.isi (.var 0) "bool") (.cmp .eq (.var 0) (.var 1)))) (.nil)) (.nil)) (.cons (.iff (.isi (.var 1) "int") (.cons (.ret (.and (.isi (.var 0) "int") (.and (.not (.isi (.var 0) "bool")) (.cmp .eq (.var 0) (.var 1))))) (.nil)) (.nil)) (.cons (.iff (.isi (.var 1) "str") (.cons (.ret (.and (.isi (.var 0) "str") (.cmp .eq (.var 0) (.var 1)))) (.nil)) (.nil)) (.cons (.ret (.cmp .is (.var 0) (.cst (.non)))) (.nil))))))
def d19 : Df := ⟨("_law_equal", none), "_law_equal", "_law_equal", (top 36), ["_law_actual", "_law_due"], ["_law_actual", "_law_due"], b19⟩
/-- _law_all_equal(_law_actual, _law_due); slots ['_law_actual', '_law_due', '_law_k'] -/
def b20 : Sts := .cons (.for_ (.nm 2) (.rng1 (.bf .len (.cons (.var 1) (.nil)))) (.cons (.iff (.not (.call 19 (.cons (.ix (.var 0) (.var 2)) (.cons (.ix (.var 1) (.var 2)) (.nil))))) (.cons (.ret (.cst (.bl false))) (.nil)) (.nil)) (.nil))) (.cons (.ret (.cst (.bl true))) (.nil))
def d20 : Df := ⟨("_law_all_equal", none), "_law_all_equal", "_law_all_equal", (top 37), ["_law_actual", "_law_due", "_law_k"], ["_law_actual", "_law_due"], b20⟩
/-- _law_control_one(_law_draws, _law_program_here, _law_codes); slots ['_law_draws', '_law_program_here', '_law_codes', '_law_a', '_law_b', '_law_pick'] -/
def b21 : Sts := .cons (.asg 3 (.bin .mod (.call 18 (.cons (.var 0) (.nil))) (.cst (.int 4)))) (.cons (.asg 4 (.bin .mod (.call 18 (.cons (.var 0) (.nil))) (.cst (.int 4)))) (.cons (.asg 5 (.bin .mod (.call 18 (.cons (.var 0) (.nil))) (.cst (.int 6)))) (.cons (.iff (.cmp .eq (.var 5) (.cst (.int 0))) (.cons (.ret (.tup (.cons (.cst (.str "fence")) (.nil)))) (.nil)) (.nil)) (.cons (.iff (.cmp .eq (.var 5) (.cst (.int 1))) (.cons (.ret (.tup (.cons (.cst (.str "join")) (.cons (.var 4) (.nil))))) (.nil)) (.nil)) (.cons (.iff (.cmp .eq (.var 5) (.cst (.int 2))) (.cons (.ret (.tup (.cons (.cst (.str "spawn")) (.cons (.var 3) (.cons (.bin .mod (.call 18 (.cons (.var 0) (.nil))) (.var 2)) (.cons (.var 4) (.nil))))))) (.nil)) (.nil)) (.cons (.iff (.cmp .eq (.ix (.var 1) (.cst (.int 1))) (.cst (.int 0))) (.cons (.ret (.tup (.cons (.cst (.str "fence")) (.nil)))) (.nil)) (.nil)) (.cons (.ret (.ix (.lst (.cons (.tup (.cons (.cst (.str "lock")) (.cons (.bin .mod (.call 18 (.cons (.var 0) (.nil))) (.ix (.var 1) (.cst (.int 1)))) (.nil)))) (.cons (.tup (.cons (.cst (.str "unlock")) (.cons (.bin .mod (.call 18 (.cons (.var 0) (.nil))) (.ix (.var 1) (.cst (.int 1)))) (.nil)))) (.nil)))) (.bin .mod (.var 5) (.cst (.int 2))))) (.nil))))))))
def d21 : Df := ⟨("_law_control_one", none), "_law_control_one", "_law_control_one", (top 38), ["_law_draws", "_law_program_here", "_law_codes", "_law_a", "_law_b", "_law_pick"], ["_law_draws", "_law_program_here", "_law_codes"], b21⟩
/-- _law_visible(_law_draws, _law_program_here, _law_codes); slots ['_law_draws', '_law_program_here', '_law_codes', '_law_pick', '_law_x', '_law_a', '_law_b'] -/
def b22 : Sts := .cons (.asg 3 (.bin .mod (.call 18 (.cons (.var 0) (.nil))) (.cst (.int 12)))) (.cons (.iff (.or (.cmp .eq (.bf .len (.cons (.ix (.var 1) (.cst (.int 0))) (.nil))) (.cst (.int 0))) (.cmp .gt (.var 3) (.cst (.int 9)))) (.cons (.ret (.call 21 (.cons (.var 0) (.cons (.var 1) (.cons (.var 2) (.nil)))))) (.nil)) (.nil)) (.cons (.asg 4 (.bin .mod (.call 18 (.cons (.var 0) (.nil))) (.bf .len (.cons (.ix (.var 1) (.cst (.int 0))) (.nil))))) (.cons (.asg 5 (.bin .mod (.call 18 (.cons (.var 0) (.nil))) (.cst (.int 4)))) (.cons (.asg 6 (.bin .mod (.call 18 (.cons (.var 0) (.nil))) (.cst (.int 4)))) (.cons (.iff (.or (.cmp .lt (.var 3) (.cst (.int 3))) (.and (.ix (.ix (.ix (.var 1) (.cst (.int 0))) (.var 4)) (.cst (.int 1))) (.cmp .lt (.var 3) (.cst (.int 7))))) (.cons (.ret (.tup (.cons (.cst (.str "load")) (.cons (.var 5) (.cons (.var 4) (.nil)))))) (.nil)) (.nil)) (.cons (.iff (.or (.cmp .lt (.var 3) (.cst (.int 6))) (.ix (.ix (.ix (.var 1) (.cst (.int 0))) (.var 4)) (.cst (.int 1)))) (.cons (.ret (.tup (.cons (.cst (.str "store")) (.cons (.var 4) (.cons (.var 6) (.nil)))))) (.nil)) (.nil)) (.cons (.iff (.cmp .eq (.var 3) (.cst (.int 6))) (.cons (.ret (.tup (.cons (.cst (.str "swap")) (.cons (.var 5) (.cons (.var 4) (.cons (.var 6) (.nil))))))) (.nil)) (.nil)) (.cons (.iff (.cmp .eq (.var 3) (.cst (.int 7))) (.cons (.ret (.tup (.cons (.cst (.str "fetch")) (.cons (.var 5) (.cons (.var 4) (.cons (.var 6) (.nil))))))) (.nil)) (.nil)) (.cons (.iff (.cmp .eq (.var 3) (.cst (.int 8))) (.cons (.ret (.tup (.cons (.cst (.str "cas")) (.cons (.var 5) (.cons (.var 4) (.cons (.var 6) (.cons (.bin .mod (.call 18 (.cons (.var 0) (.nil))) (.cst (.int 4))) (.nil)))))))) (.nil)) (.nil)) (.cons (.ret (.tup (.cons (.cst (.str "await")) (.cons (.var 5) (.cons (.var 4) (.cons (.var 6) (.nil))))))) (.nil)))))))))))
def d22 : Df := ⟨("_law_visible", none), "_law_visible", "_law_visible", (top 39), ["_law_draws", "_law_program_here", "_law_codes", "_law_pick", "_law_x", "_law_a", "_law_b"], ["_law_draws", "_law_program_here", "_law_codes"], b22⟩
/-- _law_local_one(_law_draws); slots ['_law_draws', '_law_rows'] -/
def b23 : Sts := .cons (.asg 1 (.lst (.cons (.tup (.cons (.cst (.str "const")) (.cons (.cst (.int 3)) (.cons (.cst (.int 1)) (.nil))))) (.cons (.tup (.cons (.cst (.str "const")) (.cons (.cst (.int 2)) (.cons (.cst (.int 2)) (.nil))))) (.cons (.tup (.cons (.cst (.str "const")) (.cons (.cst (.int 1)) (.cons (.cst (.int 12)) (.nil))))) (.cons (.tup (.cons (.cst (.str "add")) (.cons (.cst (.int 1)) (.cons (.cst (.int 0)) (.cons (.cst (.int 3)) (.nil)))))) (.cons (.tup (.cons (.cst (.str "eq")) (.cons (.cst (.int 2)) (.cons (.cst (.int 1)) (.cons (.cst (.int 0)) (.nil)))))) (.cons (.tup (.cons (.cst (.str "mul")) (.cons (.cst (.int 3)) (.cons (.cst (.int 0)) (.cons (.cst (.int 0)) (.nil)))))) (.nil))))))))) (.cons (.ret (.ix (.var 1) (.bin .mod (.call 18 (.cons (.var 0) (.nil))) (.cst (.int 6))))) (.nil))
def d23 : Df := ⟨("_law_local_one", none), "_law_local_one", "_law_local_one", (top 40), ["_law_draws", "_law_rows"], ["_law_draws"], b23⟩
/-- _law_code(_law_draws, _law_program_here, _law_codes, _law_most); slots ['_law_draws', '_law_program_here', '_law_codes', '_law_most', '_law_code_here', '_law_k', '_law_pick', '_law_first'] -/
def b24 : Sts := .cons (.asg 4 (.lst (.nil))) (.cons (.for_ (.nm 5) (.rng1 (.bin .mod (.call 18 (.cons (.var 0) (.nil))) (.bin .add (.var 3) (.cst (.int 1))))) (.cons (.iff (.cmp .eq (.bin .mod (.call 18 (.cons (.var 0) (.nil))) (.cst (.int 4))) (.cst (.int 0))) (.cons (.expr (.bm .append (.var 4) (.cons (.call 23 (.cons (.var 0) (.nil))) (.nil)))) (.nil)) (.nil)) (.cons (.expr (.bm .append (.var 4) (.cons (.call 22 (.cons (.var 0) (.cons (.var 1) (.cons (.var 2) (.nil))))) (.nil)))) (.nil)))) (.cons (.asg 6 (.bin .mod (.call 18 (.cons (.var 0) (.nil))) (.cst (.int 12)))) (.cons (.iff (.cmp .lt (.var 6) (.cst (.int 2))) (.cons (.expr (.bm .append (.var 4) (.cons (.tup (.cons (.cst (.str "assert")) (.cons (.bin .mod (.call 18 (.cons (.var 0) (.nil))) (.cst (.int 4))) (.nil)))) (.nil)))) (.nil)) (.cons (.iff (.cmp .eq (.var 6) (.cst (.int 2))) (.cons (.asg 4 (.bin .add (.sl (.var 4) .none (.some (.cst (.int 1)))) (.lst (.cons (.tup (.cons (.cst (.str "jump")) (.cons (.cst (.int 0)) (.nil)))) (.nil))))) (.nil)) (.cons (.iff (.cmp .eq (.var 6) (.cst (.int 3))) (.cons (.asg 4 (.bin .add (.lst (.cons (.tup (.cons (.cst (.str "branch")) (.cons (.cst (.int 0)) (.cons (.cst (.int 1)) (.nil))))) (.nil))) (.var 4))) (.nil)) (.cons (.iff (.and (.cmp .lt (.var 6) (.cst (.int 6))) (.cmp .gt (.ix (.var 1) (.cst (.int 1))) (.cst (.int 0)))) (.cons (.asg 4 (.bin .add (.bin .add (.lst (.cons (.tup (.cons (.cst (.str "lock")) (.cons (.bin .mod (.call 18 (.cons (.var 0) (.nil))) (.ix (.var 1) (.cst (.int 1)))) (.nil)))) (.nil))) (.sl (.var 4) .none (.some (.cst (.int 2))))) (.lst (.cons (.tup (.cons (.cst (.str "unlock")) (.cons (.bin .mod (.call 18 (.cons (.var 0) (.nil))) (.ix (.var 1) (.cst (.int 1)))) (.nil)))) (.nil))))) (.nil)) (.cons (.iff (.and (.cmp .eq (.var 6) (.cst (.int 6))) (.cmp .eq (.ix (.var 1) (.cst (.int 1))) (.cst (.int 2)))) (.cons (.asg 7 (.bin .mod (.call 18 (.cons (.var 0) (.nil))) (.cst (.int 2)))) (.cons (.asg 4 (.lst (.cons (.tup (.cons (.cst (.str "lock")) (.cons (.var 7) (.nil)))) (.cons (.tup (.cons (.cst (.str "lock")) (.cons (.bin .sub (.cst (.int 1)) (.var 7)) (.nil)))) (.cons (.tup (.cons (.cst (.str "unlock")) (.cons (.bin .sub (.cst (.int 1)) (.var 7)) (.nil)))) (.cons (.tup (.cons (.cst (.str "unlock")) (.cons (.var 7) (.nil)))) (.nil))))))) (.nil))) (.nil)) (.nil))) (.nil))) (.nil))) (.nil))) (.cons (.ret (.bf .tuple (.cons (.var 4) (.nil)))) (.nil)))))
def d24 : Df := ⟨("_law_code", none), "_law_code", "_law_code", (top 41), ["_law_draws", "_law_program_here", "_law_codes", "_law_most", "_law_code_here", "_law_k", "_law_pick", "_law_first"], ["_law_draws", "_law_program_here", "_law_codes", "_law_most"], b24⟩
/-- _law_program(_law_draws, _law_most); slots ['_law_draws', '_law_most', '_law_variables', '_law_x', '_law_program_here', '_law_many', '_law_codes', '_law_rows', '_law_k'] -/
def b25 : Sts := .cons (.asg 2 (.lst (.nil))) (.cons (.for_ (.nm 3) (.rng1 (.ix (.lst (.cons (.cst (.int 1)) (.cons (.cst (.int 1)) (.cons (.cst (.int 1)) (.cons (.cst (.int 2)) (.cons (.cst (.int 2)) (.cons (.cst (.int 0)) (.cons (.cst (.int 4)) (.nil))))))))) (.bin .mod (.call 18 (.cons (.var 0) (.nil))) (.cst (.int 7))))) (.cons (.expr (.bm .append (.var 2) (.cons (.tup (.cons (.ix (.lst (.cons (.cst (.int 0)) (.cons (.cst (.int 1)) (.cons (.cst (.int 2)) (.cons (.cst (.int 998)) (.cons (.neg (.cst (.int 999))) (.cons (.cst (.int 0)) (.nil)))))))) (.bin .mod (.call 18 (.cons (.var 0) (.nil))) (.cst (.int 6)))) (.cons (.cmp .eq (.bin .mod (.call 18 (.cons (.var 0) (.nil))) (.cst (.int 4))) (.cst (.int 0))) (.nil)))) (.nil)))) (.nil))) (.cons (.asg 4 (.tup (.cons (.bf .tuple (.cons (.var 2) (.nil))) (.cons (.ix (.lst (.cons (.cst (.int 0)) (.cons (.cst (.int 0)) (.cons (.cst (.int 1)) (.cons (.cst (.int 2)) (.nil)))))) (.bin .mod (.call 18 (.cons (.var 0) (.nil))) (.cst (.int 4)))) (.nil))))) (.cons (.asg 5 (.bin .add (.cst (.int 1)) (.bin .mod (.call 18 (.cons (.var 0) (.nil))) (.cst (.int 3))))) (.cons (.asg 6 (.bf .tuple (.cons (.lc [8] (.nm 8) (.rng1 (.var 5)) .none (.call 24 (.cons (.var 0) (.cons (.var 4) (.cons (.var 5) (.cons (.var 1) (.nil))))))) (.nil)))) (.cons (.asgL 7 [8] (.nm 8) (.rng1 (.ix (.lst (.cons (.cst (.int 2)) (.cons (.cst (.int 2)) (.cons (.cst (.int 3)) (.cons (.cst (.int 1)) (.nil)))))) (.bin .mod (.call 18 (.cons (.var 0) (.nil))) (.cst (.int 4))))) .none (.tup (.cons (.bin .mod (.call 18 (.cons (.var 0) (.nil))) (.var 5)) (.cons (.ix (.lst (.cons (.cst (.int 0)) (.cons (.cst (.int 1)) (.cons (.cst (.int 2)) (.cons (.cst (.int 998)) (.cons (.neg (.cst (.int 3))) (.nil))))))) (.bin .mod (.call 18 (.cons (.var 0) (.nil))) (.cst (.int 5)))) (.nil))))) (.cons (.ret (.tup (.cons (.ix (.var 4) (.cst (.int 0))) (.cons (.ix (.var 4) (.cst (.int 1))) (.cons (.var 6) (.cons (.bf .tuple (.cons (.var 7) (.nil))) (.nil))))))) (.nil)))))))
def d25 : Df := ⟨("_law_program", none), "_law_program", "_law_program", (top 42), ["_law_draws", "_law_most", "_law_variables", "_law_x", "_law_program_here", "_law_many", "_law_codes", "_law_rows", "_law_k"], ["_law_draws", "_law_most"], b25⟩
/-- _law_text(_law_program_here); slots ['_law_program_here', '_law_text_here', '_law_pair', '_law_code_here', '_law_row', '_law_part'] -/
def b26 : Sts := .cons (.asg 1 (.cst (.str "vars"))) (.cons (.for_ (.nm 2) (.seq (.ix (.var 0) (.cst (.int 0)))) (.cons (.asg 1 (.bin .add (.bin .add (.var 1) (.cst (.str " "))) (.bf .str (.cons (.ix (.var 2) (.cst (.int 0))) (.nil))))) (.cons (.iff (.ix (.var 2) (.cst (.int 1))) (.cons (.asg 1 (.bin .add (.var 1) (.cst (.str "p")))) (.nil)) (.nil)) (.nil)))) (.cons (.asg 1 (.bin .add (.bin .add (.var 1) (.cst (.str "; locks "))) (.bf .str (.cons (.ix (.var 0) (.cst (.int 1))) (.nil))))) (.cons (.for_ (.nm 3) (.seq (.ix (.var 0) (.cst (.int 2)))) (.cons (.asg 1 (.bin .add (.var 1) (.cst (.str "; code")))) (.cons (.iff (.cmp .gt (.bf .len (.cons (.var 3) (.nil))) (.cst (.int 0))) (.cons (.asg 1 (.bin .add (.bin .add (.var 1) (.cst (.str " "))) (.bm .join (.cst (.str ", ")) (.cons (.lc [4] (.nm 4) (.seq (.var 3)) .none (.bm .join (.cst (.str " ")) (.cons (.lc [5] (.nm 5) (.seq (.var 4)) .none (.bf .str (.cons (.var 5) (.nil)))) (.nil)))) (.nil))))) (.nil)) (.nil)) (.nil)))) (.cons (.asg 1 (.bin .add (.var 1) (.cst (.str "; threads")))) (.cons (.for_ (.nm 4) (.seq (.ix (.var 0) (.cst (.int 3)))) (.cons (.asg 1 (.bin .add (.bin .add (.bin .add (.bin .add (.var 1) (.cst (.str " "))) (.bf .str (.cons (.ix (.var 4) (.cst (.int 0))) (.nil)))) (.cst (.str ":"))) (.bf .str (.cons (.ix (.var 4) (.cst (.int 1))) (.nil))))) (.nil))) (.cons (.ret (.var 1)) (.nil)))))))
def d26 : Df := ⟨("_law_text", none), "_law_text", "_law_text", (top 43), ["_law_program_here", "_law_text_here", "_law_pair", "_law_code_here", "_law_row", "_law_part"], ["_law_program_here"], b26⟩
/-- _law_more(_law_draws, _law_program_here); slots ['_law_draws', '_law_program_here', '_law_codes', '_law_local', '_law_rows', '_law_variables', '_law_k'] -/
def b27 : Sts := .cons (.asg 2 (.bf .list (.cons (.ix (.var 1) (.cst (.int 2))) (.nil)))) (.cons (.asg 3 (.lst (.cons (.tup (.cons (.cst (.str "const")) (.cons (.cst (.int 0)) (.cons (.neg (.cst (.int 999))) (.nil))))) (.cons (.tup (.cons (.cst (.str "copy")) (.cons (.cst (.int 1)) (.cons (.cst (.int 2)) (.nil))))) (.cons (.tup (.cons (.cst (.str "sub")) (.cons (.cst (.int 1)) (.cons (.cst (.int 2)) (.cons (.cst (.int 3)) (.nil)))))) (.cons (.tup (.cons (.cst (.str "mul")) (.cons (.cst (.int 3)) (.cons (.cst (.int 3)) (.cons (.cst (.int 3)) (.nil)))))) (.cons (.tup (.cons (.cst (.str "less")) (.cons (.cst (.int 0)) (.cons (.cst (.int 1)) (.cons (.cst (.int 2)) (.nil)))))) (.cons (.tup (.cons (.cst (.str "jump")) (.cons (.cst (.int 0)) (.nil)))) (.cons (.tup (.cons (.cst (.str "stop")) (.nil))) (.nil)))))))))) (.cons (.expr (.bm .append (.var 2) (.cons (.bf .tuple (.cons (.lc [6] (.nm 6) (.rng1 (.bin .mod (.call 18 (.cons (.var 0) (.nil))) (.cst (.int 4)))) .none (.ix (.var 3) (.bin .mod (.call 18 (.cons (.var 0) (.nil))) (.cst (.int 7))))) (.nil))) (.nil)))) (.cons (.expr (.bm .append (.var 2) (.cons (.sl (.tup (.cons (.tup (.cons (.cst (.str "branch")) (.cons (.cst (.int 2)) (.cons (.cst (.int 1)) (.nil))))) (.cons (.tup (.cons (.cst (.str "assert")) (.cons (.cst (.int 0)) (.nil)))) (.nil)))) .none (.some (.bin .mod (.call 18 (.cons (.var 0) (.nil))) (.cst (.int 3))))) (.nil)))) (.cons (.iff (.cmp .eq (.bf .len (.cons (.ix (.var 2) (.bin .sub (.bf .len (.cons (.var 2) (.nil))) (.cst (.int 1)))) (.nil))) (.cst (.int 1))) (.cons (.asgI (.var 2) (.bin .sub (.bf .len (.cons (.var 2) (.nil))) (.cst (.int 1))) (.tup (.cons (.tup (.cons (.cst (.str "branch")) (.cons (.cst (.int 2)) (.cons (.cst (.int 1)) (.nil))))) (.nil)))) (.nil)) (.nil)) (.cons (.asg 4 (.bin .add (.ix (.var 1) (.cst (.int 3))) (.tup (.cons (.tup (.cons (.bin .sub (.bf .len (.cons (.var 2) (.nil))) (.cst (.int 1))) (.cons (.bin .mod (.neg (.call 18 (.cons (.var 0) (.nil)))) (.cst (.int 999))) (.nil)))) (.nil))))) (.cons (.asg 5 (.bin .add (.sl (.ix (.var 1) (.cst (.int 0))) .none (.some (.cst (.int 3)))) (.tup (.cons (.tup (.cons (.bin .sub (.bin .mod (.neg (.call 18 (.cons (.var 0) (.nil)))) (.cst (.int 999))) (.cst (.int 500))) (.cons (.cst (.bl true)) (.nil)))) (.nil))))) (.cons (.iff (.cmp .gt (.bf .len (.cons (.ix (.var 1) (.cst (.int 0))) (.nil))) (.cst (.int 3))) (.cons (.asg 5 (.ix (.var 1) (.cst (.int 0)))) (.nil)) (.nil)) (.cons (.ret (.tup (.cons (.var 5) (.cons (.ix (.var 1) (.cst (.int 1))) (.cons (.bf .tuple (.cons (.var 2) (.nil))) (.cons (.var 4) (.nil))))))) (.nil)))))))))
def d27 : Df := ⟨("_law_more", none), "_law_more", "_law_more", (top 44), ["_law_draws", "_law_program_here", "_law_codes", "_law_local", "_law_rows", "_law_variables", "_law_k"], ["_law_draws", "_law_program_here"], b27⟩
/-- law(_law_script); slots ['_law_script', '_law_draws', '_law_turn', '_law_program_here', '_law_text_here'] -/
def b28 : Sts := .cons (.asg 1 (.lst (.cons (.call 17 (.cons (.var 0) (.nil))) (.cons (.cst (.int 0)) (.nil))))) (.cons (.for_ (.nm 2) (.rng1 (.cst (.int 3))) (.cons (.asg 3 (.call 27 (.cons (.var 1) (.cons (.call 25 (.cons (.var 1) (.cons (.cst (.int 4)) (.nil)))) (.nil))))) (.cons (.asg 4 (.call 26 (.cons (.var 3) (.nil)))) (.cons (.iff (.or (.not (.call 19 (.cons (.call 9 (.cons (.var 3) (.nil))) (.cons (.var 4) (.nil))))) (.not (.call 19 (.cons (.call 15 (.cons (.var 4) (.nil))) (.cons (.var 3) (.nil)))))) (.cons (.ret (.cst (.bl false))) (.nil)) (.nil)) (.nil))))) (.cons (.ret (.cst (.bl true))) (.nil)))
def d28 : Df := ⟨("law", none), "law", "law", (top 45), ["_law_script", "_law_draws", "_law_turn", "_law_program_here", "_law_text_here"], ["_law_script"], b28⟩
def inf : Inf where
  fns := [("is_integer", 0), ("is_below", 1), ("is_value", 2), ("check_part", 3), ("check_instruction", 4), ("check_variables", 5), ("check_threads", 6), ("check_program", 7), ("format_instruction", 8), ("format_program", 9), ("parse_integer", 10), ("parse_instruction", 11), ("parse_variable", 12), ("parse_thread", 13), ("parse_code", 14), ("parse_program", 15), ("_law_mixed", 16), ("_law_numbers", 17), ("_law_draw", 18), ("_law_equal", 19), ("_law_all_equal", 20), ("_law_control_one", 21), ("_law_visible", 22), ("_law_local_one", 23), ("_law_code", 24), ("_law_program", 25), ("_law_text", 26), ("_law_more", 27), ("law", 28)]
  cls := []
  mth := []
  gls := [("GREATEST", 0), ("VARIABLES", 1), ("LOCKS", 2), ("CODES", 3), ("INSTRUCTIONS", 4), ("THREADS", 5), ("REGISTERS", 6), ("FIGURES", 7), ("LONGEST", 8)]
  fld := []
  kds := [("FORMS", 0)]
def dfs : List Df := [d0, d1, d2, d3, d4, d5, d6, d7, d8, d9, d10, d11, d12, d13, d14, d15, d16, d17, d18, d19, d20, d21, d22, d23, d24, d25, d26, d27, d28]
def T : Tb where
  dfs := dfs
  inf := inf
  clsN := []
  inits := []
  glv := [.int 999, .int 4, .int 2, .int 6, .int 16, .int 4, .int 4, .str "0123456789", .int 9]
  kdv := [[("const", .kt [.str "register", .str "value"]), ("copy", .kt [.str "register", .str "register"]), ("add", .kt [.str "register", .str "register", .str "register"]), ("sub", .kt [.str "register", .str "register", .str "register"]), ("mul", .kt [.str "register", .str "register", .str "register"]), ("eq", .kt [.str "register", .str "register", .str "register"]), ("less", .kt [.str "register", .str "register", .str "register"]), ("jump", .kt [.str "place"]), ("branch", .kt [.str "register", .str "place"]), ("assert", .kt [.str "register"]), ("stop", .kt []), ("load", .kt [.str "register", .str "variable"]), ("store", .kt [.str "variable", .str "register"]), ("swap", .kt [.str "register", .str "variable", .str "register"]), ("fetch", .kt [.str "register", .str "variable", .str "register"]), ("cas", .kt [.str "register", .str "variable", .str "register", .str "register"]), ("await", .kt [.str "register", .str "variable", .str "register"]), ("fence", .kt []), ("lock", .kt [.str "lock"]), ("unlock", .kt [.str "lock"]), ("spawn", .kt [.str "register", .str "code", .str "register"]), ("join", .kt [.str "register"])]]
theorem ok0 : DfOk inf d0 := ⟨⟨rfl, rfl, rfl, by decide +kernel, rfl, by decide +kernel, by decide +kernel⟩, by decide +kernel, fun _ _ _ _ _ _ us hl => match us, hl with | [_], _ => rfl⟩
theorem ok1 : DfOk inf d1 := ⟨⟨rfl, rfl, rfl, by decide +kernel, rfl, by decide +kernel, by decide +kernel⟩, by decide +kernel, fun _ _ _ _ _ _ us hl => match us, hl with | [_, _], _ => rfl⟩
theorem ok2 : DfOk inf d2 := ⟨⟨rfl, rfl, rfl, by decide +kernel, rfl, by decide +kernel, by decide +kernel⟩, by decide +kernel, fun _ _ _ _ _ _ us hl => match us, hl with | [_], _ => rfl⟩
theorem ok3 : DfOk inf d3 := ⟨⟨rfl, rfl, rfl, by decide +kernel, rfl, by decide +kernel, by decide +kernel⟩, by decide +kernel, fun _ _ _ _ _ _ us hl => match us, hl with | [_, _, _], _ => rfl⟩
theorem ok4 : DfOk inf d4 := ⟨⟨rfl, rfl, rfl, by decide +kernel, rfl, by decide +kernel, by decide +kernel⟩, by decide +kernel, fun _ _ _ _ _ _ us hl => match us, hl with | [_, _, _], _ => rfl⟩
theorem ok5 : DfOk inf d5 := ⟨⟨rfl, rfl, rfl, by decide +kernel, rfl, by decide +kernel, by decide +kernel⟩, by decide +kernel, fun _ _ _ _ _ _ us hl => match us, hl with | [_], _ => rfl⟩
theorem ok6 : DfOk inf d6 := ⟨⟨rfl, rfl, rfl, by decide +kernel, rfl, by decide +kernel, by decide +kernel⟩, by decide +kernel, fun _ _ _ _ _ _ us hl => match us, hl with | [_, _], _ => rfl⟩
theorem ok7 : DfOk inf d7 := ⟨⟨rfl, rfl, rfl, by decide +kernel, rfl, by decide +kernel, by decide +kernel⟩, by decide +kernel, fun _ _ _ _ _ _ us hl => match us, hl with | [_], _ => rfl⟩
theorem ok8 : DfOk inf d8 := ⟨⟨rfl, rfl, rfl, by decide +kernel, rfl, by decide +kernel, by decide +kernel⟩, by decide +kernel, fun _ _ _ _ _ _ us hl => match us, hl with | [_], _ => rfl⟩
theorem ok9 : DfOk inf d9 := ⟨⟨rfl, rfl, rfl, by decide +kernel, rfl, by decide +kernel, by decide +kernel⟩, by decide +kernel, fun _ _ _ _ _ _ us hl => match us, hl with | [_], _ => rfl⟩
theorem ok10 : DfOk inf d10 := ⟨⟨rfl, rfl, rfl, by decide +kernel, rfl, by decide +kernel, by decide +kernel⟩, by decide +kernel, fun _ _ _ _ _ _ us hl => match us, hl with | [_], _ => rfl⟩
theorem ok11 : DfOk inf d11 := ⟨⟨rfl, rfl, rfl, by decide +kernel, rfl, by decide +kernel, by decide +kernel⟩, by decide +kernel, fun _ _ _ _ _ _ us hl => match us, hl with | [_], _ => rfl⟩
theorem ok12 : DfOk inf d12 := ⟨⟨rfl, rfl, rfl, by decide +kernel, rfl, by decide +kernel, by decide +kernel⟩, by decide +kernel, fun _ _ _ _ _ _ us hl => match us, hl with | [_], _ => rfl⟩
theorem ok13 : DfOk inf d13 := ⟨⟨rfl, rfl, rfl, by decide +kernel, rfl, by decide +kernel, by decide +kernel⟩, by decide +kernel, fun _ _ _ _ _ _ us hl => match us, hl with | [_], _ => rfl⟩
theorem ok14 : DfOk inf d14 := ⟨⟨rfl, rfl, rfl, by decide +kernel, rfl, by decide +kernel, by decide +kernel⟩, by decide +kernel, fun _ _ _ _ _ _ us hl => match us, hl with | [_], _ => rfl⟩
theorem ok15 : DfOk inf d15 := ⟨⟨rfl, rfl, rfl, by decide +kernel, rfl, by decide +kernel, by decide +kernel⟩, by decide +kernel, fun _ _ _ _ _ _ us hl => match us, hl with | [_], _ => rfl⟩
theorem ok16 : DfOk inf d16 := ⟨⟨rfl, rfl, rfl, by decide +kernel, rfl, by decide +kernel, by decide +kernel⟩, by decide +kernel, fun _ _ _ _ _ _ us hl => match us, hl with | [_, _], _ => rfl⟩
theorem ok17 : DfOk inf d17 := ⟨⟨rfl, rfl, rfl, by decide +kernel, rfl, by decide +kernel, by decide +kernel⟩, by decide +kernel, fun _ _ _ _ _ _ us hl => match us, hl with | [_], _ => rfl⟩
theorem ok18 : DfOk inf d18 := ⟨⟨rfl, rfl, rfl, by decide +kernel, rfl, by decide +kernel, by decide +kernel⟩, by decide +kernel, fun _ _ _ _ _ _ us hl => match us, hl with | [_], _ => rfl⟩
theorem ok19 : DfOk inf d19 := ⟨⟨rfl, rfl, rfl, by decide +kernel, rfl, by decide +kernel, by decide +kernel⟩, by decide +kernel, fun _ _ _ _ _ _ us hl => match us, hl with | [_, _], _ => rfl⟩
theorem ok20 : DfOk inf d20 := ⟨⟨rfl, rfl, rfl, by decide +kernel, rfl, by decide +kernel, by decide +kernel⟩, by decide +kernel, fun _ _ _ _ _ _ us hl => match us, hl with | [_, _], _ => rfl⟩
theorem ok21 : DfOk inf d21 := ⟨⟨rfl, rfl, rfl, by decide +kernel, rfl, by decide +kernel, by decide +kernel⟩, by decide +kernel, fun _ _ _ _ _ _ us hl => match us, hl with | [_, _, _], _ => rfl⟩
theorem ok22 : DfOk inf d22 := ⟨⟨rfl, rfl, rfl, by decide +kernel, rfl, by decide +kernel, by decide +kernel⟩, by decide +kernel, fun _ _ _ _ _ _ us hl => match us, hl with | [_, _, _], _ => rfl⟩
theorem ok23 : DfOk inf d23 := ⟨⟨rfl, rfl, rfl, by decide +kernel, rfl, by decide +kernel, by decide +kernel⟩, by decide +kernel, fun _ _ _ _ _ _ us hl => match us, hl with | [_], _ => rfl⟩
theorem ok24 : DfOk inf d24 := ⟨⟨rfl, rfl, rfl, by decide +kernel, rfl, by decide +kernel, by decide +kernel⟩, by decide +kernel, fun _ _ _ _ _ _ us hl => match us, hl with | [_, _, _, _], _ => rfl⟩
theorem ok25 : DfOk inf d25 := ⟨⟨rfl, rfl, rfl, by decide +kernel, rfl, by decide +kernel, by decide +kernel⟩, by decide +kernel, fun _ _ _ _ _ _ us hl => match us, hl with | [_, _], _ => rfl⟩
theorem ok26 : DfOk inf d26 := ⟨⟨rfl, rfl, rfl, by decide +kernel, rfl, by decide +kernel, by decide +kernel⟩, by decide +kernel, fun _ _ _ _ _ _ us hl => match us, hl with | [_], _ => rfl⟩
theorem ok27 : DfOk inf d27 := ⟨⟨rfl, rfl, rfl, by decide +kernel, rfl, by decide +kernel, by decide +kernel⟩, by decide +kernel, fun _ _ _ _ _ _ us hl => match us, hl with | [_, _], _ => rfl⟩
theorem ok28 : DfOk inf d28 := ⟨⟨rfl, rfl, rfl, by decide +kernel, rfl, by decide +kernel, by decide +kernel⟩, by decide +kernel, fun _ _ _ _ _ _ us hl => match us, hl with | [_], _ => rfl⟩
theorem ok : ∀ d ∈ T.dfs, DfOk T.inf d := (List.forall_mem_cons.mpr ⟨ok0, (List.forall_mem_cons.mpr ⟨ok1, (List.forall_mem_cons.mpr ⟨ok2, (List.forall_mem_cons.mpr ⟨ok3, (List.forall_mem_cons.mpr ⟨ok4, (List.forall_mem_cons.mpr ⟨ok5, (List.forall_mem_cons.mpr ⟨ok6, (List.forall_mem_cons.mpr ⟨ok7, (List.forall_mem_cons.mpr ⟨ok8, (List.forall_mem_cons.mpr ⟨ok9, (List.forall_mem_cons.mpr ⟨ok10, (List.forall_mem_cons.mpr ⟨ok11, (List.forall_mem_cons.mpr ⟨ok12, (List.forall_mem_cons.mpr ⟨ok13, (List.forall_mem_cons.mpr ⟨ok14, (List.forall_mem_cons.mpr ⟨ok15, (List.forall_mem_cons.mpr ⟨ok16, (List.forall_mem_cons.mpr ⟨ok17, (List.forall_mem_cons.mpr ⟨ok18, (List.forall_mem_cons.mpr ⟨ok19, (List.forall_mem_cons.mpr ⟨ok20, (List.forall_mem_cons.mpr ⟨ok21, (List.forall_mem_cons.mpr ⟨ok22, (List.forall_mem_cons.mpr ⟨ok23, (List.forall_mem_cons.mpr ⟨ok24, (List.forall_mem_cons.mpr ⟨ok25, (List.forall_mem_cons.mpr ⟨ok26, (List.forall_mem_cons.mpr ⟨ok27, (List.forall_mem_cons.mpr ⟨ok28, (fun d hd => absurd hd List.not_mem_nil)⟩)⟩)⟩)⟩)⟩)⟩)⟩)⟩)⟩)⟩)⟩)⟩)⟩)⟩)⟩)⟩)⟩)⟩)⟩)⟩)⟩)⟩)⟩)⟩)⟩)⟩)⟩)⟩)⟩)
end Lk61
set_option Elab.async false
set_option linter.all false
set_option maxRecDepth 100000
set_option maxHeartbeats 2000000
/-! Pa61: the generator of k61 -/
namespace Lk61
open PySem L2 Ab
theorem iD : Is T 18 3 1 (bDraw 16) := ⟨d18, rfl, rfl, rfl, rfl⟩
theorem iM : Is T 16 3 2 bMixed := ⟨d16, rfl, rfl, rfl, rfl⟩
theorem fm : T.kdv.getD 0 [] = FM := rfl
theorem draw {k fuel : Nat} {s : Sto} {r l : Nat} (d : Dr s r l) : ∃ (n : Int) (s' : Sto), (T.gam fuel (k + 2)).fn 18 [.ref r] s = .ok (.int n) s' ∧ Dr s' r l ∧ Fr (· = r) s s' := by
  obtain ⟨n, s', h1, h2, h3, _⟩ := draw_is iD iM (k := k) (fuel := fuel) d
  exact ⟨n, s', h1, h2, h3⟩
/-- an instruction that does not jump -/
abbrev Good (vars : List (Int × Bool)) (lk nc : Nat) (w : Str) (ps : List Int) : Prop := ∀ pl, OkIns FM vars lk nc pl w ps
/-- what an instruction's def gives -/
def Gives (vars : List (Int × Bool)) (lk nc r l : Nat) (s : Sto) (res : R D) : Prop := ∃ w ps s', res = .ok (eIns w ps) s' ∧ Good vars lk nc w ps ∧ Dr s' r l ∧ Fr (· = r) s s'
theorem i21 : Is T 21 6 3 b21 := ⟨d21, rfl, rfl, rfl, rfl⟩
theorem control {k fuel : Nat} {s : Sto} {r l lk nc : Nat} {vars : List (Int × Bool)} (d : Dr s r l) (hn : 0 < nc) : Gives vars lk nc r l s ((T.gam fuel (k + 3)).fn 21 [.ref r, .tup [.tup (vars.map eVar), .int lk], .int nc] s) := by
  rw [i21.call rfl]
  show Gives vars lk nc r l s (svs _ _ b21 [some (.ref r), some (.tup [.tup (vars.map eVar), .int lk]), some (.int nc), none, none, none] s).fin
  obtain ⟨n1, s1, e1, d1, f1⟩ := draw (k := k) (fuel := fuel) d
  obtain ⟨n2, s2, e2, d2, f2⟩ := draw (k := k) (fuel := fuel) d1
  obtain ⟨n3, s3, e3, d3, f3⟩ := draw (k := k) (fuel := fuel) d2
  have F3 := (f1.trans f2).trans f3
  have p4 : (0 : Int) < 4 := by decide
  have p6 : (0 : Int) < 6 := by decide
  unfold b21
  simp only [fin_nx, fin_rt, fin_ex, ofO_some, ofO_none, asB_bl, asI_int, truR_bl, outS_some, outE_some, outO_some, R.bind_ok, R.bind_ex, R.bind_bad, R.to_ok, R.to_ex, R.to_bad, Out.seq_nx, Out.seq_rt, Out.seq_bk, Out.seq_ct, Out.seq_ex, Out.seq_bad, cond_true, cond_false, gam_gl, gam_ncls, gam_init, gam_kd, List.getElem?_cons_zero, List.getElem?_cons_succ, List.set_cons_zero, List.set_cons_succ, List.cons_append, List.nil_append, k2_ap, gBin_ap, gCmp_ap, gCmpT_ap, gNeg_ap, gCh3_ap, gCh2_ap, gCh_ap, gCh3T_ap, gCh2T_ap, gChT_ap, gAnd2_ap, gAnd_ap, gOr2_ap, gOr_ap, gNot2_ap, gNot_ap, gIte_ap, gIx_ap, gSl2_ap, gSl1_ap, gSl_ap, gRev_ap, gFld_ap, gMk2_ap, gMk_ap, gMt2_ap, gMt_ap, gBf_ap, gBm2_ap, gBm_ap, gIsi_ap, gLc_ap, gStr_ap, gKget_ap, gKin_ap, gCo2_ap, gCo_ap, gOs2_ap, gOs_ap, gRn1_ap, gRn3_ap, gRn2_ap, gRn_ap, gZp_ap, gAndT_ap, gOrT_ap, gNotT_ap, gJ_ap, sNx_ap, sSet_ap, sSetT_ap, sPar2_ap, sPar1_ap, sI3_ap, sI2_ap, sI1_ap, sF2_ap, sF1_ap, sN2_ap, sN1_ap, sA3_ap, sA2_ap, sA1_ap, sR_ap, sIff_ap, sFr_ap, e_var, e_cst, e_glob, e_bin, e_neg, e_cmp, e_chain, e_and, e_or, e_not, e_ite, e_ix, e_sl, e_rev, e_tup, e_lst, e_dnewK, e_dnewT, e_fld, e_call, e_make, e_meth, e_bf, e_bm, e_isi, e_lc, e_fst, e_fmt, e_kget, e_kin, gDk_ap, gDr_ap, gDv_ap, keyR_str, keyR_int, e_disp, d_nil, d_cons, d1_cons, e_nil, e_cons, j_nil, j_cons, o_none, o_some, c_none, c_some, i_seq, i_rng1, i_rng2, i_zp, i_enm, i_keys, t_cmp, t_chain, t_and, t_or, t_not, t_var, t_ix, t_call, t_meth, t_isi, t_kin, t_fld, t_bf, s_nil, s_cons, s_pass, s_doc, s_brk, s_cnt, s_retN, s_expr, s_asg, s_asgL, s_asgT, s_par, s_asgI, s_asgF, s_augN, s_augF, s_ret, s_iff, s_whl, s_for, s_tryN, strR_str, Option.getD_some, Option.getD_none, Option.isSome_some, Option.isSome_none, mVar, gJc_ap, opN, opB, and_self, true_and, and_true, if_true, if_false, Bool.true_or, Bool.not_true, Bool.not_false, eq_self, e1, e2, e3, p4, p6, int_eq]
  cases c0 : (n3 % 6 == 0) with
  | true =>
    simp only [fin_nx, fin_rt, fin_ex, ofO_some, ofO_none, asB_bl, asI_int, truR_bl, outS_some, outE_some, outO_some, R.bind_ok, R.bind_ex, R.bind_bad, R.to_ok, R.to_ex, R.to_bad, Out.seq_nx, Out.seq_rt, Out.seq_bk, Out.seq_ct, Out.seq_ex, Out.seq_bad, cond_true, cond_false, gam_gl, gam_ncls, gam_init, gam_kd, List.getElem?_cons_zero, List.getElem?_cons_succ, List.set_cons_zero, List.set_cons_succ, List.cons_append, List.nil_append, k2_ap, gBin_ap, gCmp_ap, gCmpT_ap, gNeg_ap, gCh3_ap, gCh2_ap, gCh_ap, gCh3T_ap, gCh2T_ap, gChT_ap, gAnd2_ap, gAnd_ap, gOr2_ap, gOr_ap, gNot2_ap, gNot_ap, gIte_ap, gIx_ap, gSl2_ap, gSl1_ap, gSl_ap, gRev_ap, gFld_ap, gMk2_ap, gMk_ap, gMt2_ap, gMt_ap, gBf_ap, gBm2_ap, gBm_ap, gIsi_ap, gLc_ap, gStr_ap, gKget_ap, gKin_ap, gCo2_ap, gCo_ap, gOs2_ap, gOs_ap, gRn1_ap, gRn3_ap, gRn2_ap, gRn_ap, gZp_ap, gAndT_ap, gOrT_ap, gNotT_ap, gJ_ap, sNx_ap, sSet_ap, sSetT_ap, sPar2_ap, sPar1_ap, sI3_ap, sI2_ap, sI1_ap, sF2_ap, sF1_ap, sN2_ap, sN1_ap, sA3_ap, sA2_ap, sA1_ap, sR_ap, sIff_ap, sFr_ap, e_var, e_cst, e_glob, e_bin, e_neg, e_cmp, e_chain, e_and, e_or, e_not, e_ite, e_ix, e_sl, e_rev, e_tup, e_lst, e_dnewK, e_dnewT, e_fld, e_call, e_make, e_meth, e_bf, e_bm, e_isi, e_lc, e_fst, e_fmt, e_kget, e_kin, gDk_ap, gDr_ap, gDv_ap, keyR_str, keyR_int, e_disp, d_nil, d_cons, d1_cons, e_nil, e_cons, j_nil, j_cons, o_none, o_some, c_none, c_some, i_seq, i_rng1, i_rng2, i_zp, i_enm, i_keys, t_cmp, t_chain, t_and, t_or, t_not, t_var, t_ix, t_call, t_meth, t_isi, t_kin, t_fld, t_bf, s_nil, s_cons, s_pass, s_doc, s_brk, s_cnt, s_retN, s_expr, s_asg, s_asgL, s_asgT, s_par, s_asgI, s_asgF, s_augN, s_augF, s_ret, s_iff, s_whl, s_for, s_tryN, strR_str, Option.getD_some, Option.getD_none, Option.isSome_some, Option.isSome_none, mVar, gJc_ap, opN, opB, and_self, true_and, and_true, if_true, if_false, Bool.true_or, Bool.not_true, Bool.not_false, eq_self, tup1]
    exact ⟨"fence", [], s3, rfl, fun pl => OkL.ok (fs := []) trivial rfl (by decide), d3, F3⟩
  | false =>
    simp only [fin_nx, fin_rt, fin_ex, ofO_some, ofO_none, asB_bl, asI_int, truR_bl, outS_some, outE_some, outO_some, R.bind_ok, R.bind_ex, R.bind_bad, R.to_ok, R.to_ex, R.to_bad, Out.seq_nx, Out.seq_rt, Out.seq_bk, Out.seq_ct, Out.seq_ex, Out.seq_bad, cond_true, cond_false, gam_gl, gam_ncls, gam_init, gam_kd, List.getElem?_cons_zero, List.getElem?_cons_succ, List.set_cons_zero, List.set_cons_succ, List.cons_append, List.nil_append, k2_ap, gBin_ap, gCmp_ap, gCmpT_ap, gNeg_ap, gCh3_ap, gCh2_ap, gCh_ap, gCh3T_ap, gCh2T_ap, gChT_ap, gAnd2_ap, gAnd_ap, gOr2_ap, gOr_ap, gNot2_ap, gNot_ap, gIte_ap, gIx_ap, gSl2_ap, gSl1_ap, gSl_ap, gRev_ap, gFld_ap, gMk2_ap, gMk_ap, gMt2_ap, gMt_ap, gBf_ap, gBm2_ap, gBm_ap, gIsi_ap, gLc_ap, gStr_ap, gKget_ap, gKin_ap, gCo2_ap, gCo_ap, gOs2_ap, gOs_ap, gRn1_ap, gRn3_ap, gRn2_ap, gRn_ap, gZp_ap, gAndT_ap, gOrT_ap, gNotT_ap, gJ_ap, sNx_ap, sSet_ap, sSetT_ap, sPar2_ap, sPar1_ap, sI3_ap, sI2_ap, sI1_ap, sF2_ap, sF1_ap, sN2_ap, sN1_ap, sA3_ap, sA2_ap, sA1_ap, sR_ap, sIff_ap, sFr_ap, e_var, e_cst, e_glob, e_bin, e_neg, e_cmp, e_chain, e_and, e_or, e_not, e_ite, e_ix, e_sl, e_rev, e_tup, e_lst, e_dnewK, e_dnewT, e_fld, e_call, e_make, e_meth, e_bf, e_bm, e_isi, e_lc, e_fst, e_fmt, e_kget, e_kin, gDk_ap, gDr_ap, gDv_ap, keyR_str, keyR_int, e_disp, d_nil, d_cons, d1_cons, e_nil, e_cons, j_nil, j_cons, o_none, o_some, c_none, c_some, i_seq, i_rng1, i_rng2, i_zp, i_enm, i_keys, t_cmp, t_chain, t_and, t_or, t_not, t_var, t_ix, t_call, t_meth, t_isi, t_kin, t_fld, t_bf, s_nil, s_cons, s_pass, s_doc, s_brk, s_cnt, s_retN, s_expr, s_asg, s_asgL, s_asgT, s_par, s_asgI, s_asgF, s_augN, s_augF, s_ret, s_iff, s_whl, s_for, s_tryN, strR_str, Option.getD_some, Option.getD_none, Option.isSome_some, Option.isSome_none, mVar, gJc_ap, opN, opB, and_self, true_and, and_true, if_true, if_false, Bool.true_or, Bool.not_true, Bool.not_false, eq_self, int_eq]
    cases c1 : (n3 % 6 == 1) with
    | true =>
      simp only [fin_nx, fin_rt, fin_ex, ofO_some, ofO_none, asB_bl, asI_int, truR_bl, outS_some, outE_some, outO_some, R.bind_ok, R.bind_ex, R.bind_bad, R.to_ok, R.to_ex, R.to_bad, Out.seq_nx, Out.seq_rt, Out.seq_bk, Out.seq_ct, Out.seq_ex, Out.seq_bad, cond_true, cond_false, gam_gl, gam_ncls, gam_init, gam_kd, List.getElem?_cons_zero, List.getElem?_cons_succ, List.set_cons_zero, List.set_cons_succ, List.cons_append, List.nil_append, k2_ap, gBin_ap, gCmp_ap, gCmpT_ap, gNeg_ap, gCh3_ap, gCh2_ap, gCh_ap, gCh3T_ap, gCh2T_ap, gChT_ap, gAnd2_ap, gAnd_ap, gOr2_ap, gOr_ap, gNot2_ap, gNot_ap, gIte_ap, gIx_ap, gSl2_ap, gSl1_ap, gSl_ap, gRev_ap, gFld_ap, gMk2_ap, gMk_ap, gMt2_ap, gMt_ap, gBf_ap, gBm2_ap, gBm_ap, gIsi_ap, gLc_ap, gStr_ap, gKget_ap, gKin_ap, gCo2_ap, gCo_ap, gOs2_ap, gOs_ap, gRn1_ap, gRn3_ap, gRn2_ap, gRn_ap, gZp_ap, gAndT_ap, gOrT_ap, gNotT_ap, gJ_ap, sNx_ap, sSet_ap, sSetT_ap, sPar2_ap, sPar1_ap, sI3_ap, sI2_ap, sI1_ap, sF2_ap, sF1_ap, sN2_ap, sN1_ap, sA3_ap, sA2_ap, sA1_ap, sR_ap, sIff_ap, sFr_ap, e_var, e_cst, e_glob, e_bin, e_neg, e_cmp, e_chain, e_and, e_or, e_not, e_ite, e_ix, e_sl, e_rev, e_tup, e_lst, e_dnewK, e_dnewT, e_fld, e_call, e_make, e_meth, e_bf, e_bm, e_isi, e_lc, e_fst, e_fmt, e_kget, e_kin, gDk_ap, gDr_ap, gDv_ap, keyR_str, keyR_int, e_disp, d_nil, d_cons, d1_cons, e_nil, e_cons, j_nil, j_cons, o_none, o_some, c_none, c_some, i_seq, i_rng1, i_rng2, i_zp, i_enm, i_keys, t_cmp, t_chain, t_and, t_or, t_not, t_var, t_ix, t_call, t_meth, t_isi, t_kin, t_fld, t_bf, s_nil, s_cons, s_pass, s_doc, s_brk, s_cnt, s_retN, s_expr, s_asg, s_asgL, s_asgT, s_par, s_asgI, s_asgF, s_augN, s_augF, s_ret, s_iff, s_whl, s_for, s_tryN, strR_str, Option.getD_some, Option.getD_none, Option.isSome_some, Option.isSome_none, mVar, gJc_ap, opN, opB, and_self, true_and, and_true, if_true, if_false, Bool.true_or, Bool.not_true, Bool.not_false, eq_self, tup2]
      exact ⟨"join", [n2 % 4], s3, rfl, fun pl => OkL.ok (fs := ["register"]) ⟨p_reg (mod_nn n2 p4) (mod_lt n2 p4), trivial⟩ rfl (by decide), d3, F3⟩
    | false =>
      simp only [fin_nx, fin_rt, fin_ex, ofO_some, ofO_none, asB_bl, asI_int, truR_bl, outS_some, outE_some, outO_some, R.bind_ok, R.bind_ex, R.bind_bad, R.to_ok, R.to_ex, R.to_bad, Out.seq_nx, Out.seq_rt, Out.seq_bk, Out.seq_ct, Out.seq_ex, Out.seq_bad, cond_true, cond_false, gam_gl, gam_ncls, gam_init, gam_kd, List.getElem?_cons_zero, List.getElem?_cons_succ, List.set_cons_zero, List.set_cons_succ, List.cons_append, List.nil_append, k2_ap, gBin_ap, gCmp_ap, gCmpT_ap, gNeg_ap, gCh3_ap, gCh2_ap, gCh_ap, gCh3T_ap, gCh2T_ap, gChT_ap, gAnd2_ap, gAnd_ap, gOr2_ap, gOr_ap, gNot2_ap, gNot_ap, gIte_ap, gIx_ap, gSl2_ap, gSl1_ap, gSl_ap, gRev_ap, gFld_ap, gMk2_ap, gMk_ap, gMt2_ap, gMt_ap, gBf_ap, gBm2_ap, gBm_ap, gIsi_ap, gLc_ap, gStr_ap, gKget_ap, gKin_ap, gCo2_ap, gCo_ap, gOs2_ap, gOs_ap, gRn1_ap, gRn3_ap, gRn2_ap, gRn_ap, gZp_ap, gAndT_ap, gOrT_ap, gNotT_ap, gJ_ap, sNx_ap, sSet_ap, sSetT_ap, sPar2_ap, sPar1_ap, sI3_ap, sI2_ap, sI1_ap, sF2_ap, sF1_ap, sN2_ap, sN1_ap, sA3_ap, sA2_ap, sA1_ap, sR_ap, sIff_ap, sFr_ap, e_var, e_cst, e_glob, e_bin, e_neg, e_cmp, e_chain, e_and, e_or, e_not, e_ite, e_ix, e_sl, e_rev, e_tup, e_lst, e_dnewK, e_dnewT, e_fld, e_call, e_make, e_meth, e_bf, e_bm, e_isi, e_lc, e_fst, e_fmt, e_kget, e_kin, gDk_ap, gDr_ap, gDv_ap, keyR_str, keyR_int, e_disp, d_nil, d_cons, d1_cons, e_nil, e_cons, j_nil, j_cons, o_none, o_some, c_none, c_some, i_seq, i_rng1, i_rng2, i_zp, i_enm, i_keys, t_cmp, t_chain, t_and, t_or, t_not, t_var, t_ix, t_call, t_meth, t_isi, t_kin, t_fld, t_bf, s_nil, s_cons, s_pass, s_doc, s_brk, s_cnt, s_retN, s_expr, s_asg, s_asgL, s_asgT, s_par, s_asgI, s_asgF, s_augN, s_augF, s_ret, s_iff, s_whl, s_for, s_tryN, strR_str, Option.getD_some, Option.getD_none, Option.isSome_some, Option.isSome_none, mVar, gJc_ap, opN, opB, and_self, true_and, and_true, if_true, if_false, Bool.true_or, Bool.not_true, Bool.not_false, eq_self, int_eq]
      cases c2 : (n3 % 6 == 2) with
      | true =>
        obtain ⟨n4, s4, e4, d4, f4⟩ := draw (k := k) (fuel := fuel) d3
        have pn : (0 : Int) < nc := by exact_mod_cast hn
        simp only [fin_nx, fin_rt, fin_ex, ofO_some, ofO_none, asB_bl, asI_int, truR_bl, outS_some, outE_some, outO_some, R.bind_ok, R.bind_ex, R.bind_bad, R.to_ok, R.to_ex, R.to_bad, Out.seq_nx, Out.seq_rt, Out.seq_bk, Out.seq_ct, Out.seq_ex, Out.seq_bad, cond_true, cond_false, gam_gl, gam_ncls, gam_init, gam_kd, List.getElem?_cons_zero, List.getElem?_cons_succ, List.set_cons_zero, List.set_cons_succ, List.cons_append, List.nil_append, k2_ap, gBin_ap, gCmp_ap, gCmpT_ap, gNeg_ap, gCh3_ap, gCh2_ap, gCh_ap, gCh3T_ap, gCh2T_ap, gChT_ap, gAnd2_ap, gAnd_ap, gOr2_ap, gOr_ap, gNot2_ap, gNot_ap, gIte_ap, gIx_ap, gSl2_ap, gSl1_ap, gSl_ap, gRev_ap, gFld_ap, gMk2_ap, gMk_ap, gMt2_ap, gMt_ap, gBf_ap, gBm2_ap, gBm_ap, gIsi_ap, gLc_ap, gStr_ap, gKget_ap, gKin_ap, gCo2_ap, gCo_ap, gOs2_ap, gOs_ap, gRn1_ap, gRn3_ap, gRn2_ap, gRn_ap, gZp_ap, gAndT_ap, gOrT_ap, gNotT_ap, gJ_ap, sNx_ap, sSet_ap, sSetT_ap, sPar2_ap, sPar1_ap, sI3_ap, sI2_ap, sI1_ap, sF2_ap, sF1_ap, sN2_ap, sN1_ap, sA3_ap, sA2_ap, sA1_ap, sR_ap, sIff_ap, sFr_ap, e_var, e_cst, e_glob, e_bin, e_neg, e_cmp, e_chain, e_and, e_or, e_not, e_ite, e_ix, e_sl, e_rev, e_tup, e_lst, e_dnewK, e_dnewT, e_fld, e_call, e_make, e_meth, e_bf, e_bm, e_isi, e_lc, e_fst, e_fmt, e_kget, e_kin, gDk_ap, gDr_ap, gDv_ap, keyR_str, keyR_int, e_disp, d_nil, d_cons, d1_cons, e_nil, e_cons, j_nil, j_cons, o_none, o_some, c_none, c_some, i_seq, i_rng1, i_rng2, i_zp, i_enm, i_keys, t_cmp, t_chain, t_and, t_or, t_not, t_var, t_ix, t_call, t_meth, t_isi, t_kin, t_fld, t_bf, s_nil, s_cons, s_pass, s_doc, s_brk, s_cnt, s_retN, s_expr, s_asg, s_asgL, s_asgT, s_par, s_asgI, s_asgF, s_augN, s_augF, s_ret, s_iff, s_whl, s_for, s_tryN, strR_str, Option.getD_some, Option.getD_none, Option.isSome_some, Option.isSome_none, mVar, gJc_ap, opN, opB, and_self, true_and, and_true, if_true, if_false, Bool.true_or, Bool.not_true, Bool.not_false, eq_self, e4, pn, tup4]
        exact ⟨"spawn", [n1 % 4, n4 % nc, n2 % 4], s4, rfl, fun pl => OkL.ok (fs := ["register", "code", "register"]) ⟨p_reg (mod_nn n1 p4) (mod_lt n1 p4), p_code (mod_nn n4 pn) (mod_lt n4 pn), p_reg (mod_nn n2 p4) (mod_lt n2 p4), trivial⟩ rfl (by decide), d4, F3.trans f4⟩
      | false =>
        have x1 : ixO (.tup [.tup (vars.map eVar), .int lk]) (.int 1) s3 = some (.int lk, s3) := rfl
        simp only [fin_nx, fin_rt, fin_ex, ofO_some, ofO_none, asB_bl, asI_int, truR_bl, outS_some, outE_some, outO_some, R.bind_ok, R.bind_ex, R.bind_bad, R.to_ok, R.to_ex, R.to_bad, Out.seq_nx, Out.seq_rt, Out.seq_bk, Out.seq_ct, Out.seq_ex, Out.seq_bad, cond_true, cond_false, gam_gl, gam_ncls, gam_init, gam_kd, List.getElem?_cons_zero, List.getElem?_cons_succ, List.set_cons_zero, List.set_cons_succ, List.cons_append, List.nil_append, k2_ap, gBin_ap, gCmp_ap, gCmpT_ap, gNeg_ap, gCh3_ap, gCh2_ap, gCh_ap, gCh3T_ap, gCh2T_ap, gChT_ap, gAnd2_ap, gAnd_ap, gOr2_ap, gOr_ap, gNot2_ap, gNot_ap, gIte_ap, gIx_ap, gSl2_ap, gSl1_ap, gSl_ap, gRev_ap, gFld_ap, gMk2_ap, gMk_ap, gMt2_ap, gMt_ap, gBf_ap, gBm2_ap, gBm_ap, gIsi_ap, gLc_ap, gStr_ap, gKget_ap, gKin_ap, gCo2_ap, gCo_ap, gOs2_ap, gOs_ap, gRn1_ap, gRn3_ap, gRn2_ap, gRn_ap, gZp_ap, gAndT_ap, gOrT_ap, gNotT_ap, gJ_ap, sNx_ap, sSet_ap, sSetT_ap, sPar2_ap, sPar1_ap, sI3_ap, sI2_ap, sI1_ap, sF2_ap, sF1_ap, sN2_ap, sN1_ap, sA3_ap, sA2_ap, sA1_ap, sR_ap, sIff_ap, sFr_ap, e_var, e_cst, e_glob, e_bin, e_neg, e_cmp, e_chain, e_and, e_or, e_not, e_ite, e_ix, e_sl, e_rev, e_tup, e_lst, e_dnewK, e_dnewT, e_fld, e_call, e_make, e_meth, e_bf, e_bm, e_isi, e_lc, e_fst, e_fmt, e_kget, e_kin, gDk_ap, gDr_ap, gDv_ap, keyR_str, keyR_int, e_disp, d_nil, d_cons, d1_cons, e_nil, e_cons, j_nil, j_cons, o_none, o_some, c_none, c_some, i_seq, i_rng1, i_rng2, i_zp, i_enm, i_keys, t_cmp, t_chain, t_and, t_or, t_not, t_var, t_ix, t_call, t_meth, t_isi, t_kin, t_fld, t_bf, s_nil, s_cons, s_pass, s_doc, s_brk, s_cnt, s_retN, s_expr, s_asg, s_asgL, s_asgT, s_par, s_asgI, s_asgF, s_augN, s_augF, s_ret, s_iff, s_whl, s_for, s_tryN, strR_str, Option.getD_some, Option.getD_none, Option.isSome_some, Option.isSome_none, mVar, gJc_ap, opN, opB, and_self, true_and, and_true, if_true, if_false, Bool.true_or, Bool.not_true, Bool.not_false, eq_self, int_eq, x1]
        cases c3 : ((lk : Int) == 0) with
        | true =>
          simp only [fin_nx, fin_rt, fin_ex, ofO_some, ofO_none, asB_bl, asI_int, truR_bl, outS_some, outE_some, outO_some, R.bind_ok, R.bind_ex, R.bind_bad, R.to_ok, R.to_ex, R.to_bad, Out.seq_nx, Out.seq_rt, Out.seq_bk, Out.seq_ct, Out.seq_ex, Out.seq_bad, cond_true, cond_false, gam_gl, gam_ncls, gam_init, gam_kd, List.getElem?_cons_zero, List.getElem?_cons_succ, List.set_cons_zero, List.set_cons_succ, List.cons_append, List.nil_append, k2_ap, gBin_ap, gCmp_ap, gCmpT_ap, gNeg_ap, gCh3_ap, gCh2_ap, gCh_ap, gCh3T_ap, gCh2T_ap, gChT_ap, gAnd2_ap, gAnd_ap, gOr2_ap, gOr_ap, gNot2_ap, gNot_ap, gIte_ap, gIx_ap, gSl2_ap, gSl1_ap, gSl_ap, gRev_ap, gFld_ap, gMk2_ap, gMk_ap, gMt2_ap, gMt_ap, gBf_ap, gBm2_ap, gBm_ap, gIsi_ap, gLc_ap, gStr_ap, gKget_ap, gKin_ap, gCo2_ap, gCo_ap, gOs2_ap, gOs_ap, gRn1_ap, gRn3_ap, gRn2_ap, gRn_ap, gZp_ap, gAndT_ap, gOrT_ap, gNotT_ap, gJ_ap, sNx_ap, sSet_ap, sSetT_ap, sPar2_ap, sPar1_ap, sI3_ap, sI2_ap, sI1_ap, sF2_ap, sF1_ap, sN2_ap, sN1_ap, sA3_ap, sA2_ap, sA1_ap, sR_ap, sIff_ap, sFr_ap, e_var, e_cst, e_glob, e_bin, e_neg, e_cmp, e_chain, e_and, e_or, e_not, e_ite, e_ix, e_sl, e_rev, e_tup, e_lst, e_dnewK, e_dnewT, e_fld, e_call, e_make, e_meth, e_bf, e_bm, e_isi, e_lc, e_fst, e_fmt, e_kget, e_kin, gDk_ap, gDr_ap, gDv_ap, keyR_str, keyR_int, e_disp, d_nil, d_cons, d1_cons, e_nil, e_cons, j_nil, j_cons, o_none, o_some, c_none, c_some, i_seq, i_rng1, i_rng2, i_zp, i_enm, i_keys, t_cmp, t_chain, t_and, t_or, t_not, t_var, t_ix, t_call, t_meth, t_isi, t_kin, t_fld, t_bf, s_nil, s_cons, s_pass, s_doc, s_brk, s_cnt, s_retN, s_expr, s_asg, s_asgL, s_asgT, s_par, s_asgI, s_asgF, s_augN, s_augF, s_ret, s_iff, s_whl, s_for, s_tryN, strR_str, Option.getD_some, Option.getD_none, Option.isSome_some, Option.isSome_none, mVar, gJc_ap, opN, opB, and_self, true_and, and_true, if_true, if_false, Bool.true_or, Bool.not_true, Bool.not_false, eq_self, tup1]
          exact ⟨"fence", [], s3, rfl, fun pl => OkL.ok (fs := []) trivial rfl (by decide), d3, F3⟩
        | false =>
          have pl0 : (0 : Int) < lk := by
            have : (lk : Int) ≠ 0 := by simpa using c3
            omega
          obtain ⟨n4, s4, e4, d4, f4⟩ := draw (k := k) (fuel := fuel) d3
          obtain ⟨n5, s5, e5, d5, f5⟩ := draw (k := k) (fuel := fuel) d4
          have x2 : ixO (.tup [.tup (vars.map eVar), .int lk]) (.int 1) s4 = some (.int lk, s4) := rfl
          have x3 : ixO (.tup [.tup (vars.map eVar), .int lk]) (.int 1) s5 = some (.int lk, s5) := rfl
          have y3 : lstR [.tup [.str "lock", .int (n4 % lk)], .tup [.str "unlock", .int (n5 % lk)]] s5 = .ok (.ref s5.n) (s5.new (.lst [.tup [.str "lock", .int (n4 % lk)], .tup [.str "unlock", .int (n5 % lk)]])) := lst_n _ (by show 2 ≤ 100; decide)
          have d6 := d5.keep (Fr.new (X := fun _ => False) (o := .lst [.tup [.str "lock", .int (n4 % lk)], .tup [.str "unlock", .int (n5 % lk)]])) id id
          have F6 := (F3.trans (f4.trans f5)).trans (Fr.new (o := .lst [.tup [.str "lock", .int (n4 % lk)], .tup [.str "unlock", .int (n5 % lk)]]))
          have g6 : (s5.new (.lst [.tup [.str "lock", .int (n4 % lk)], .tup [.str "unlock", .int (n5 % lk)]])).g s5.n = .lst [.tup [.str "lock", .int (n4 % lk)], .tup [.str "unlock", .int (n5 % lk)]] := new_g
          simp only [fin_nx, fin_rt, fin_ex, ofO_some, ofO_none, asB_bl, asI_int, truR_bl, outS_some, outE_some, outO_some, R.bind_ok, R.bind_ex, R.bind_bad, R.to_ok, R.to_ex, R.to_bad, Out.seq_nx, Out.seq_rt, Out.seq_bk, Out.seq_ct, Out.seq_ex, Out.seq_bad, cond_true, cond_false, gam_gl, gam_ncls, gam_init, gam_kd, List.getElem?_cons_zero, List.getElem?_cons_succ, List.set_cons_zero, List.set_cons_succ, List.cons_append, List.nil_append, k2_ap, gBin_ap, gCmp_ap, gCmpT_ap, gNeg_ap, gCh3_ap, gCh2_ap, gCh_ap, gCh3T_ap, gCh2T_ap, gChT_ap, gAnd2_ap, gAnd_ap, gOr2_ap, gOr_ap, gNot2_ap, gNot_ap, gIte_ap, gIx_ap, gSl2_ap, gSl1_ap, gSl_ap, gRev_ap, gFld_ap, gMk2_ap, gMk_ap, gMt2_ap, gMt_ap, gBf_ap, gBm2_ap, gBm_ap, gIsi_ap, gLc_ap, gStr_ap, gKget_ap, gKin_ap, gCo2_ap, gCo_ap, gOs2_ap, gOs_ap, gRn1_ap, gRn3_ap, gRn2_ap, gRn_ap, gZp_ap, gAndT_ap, gOrT_ap, gNotT_ap, gJ_ap, sNx_ap, sSet_ap, sSetT_ap, sPar2_ap, sPar1_ap, sI3_ap, sI2_ap, sI1_ap, sF2_ap, sF1_ap, sN2_ap, sN1_ap, sA3_ap, sA2_ap, sA1_ap, sR_ap, sIff_ap, sFr_ap, e_var, e_cst, e_glob, e_bin, e_neg, e_cmp, e_chain, e_and, e_or, e_not, e_ite, e_ix, e_sl, e_rev, e_tup, e_lst, e_dnewK, e_dnewT, e_fld, e_call, e_make, e_meth, e_bf, e_bm, e_isi, e_lc, e_fst, e_fmt, e_kget, e_kin, gDk_ap, gDr_ap, gDv_ap, keyR_str, keyR_int, e_disp, d_nil, d_cons, d1_cons, e_nil, e_cons, j_nil, j_cons, o_none, o_some, c_none, c_some, i_seq, i_rng1, i_rng2, i_zp, i_enm, i_keys, t_cmp, t_chain, t_and, t_or, t_not, t_var, t_ix, t_call, t_meth, t_isi, t_kin, t_fld, t_bf, s_nil, s_cons, s_pass, s_doc, s_brk, s_cnt, s_retN, s_expr, s_asg, s_asgL, s_asgT, s_par, s_asgI, s_asgF, s_augN, s_augF, s_ret, s_iff, s_whl, s_for, s_tryN, strR_str, Option.getD_some, Option.getD_none, Option.isSome_some, Option.isSome_none, mVar, gJc_ap, opN, opB, and_self, true_and, and_true, if_true, if_false, Bool.true_or, Bool.not_true, Bool.not_false, eq_self, e4, x2, pl0, tup2, e5, x3, y3, show (0 : Int) < 2 from by decide]
          have hb := mod_nn (n3 % 6) (show (0 : Int) < 2 from by decide)
          have hb2 := mod_lt (n3 % 6) (show (0 : Int) < 2 from by decide)
          rcases (show n3 % 6 % 2 = 0 ∨ n3 % 6 % 2 = 1 by omega) with hc | hc
          · have z := ixO_lst (i := 0) g6 (Ab.atI_nat (j := 0) rfl)
            rw [hc]
            simp only [fin_nx, fin_rt, fin_ex, ofO_some, ofO_none, asB_bl, asI_int, truR_bl, outS_some, outE_some, outO_some, R.bind_ok, R.bind_ex, R.bind_bad, R.to_ok, R.to_ex, R.to_bad, Out.seq_nx, Out.seq_rt, Out.seq_bk, Out.seq_ct, Out.seq_ex, Out.seq_bad, cond_true, cond_false, gam_gl, gam_ncls, gam_init, gam_kd, List.getElem?_cons_zero, List.getElem?_cons_succ, List.set_cons_zero, List.set_cons_succ, List.cons_append, List.nil_append, k2_ap, gBin_ap, gCmp_ap, gCmpT_ap, gNeg_ap, gCh3_ap, gCh2_ap, gCh_ap, gCh3T_ap, gCh2T_ap, gChT_ap, gAnd2_ap, gAnd_ap, gOr2_ap, gOr_ap, gNot2_ap, gNot_ap, gIte_ap, gIx_ap, gSl2_ap, gSl1_ap, gSl_ap, gRev_ap, gFld_ap, gMk2_ap, gMk_ap, gMt2_ap, gMt_ap, gBf_ap, gBm2_ap, gBm_ap, gIsi_ap, gLc_ap, gStr_ap, gKget_ap, gKin_ap, gCo2_ap, gCo_ap, gOs2_ap, gOs_ap, gRn1_ap, gRn3_ap, gRn2_ap, gRn_ap, gZp_ap, gAndT_ap, gOrT_ap, gNotT_ap, gJ_ap, sNx_ap, sSet_ap, sSetT_ap, sPar2_ap, sPar1_ap, sI3_ap, sI2_ap, sI1_ap, sF2_ap, sF1_ap, sN2_ap, sN1_ap, sA3_ap, sA2_ap, sA1_ap, sR_ap, sIff_ap, sFr_ap, e_var, e_cst, e_glob, e_bin, e_neg, e_cmp, e_chain, e_and, e_or, e_not, e_ite, e_ix, e_sl, e_rev, e_tup, e_lst, e_dnewK, e_dnewT, e_fld, e_call, e_make, e_meth, e_bf, e_bm, e_isi, e_lc, e_fst, e_fmt, e_kget, e_kin, gDk_ap, gDr_ap, gDv_ap, keyR_str, keyR_int, e_disp, d_nil, d_cons, d1_cons, e_nil, e_cons, j_nil, j_cons, o_none, o_some, c_none, c_some, i_seq, i_rng1, i_rng2, i_zp, i_enm, i_keys, t_cmp, t_chain, t_and, t_or, t_not, t_var, t_ix, t_call, t_meth, t_isi, t_kin, t_fld, t_bf, s_nil, s_cons, s_pass, s_doc, s_brk, s_cnt, s_retN, s_expr, s_asg, s_asgL, s_asgT, s_par, s_asgI, s_asgF, s_augN, s_augF, s_ret, s_iff, s_whl, s_for, s_tryN, strR_str, Option.getD_some, Option.getD_none, Option.isSome_some, Option.isSome_none, mVar, gJc_ap, opN, opB, and_self, true_and, and_true, if_true, if_false, Bool.true_or, Bool.not_true, Bool.not_false, eq_self, z]
            exact ⟨"lock", [n4 % lk], _, rfl, fun pl => OkL.ok (fs := ["lock"]) ⟨p_lock (mod_nn n4 pl0) (mod_lt n4 pl0), trivial⟩ rfl (by decide), d6, F6⟩
          · have z := ixO_lst (i := 1) g6 (Ab.atI_nat (j := 1) rfl)
            rw [hc]
            simp only [fin_nx, fin_rt, fin_ex, ofO_some, ofO_none, asB_bl, asI_int, truR_bl, outS_some, outE_some, outO_some, R.bind_ok, R.bind_ex, R.bind_bad, R.to_ok, R.to_ex, R.to_bad, Out.seq_nx, Out.seq_rt, Out.seq_bk, Out.seq_ct, Out.seq_ex, Out.seq_bad, cond_true, cond_false, gam_gl, gam_ncls, gam_init, gam_kd, List.getElem?_cons_zero, List.getElem?_cons_succ, List.set_cons_zero, List.set_cons_succ, List.cons_append, List.nil_append, k2_ap, gBin_ap, gCmp_ap, gCmpT_ap, gNeg_ap, gCh3_ap, gCh2_ap, gCh_ap, gCh3T_ap, gCh2T_ap, gChT_ap, gAnd2_ap, gAnd_ap, gOr2_ap, gOr_ap, gNot2_ap, gNot_ap, gIte_ap, gIx_ap, gSl2_ap, gSl1_ap, gSl_ap, gRev_ap, gFld_ap, gMk2_ap, gMk_ap, gMt2_ap, gMt_ap, gBf_ap, gBm2_ap, gBm_ap, gIsi_ap, gLc_ap, gStr_ap, gKget_ap, gKin_ap, gCo2_ap, gCo_ap, gOs2_ap, gOs_ap, gRn1_ap, gRn3_ap, gRn2_ap, gRn_ap, gZp_ap, gAndT_ap, gOrT_ap, gNotT_ap, gJ_ap, sNx_ap, sSet_ap, sSetT_ap, sPar2_ap, sPar1_ap, sI3_ap, sI2_ap, sI1_ap, sF2_ap, sF1_ap, sN2_ap, sN1_ap, sA3_ap, sA2_ap, sA1_ap, sR_ap, sIff_ap, sFr_ap, e_var, e_cst, e_glob, e_bin, e_neg, e_cmp, e_chain, e_and, e_or, e_not, e_ite, e_ix, e_sl, e_rev, e_tup, e_lst, e_dnewK, e_dnewT, e_fld, e_call, e_make, e_meth, e_bf, e_bm, e_isi, e_lc, e_fst, e_fmt, e_kget, e_kin, gDk_ap, gDr_ap, gDv_ap, keyR_str, keyR_int, e_disp, d_nil, d_cons, d1_cons, e_nil, e_cons, j_nil, j_cons, o_none, o_some, c_none, c_some, i_seq, i_rng1, i_rng2, i_zp, i_enm, i_keys, t_cmp, t_chain, t_and, t_or, t_not, t_var, t_ix, t_call, t_meth, t_isi, t_kin, t_fld, t_bf, s_nil, s_cons, s_pass, s_doc, s_brk, s_cnt, s_retN, s_expr, s_asg, s_asgL, s_asgT, s_par, s_asgI, s_asgF, s_augN, s_augF, s_ret, s_iff, s_whl, s_for, s_tryN, strR_str, Option.getD_some, Option.getD_none, Option.isSome_some, Option.isSome_none, mVar, gJc_ap, opN, opB, and_self, true_and, and_true, if_true, if_false, Bool.true_or, Bool.not_true, Bool.not_false, eq_self, z]
            exact ⟨"unlock", [n5 % lk], _, rfl, fun pl => OkL.ok (fs := ["lock"]) ⟨p_lock (mod_nn n5 pl0) (mod_lt n5 pl0), trivial⟩ rfl (by decide), d6, F6⟩
theorem i22 : Is T 22 7 3 b22 := ⟨d22, rfl, rfl, rfl, rfl⟩
theorem gt_int (i j : Int) (s : Sto) : opC .gt (.int i) (.int j) s = some (.bl (decide (j < i)), s) := rfl
theorem lt_int (i j : Int) (s : Sto) : opC .lt (.int i) (.int j) s = some (.bl (decide (i < j)), s) := rfl
theorem visible {k fuel : Nat} {s : Sto} {r l lk nc : Nat} {vars : List (Int × Bool)} (d : Dr s r l) (hn : 0 < nc) : Gives vars lk nc r l s ((T.gam fuel (k + 4)).fn 22 [.ref r, .tup [.tup (vars.map eVar), .int lk], .int nc] s) := by
  rw [i22.call rfl]
  show Gives vars lk nc r l s (svs _ _ b22 [some (.ref r), some (.tup [.tup (vars.map eVar), .int lk]), some (.int nc), none, none, none, none] s).fin
  obtain ⟨n1, s1, e1, d1, f1⟩ := draw (k := k + 1) (fuel := fuel) d
  have p12 : (0 : Int) < 12 := by decide
  have p4 : (0 : Int) < 4 := by decide
  have x0 : ∀ s : Sto, ixO (.tup [.tup (vars.map eVar), .int lk]) (.int 0) s = some (.tup (vars.map eVar), s) := fun _ => rfl
  have l0 : ∀ s : Sto, fO .len [.tup (vars.map eVar)] s = some (.int (vars.length : Nat), s) := fun s => by rw [len_tup rfl, List.length_map]
  unfold b22
  simp only [fin_nx, fin_rt, fin_ex, ofO_some, ofO_none, asB_bl, asI_int, truR_bl, outS_some, outE_some, outO_some, R.bind_ok, R.bind_ex, R.bind_bad, R.to_ok, R.to_ex, R.to_bad, Out.seq_nx, Out.seq_rt, Out.seq_bk, Out.seq_ct, Out.seq_ex, Out.seq_bad, cond_true, cond_false, gam_gl, gam_ncls, gam_init, gam_kd, List.getElem?_cons_zero, List.getElem?_cons_succ, List.set_cons_zero, List.set_cons_succ, List.cons_append, List.nil_append, k2_ap, gBin_ap, gCmp_ap, gCmpT_ap, gNeg_ap, gCh3_ap, gCh2_ap, gCh_ap, gCh3T_ap, gCh2T_ap, gChT_ap, gAnd2_ap, gAnd_ap, gOr2_ap, gOr_ap, gNot2_ap, gNot_ap, gIte_ap, gIx_ap, gSl2_ap, gSl1_ap, gSl_ap, gRev_ap, gFld_ap, gMk2_ap, gMk_ap, gMt2_ap, gMt_ap, gBf_ap, gBm2_ap, gBm_ap, gIsi_ap, gLc_ap, gStr_ap, gKget_ap, gKin_ap, gCo2_ap, gCo_ap, gOs2_ap, gOs_ap, gRn1_ap, gRn3_ap, gRn2_ap, gRn_ap, gZp_ap, gAndT_ap, gOrT_ap, gNotT_ap, gJ_ap, sNx_ap, sSet_ap, sSetT_ap, sPar2_ap, sPar1_ap, sI3_ap, sI2_ap, sI1_ap, sF2_ap, sF1_ap, sN2_ap, sN1_ap, sA3_ap, sA2_ap, sA1_ap, sR_ap, sIff_ap, sFr_ap, e_var, e_cst, e_glob, e_bin, e_neg, e_cmp, e_chain, e_and, e_or, e_not, e_ite, e_ix, e_sl, e_rev, e_tup, e_lst, e_dnewK, e_dnewT, e_fld, e_call, e_make, e_meth, e_bf, e_bm, e_isi, e_lc, e_fst, e_fmt, e_kget, e_kin, gDk_ap, gDr_ap, gDv_ap, keyR_str, keyR_int, e_disp, d_nil, d_cons, d1_cons, e_nil, e_cons, j_nil, j_cons, o_none, o_some, c_none, c_some, i_seq, i_rng1, i_rng2, i_zp, i_enm, i_keys, t_cmp, t_chain, t_and, t_or, t_not, t_var, t_ix, t_call, t_meth, t_isi, t_kin, t_fld, t_bf, s_nil, s_cons, s_pass, s_doc, s_brk, s_cnt, s_retN, s_expr, s_asg, s_asgL, s_asgT, s_par, s_asgI, s_asgF, s_augN, s_augF, s_ret, s_iff, s_whl, s_for, s_tryN, strR_str, Option.getD_some, Option.getD_none, Option.isSome_some, Option.isSome_none, mVar, gJc_ap, opN, opB, and_self, true_and, and_true, if_true, if_false, Bool.true_or, Bool.not_true, Bool.not_false, eq_self, e1, p12, x0, l0, int_eq]
  have tail : Gives vars lk nc r l s ((T.gam fuel (k + 3)).fn 21 [.ref r, .tup [.tup (vars.map eVar), .int lk], .int nc] s1) := by
    obtain ⟨w, ps, s', h1, h2, h3, h4⟩ := control (k := k) (fuel := fuel) (lk := lk) (vars := vars) d1 hn
    exact ⟨w, ps, s', h1, h2, h3, f1.trans h4⟩
  have tail2 : Gives vars lk nc r l s (((((T.gam fuel (k + 3)).fn 21 [.ref r, .tup [.tup (vars.map eVar), .int lk], .int nc] s1).to [some (.ref r), some (.tup [.tup (vars.map eVar), .int lk]), some (.int nc), some (.int (n1 % 12)), none, none, none] sR)).fin) := by
    obtain ⟨w, ps, s', h1, h2⟩ := tail
    rw [h1]
    exact ⟨w, ps, s', rfl, h2⟩
  cases cz : ((vars.length : Int) == 0) with
  | true =>
    simp only [fin_nx, fin_rt, fin_ex, ofO_some, ofO_none, asB_bl, asI_int, truR_bl, outS_some, outE_some, outO_some, R.bind_ok, R.bind_ex, R.bind_bad, R.to_ok, R.to_ex, R.to_bad, Out.seq_nx, Out.seq_rt, Out.seq_bk, Out.seq_ct, Out.seq_ex, Out.seq_bad, cond_true, cond_false, gam_gl, gam_ncls, gam_init, gam_kd, List.getElem?_cons_zero, List.getElem?_cons_succ, List.set_cons_zero, List.set_cons_succ, List.cons_append, List.nil_append, k2_ap, gBin_ap, gCmp_ap, gCmpT_ap, gNeg_ap, gCh3_ap, gCh2_ap, gCh_ap, gCh3T_ap, gCh2T_ap, gChT_ap, gAnd2_ap, gAnd_ap, gOr2_ap, gOr_ap, gNot2_ap, gNot_ap, gIte_ap, gIx_ap, gSl2_ap, gSl1_ap, gSl_ap, gRev_ap, gFld_ap, gMk2_ap, gMk_ap, gMt2_ap, gMt_ap, gBf_ap, gBm2_ap, gBm_ap, gIsi_ap, gLc_ap, gStr_ap, gKget_ap, gKin_ap, gCo2_ap, gCo_ap, gOs2_ap, gOs_ap, gRn1_ap, gRn3_ap, gRn2_ap, gRn_ap, gZp_ap, gAndT_ap, gOrT_ap, gNotT_ap, gJ_ap, sNx_ap, sSet_ap, sSetT_ap, sPar2_ap, sPar1_ap, sI3_ap, sI2_ap, sI1_ap, sF2_ap, sF1_ap, sN2_ap, sN1_ap, sA3_ap, sA2_ap, sA1_ap, sR_ap, sIff_ap, sFr_ap, e_var, e_cst, e_glob, e_bin, e_neg, e_cmp, e_chain, e_and, e_or, e_not, e_ite, e_ix, e_sl, e_rev, e_tup, e_lst, e_dnewK, e_dnewT, e_fld, e_call, e_make, e_meth, e_bf, e_bm, e_isi, e_lc, e_fst, e_fmt, e_kget, e_kin, gDk_ap, gDr_ap, gDv_ap, keyR_str, keyR_int, e_disp, d_nil, d_cons, d1_cons, e_nil, e_cons, j_nil, j_cons, o_none, o_some, c_none, c_some, i_seq, i_rng1, i_rng2, i_zp, i_enm, i_keys, t_cmp, t_chain, t_and, t_or, t_not, t_var, t_ix, t_call, t_meth, t_isi, t_kin, t_fld, t_bf, s_nil, s_cons, s_pass, s_doc, s_brk, s_cnt, s_retN, s_expr, s_asg, s_asgL, s_asgT, s_par, s_asgI, s_asgF, s_augN, s_augF, s_ret, s_iff, s_whl, s_for, s_tryN, strR_str, Option.getD_some, Option.getD_none, Option.isSome_some, Option.isSome_none, mVar, gJc_ap, opN, opB, and_self, true_and, and_true, if_true, if_false, Bool.true_or, Bool.not_true, Bool.not_false, eq_self]
    obtain ⟨w, ps, s', h1, h2⟩ := tail
    rw [h1]
    exact ⟨w, ps, s', rfl, h2⟩
  | false =>
    simp only [fin_nx, fin_rt, fin_ex, ofO_some, ofO_none, asB_bl, asI_int, truR_bl, outS_some, outE_some, outO_some, R.bind_ok, R.bind_ex, R.bind_bad, R.to_ok, R.to_ex, R.to_bad, Out.seq_nx, Out.seq_rt, Out.seq_bk, Out.seq_ct, Out.seq_ex, Out.seq_bad, cond_true, cond_false, gam_gl, gam_ncls, gam_init, gam_kd, List.getElem?_cons_zero, List.getElem?_cons_succ, List.set_cons_zero, List.set_cons_succ, List.cons_append, List.nil_append, k2_ap, gBin_ap, gCmp_ap, gCmpT_ap, gNeg_ap, gCh3_ap, gCh2_ap, gCh_ap, gCh3T_ap, gCh2T_ap, gChT_ap, gAnd2_ap, gAnd_ap, gOr2_ap, gOr_ap, gNot2_ap, gNot_ap, gIte_ap, gIx_ap, gSl2_ap, gSl1_ap, gSl_ap, gRev_ap, gFld_ap, gMk2_ap, gMk_ap, gMt2_ap, gMt_ap, gBf_ap, gBm2_ap, gBm_ap, gIsi_ap, gLc_ap, gStr_ap, gKget_ap, gKin_ap, gCo2_ap, gCo_ap, gOs2_ap, gOs_ap, gRn1_ap, gRn3_ap, gRn2_ap, gRn_ap, gZp_ap, gAndT_ap, gOrT_ap, gNotT_ap, gJ_ap, sNx_ap, sSet_ap, sSetT_ap, sPar2_ap, sPar1_ap, sI3_ap, sI2_ap, sI1_ap, sF2_ap, sF1_ap, sN2_ap, sN1_ap, sA3_ap, sA2_ap, sA1_ap, sR_ap, sIff_ap, sFr_ap, e_var, e_cst, e_glob, e_bin, e_neg, e_cmp, e_chain, e_and, e_or, e_not, e_ite, e_ix, e_sl, e_rev, e_tup, e_lst, e_dnewK, e_dnewT, e_fld, e_call, e_make, e_meth, e_bf, e_bm, e_isi, e_lc, e_fst, e_fmt, e_kget, e_kin, gDk_ap, gDr_ap, gDv_ap, keyR_str, keyR_int, e_disp, d_nil, d_cons, d1_cons, e_nil, e_cons, j_nil, j_cons, o_none, o_some, c_none, c_some, i_seq, i_rng1, i_rng2, i_zp, i_enm, i_keys, t_cmp, t_chain, t_and, t_or, t_not, t_var, t_ix, t_call, t_meth, t_isi, t_kin, t_fld, t_bf, s_nil, s_cons, s_pass, s_doc, s_brk, s_cnt, s_retN, s_expr, s_asg, s_asgL, s_asgT, s_par, s_asgI, s_asgF, s_augN, s_augF, s_ret, s_iff, s_whl, s_for, s_tryN, strR_str, Option.getD_some, Option.getD_none, Option.isSome_some, Option.isSome_none, mVar, gJc_ap, opN, opB, and_self, true_and, and_true, if_true, if_false, Bool.true_or, Bool.not_true, Bool.not_false, eq_self, gt_int]
    by_cases c9 : 9 < n1 % 12
    · rw [decide_eq_true c9]
      simp only [fin_nx, fin_rt, fin_ex, ofO_some, ofO_none, asB_bl, asI_int, truR_bl, outS_some, outE_some, outO_some, R.bind_ok, R.bind_ex, R.bind_bad, R.to_ok, R.to_ex, R.to_bad, Out.seq_nx, Out.seq_rt, Out.seq_bk, Out.seq_ct, Out.seq_ex, Out.seq_bad, cond_true, cond_false, gam_gl, gam_ncls, gam_init, gam_kd, List.getElem?_cons_zero, List.getElem?_cons_succ, List.set_cons_zero, List.set_cons_succ, List.cons_append, List.nil_append, k2_ap, gBin_ap, gCmp_ap, gCmpT_ap, gNeg_ap, gCh3_ap, gCh2_ap, gCh_ap, gCh3T_ap, gCh2T_ap, gChT_ap, gAnd2_ap, gAnd_ap, gOr2_ap, gOr_ap, gNot2_ap, gNot_ap, gIte_ap, gIx_ap, gSl2_ap, gSl1_ap, gSl_ap, gRev_ap, gFld_ap, gMk2_ap, gMk_ap, gMt2_ap, gMt_ap, gBf_ap, gBm2_ap, gBm_ap, gIsi_ap, gLc_ap, gStr_ap, gKget_ap, gKin_ap, gCo2_ap, gCo_ap, gOs2_ap, gOs_ap, gRn1_ap, gRn3_ap, gRn2_ap, gRn_ap, gZp_ap, gAndT_ap, gOrT_ap, gNotT_ap, gJ_ap, sNx_ap, sSet_ap, sSetT_ap, sPar2_ap, sPar1_ap, sI3_ap, sI2_ap, sI1_ap, sF2_ap, sF1_ap, sN2_ap, sN1_ap, sA3_ap, sA2_ap, sA1_ap, sR_ap, sIff_ap, sFr_ap, e_var, e_cst, e_glob, e_bin, e_neg, e_cmp, e_chain, e_and, e_or, e_not, e_ite, e_ix, e_sl, e_rev, e_tup, e_lst, e_dnewK, e_dnewT, e_fld, e_call, e_make, e_meth, e_bf, e_bm, e_isi, e_lc, e_fst, e_fmt, e_kget, e_kin, gDk_ap, gDr_ap, gDv_ap, keyR_str, keyR_int, e_disp, d_nil, d_cons, d1_cons, e_nil, e_cons, j_nil, j_cons, o_none, o_some, c_none, c_some, i_seq, i_rng1, i_rng2, i_zp, i_enm, i_keys, t_cmp, t_chain, t_and, t_or, t_not, t_var, t_ix, t_call, t_meth, t_isi, t_kin, t_fld, t_bf, s_nil, s_cons, s_pass, s_doc, s_brk, s_cnt, s_retN, s_expr, s_asg, s_asgL, s_asgT, s_par, s_asgI, s_asgF, s_augN, s_augF, s_ret, s_iff, s_whl, s_for, s_tryN, strR_str, Option.getD_some, Option.getD_none, Option.isSome_some, Option.isSome_none, mVar, gJc_ap, opN, opB, and_self, true_and, and_true, if_true, if_false, Bool.true_or, Bool.not_true, Bool.not_false, eq_self]
      obtain ⟨w, ps, s', h1, h2⟩ := tail
      rw [h1]
      exact ⟨w, ps, s', rfl, h2⟩
    · rw [decide_eq_false c9]
      have pv : (0 : Int) < vars.length := by
        have : (vars.length : Int) ≠ 0 := by simpa using cz
        omega
      obtain ⟨n2, s2, e2, d2, f2⟩ := draw (k := k + 1) (fuel := fuel) d1
      obtain ⟨n3, s3, e3, d3, f3⟩ := draw (k := k + 1) (fuel := fuel) d2
      obtain ⟨n4, s4, e4, d4, f4⟩ := draw (k := k + 1) (fuel := fuel) d3
      have F4 := ((f1.trans f2).trans f3).trans f4
      obtain ⟨j, hj, hjl⟩ : ∃ j : Nat, n2 % (vars.length : Int) = (j : Int) ∧ j < vars.length := by
        have a := mod_nn n2 pv
        have b := mod_lt n2 pv
        exact ⟨(n2 % (vars.length : Int)).toNat, (Int.toNat_of_nonneg a).symm, by omega⟩
      have vj : vars[j]? = some vars[j] := List.getElem?_eq_getElem hjl
      have x1 : ∀ s : Sto, ixO (.tup (vars.map eVar)) (.int (j : Int)) s = some (eVar vars[j], s) := fun s => ixO_tup rfl (Ab.atI_nat (by simp [vj]))
      have x2 : ∀ s : Sto, ixO (eVar vars[j]) (.int 1) s = some (.bl vars[j].2, s) := fun s => ixO_tup rfl (Ab.atI_nat (j := 1) rfl)
      have q3 : ∀ {w : Str} {pl : Nat}, okP vars lk nc pl w "register" (n3 % 4) := p_reg (mod_nn n3 p4) (mod_lt n3 p4)
      have q4 : ∀ {w : Str} {pl : Nat}, okP vars lk nc pl w "register" (n4 % 4) := p_reg (mod_nn n4 p4) (mod_lt n4 p4)
      have qf : ∀ {w : Str} {pl : Nat}, vars[j].2 = false → okP vars lk nc pl w "variable" (j : Int) := fun h => p_var vj (fun e => by rw [h] at e; cases e)
      have ql : ∀ {pl : Nat}, okP vars lk nc pl "load" "variable" (j : Int) := p_var vj fun _ => .inl rfl
      have qs : ∀ {pl : Nat}, okP vars lk nc pl "store" "variable" (j : Int) := p_var vj fun _ => .inr rfl
      have gl : Gives vars lk nc r l s (.ok (.tup [.str "load", .int (n3 % 4), .int j]) s4) := ⟨"load", [n3 % 4, j], s4, rfl, fun pl => OkL.ok (fs := ["register", "variable"]) ⟨q3, ql, trivial⟩ rfl (by decide), d4, F4⟩
      have gs : Gives vars lk nc r l s (.ok (.tup [.str "store", .int j, .int (n4 % 4)]) s4) := ⟨"store", [j, n4 % 4], s4, rfl, fun pl => OkL.ok (fs := ["variable", "register"]) ⟨qs, q4, trivial⟩ rfl (by decide), d4, F4⟩
      simp only [fin_nx, fin_rt, fin_ex, ofO_some, ofO_none, asB_bl, asI_int, truR_bl, outS_some, outE_some, outO_some, R.bind_ok, R.bind_ex, R.bind_bad, R.to_ok, R.to_ex, R.to_bad, Out.seq_nx, Out.seq_rt, Out.seq_bk, Out.seq_ct, Out.seq_ex, Out.seq_bad, cond_true, cond_false, gam_gl, gam_ncls, gam_init, gam_kd, List.getElem?_cons_zero, List.getElem?_cons_succ, List.set_cons_zero, List.set_cons_succ, List.cons_append, List.nil_append, k2_ap, gBin_ap, gCmp_ap, gCmpT_ap, gNeg_ap, gCh3_ap, gCh2_ap, gCh_ap, gCh3T_ap, gCh2T_ap, gChT_ap, gAnd2_ap, gAnd_ap, gOr2_ap, gOr_ap, gNot2_ap, gNot_ap, gIte_ap, gIx_ap, gSl2_ap, gSl1_ap, gSl_ap, gRev_ap, gFld_ap, gMk2_ap, gMk_ap, gMt2_ap, gMt_ap, gBf_ap, gBm2_ap, gBm_ap, gIsi_ap, gLc_ap, gStr_ap, gKget_ap, gKin_ap, gCo2_ap, gCo_ap, gOs2_ap, gOs_ap, gRn1_ap, gRn3_ap, gRn2_ap, gRn_ap, gZp_ap, gAndT_ap, gOrT_ap, gNotT_ap, gJ_ap, sNx_ap, sSet_ap, sSetT_ap, sPar2_ap, sPar1_ap, sI3_ap, sI2_ap, sI1_ap, sF2_ap, sF1_ap, sN2_ap, sN1_ap, sA3_ap, sA2_ap, sA1_ap, sR_ap, sIff_ap, sFr_ap, e_var, e_cst, e_glob, e_bin, e_neg, e_cmp, e_chain, e_and, e_or, e_not, e_ite, e_ix, e_sl, e_rev, e_tup, e_lst, e_dnewK, e_dnewT, e_fld, e_call, e_make, e_meth, e_bf, e_bm, e_isi, e_lc, e_fst, e_fmt, e_kget, e_kin, gDk_ap, gDr_ap, gDv_ap, keyR_str, keyR_int, e_disp, d_nil, d_cons, d1_cons, e_nil, e_cons, j_nil, j_cons, o_none, o_some, c_none, c_some, i_seq, i_rng1, i_rng2, i_zp, i_enm, i_keys, t_cmp, t_chain, t_and, t_or, t_not, t_var, t_ix, t_call, t_meth, t_isi, t_kin, t_fld, t_bf, s_nil, s_cons, s_pass, s_doc, s_brk, s_cnt, s_retN, s_expr, s_asg, s_asgL, s_asgT, s_par, s_asgI, s_asgF, s_augN, s_augF, s_ret, s_iff, s_whl, s_for, s_tryN, strR_str, Option.getD_some, Option.getD_none, Option.isSome_some, Option.isSome_none, mVar, gJc_ap, opN, opB, and_self, true_and, and_true, if_true, if_false, Bool.true_or, Bool.not_true, Bool.not_false, eq_self, x0, l0, e2, pv, e3, p4, e4, lt_int, hj, x1, x2]
      by_cases c3 : n1 % 12 < 3
      · rw [decide_eq_true c3]
        simp only [fin_nx, fin_rt, fin_ex, ofO_some, ofO_none, asB_bl, asI_int, truR_bl, outS_some, outE_some, outO_some, R.bind_ok, R.bind_ex, R.bind_bad, R.to_ok, R.to_ex, R.to_bad, Out.seq_nx, Out.seq_rt, Out.seq_bk, Out.seq_ct, Out.seq_ex, Out.seq_bad, cond_true, cond_false, gam_gl, gam_ncls, gam_init, gam_kd, List.getElem?_cons_zero, List.getElem?_cons_succ, List.set_cons_zero, List.set_cons_succ, List.cons_append, List.nil_append, k2_ap, gBin_ap, gCmp_ap, gCmpT_ap, gNeg_ap, gCh3_ap, gCh2_ap, gCh_ap, gCh3T_ap, gCh2T_ap, gChT_ap, gAnd2_ap, gAnd_ap, gOr2_ap, gOr_ap, gNot2_ap, gNot_ap, gIte_ap, gIx_ap, gSl2_ap, gSl1_ap, gSl_ap, gRev_ap, gFld_ap, gMk2_ap, gMk_ap, gMt2_ap, gMt_ap, gBf_ap, gBm2_ap, gBm_ap, gIsi_ap, gLc_ap, gStr_ap, gKget_ap, gKin_ap, gCo2_ap, gCo_ap, gOs2_ap, gOs_ap, gRn1_ap, gRn3_ap, gRn2_ap, gRn_ap, gZp_ap, gAndT_ap, gOrT_ap, gNotT_ap, gJ_ap, sNx_ap, sSet_ap, sSetT_ap, sPar2_ap, sPar1_ap, sI3_ap, sI2_ap, sI1_ap, sF2_ap, sF1_ap, sN2_ap, sN1_ap, sA3_ap, sA2_ap, sA1_ap, sR_ap, sIff_ap, sFr_ap, e_var, e_cst, e_glob, e_bin, e_neg, e_cmp, e_chain, e_and, e_or, e_not, e_ite, e_ix, e_sl, e_rev, e_tup, e_lst, e_dnewK, e_dnewT, e_fld, e_call, e_make, e_meth, e_bf, e_bm, e_isi, e_lc, e_fst, e_fmt, e_kget, e_kin, gDk_ap, gDr_ap, gDv_ap, keyR_str, keyR_int, e_disp, d_nil, d_cons, d1_cons, e_nil, e_cons, j_nil, j_cons, o_none, o_some, c_none, c_some, i_seq, i_rng1, i_rng2, i_zp, i_enm, i_keys, t_cmp, t_chain, t_and, t_or, t_not, t_var, t_ix, t_call, t_meth, t_isi, t_kin, t_fld, t_bf, s_nil, s_cons, s_pass, s_doc, s_brk, s_cnt, s_retN, s_expr, s_asg, s_asgL, s_asgT, s_par, s_asgI, s_asgF, s_augN, s_augF, s_ret, s_iff, s_whl, s_for, s_tryN, strR_str, Option.getD_some, Option.getD_none, Option.isSome_some, Option.isSome_none, mVar, gJc_ap, opN, opB, and_self, true_and, and_true, if_true, if_false, Bool.true_or, Bool.not_true, Bool.not_false, eq_self, tup3]
        exact gl
      rw [decide_eq_false c3]
      cases hb : vars[j].2 with
      | true =>
        simp only [fin_nx, fin_rt, fin_ex, ofO_some, ofO_none, asB_bl, asI_int, truR_bl, outS_some, outE_some, outO_some, R.bind_ok, R.bind_ex, R.bind_bad, R.to_ok, R.to_ex, R.to_bad, Out.seq_nx, Out.seq_rt, Out.seq_bk, Out.seq_ct, Out.seq_ex, Out.seq_bad, cond_true, cond_false, gam_gl, gam_ncls, gam_init, gam_kd, List.getElem?_cons_zero, List.getElem?_cons_succ, List.set_cons_zero, List.set_cons_succ, List.cons_append, List.nil_append, k2_ap, gBin_ap, gCmp_ap, gCmpT_ap, gNeg_ap, gCh3_ap, gCh2_ap, gCh_ap, gCh3T_ap, gCh2T_ap, gChT_ap, gAnd2_ap, gAnd_ap, gOr2_ap, gOr_ap, gNot2_ap, gNot_ap, gIte_ap, gIx_ap, gSl2_ap, gSl1_ap, gSl_ap, gRev_ap, gFld_ap, gMk2_ap, gMk_ap, gMt2_ap, gMt_ap, gBf_ap, gBm2_ap, gBm_ap, gIsi_ap, gLc_ap, gStr_ap, gKget_ap, gKin_ap, gCo2_ap, gCo_ap, gOs2_ap, gOs_ap, gRn1_ap, gRn3_ap, gRn2_ap, gRn_ap, gZp_ap, gAndT_ap, gOrT_ap, gNotT_ap, gJ_ap, sNx_ap, sSet_ap, sSetT_ap, sPar2_ap, sPar1_ap, sI3_ap, sI2_ap, sI1_ap, sF2_ap, sF1_ap, sN2_ap, sN1_ap, sA3_ap, sA2_ap, sA1_ap, sR_ap, sIff_ap, sFr_ap, e_var, e_cst, e_glob, e_bin, e_neg, e_cmp, e_chain, e_and, e_or, e_not, e_ite, e_ix, e_sl, e_rev, e_tup, e_lst, e_dnewK, e_dnewT, e_fld, e_call, e_make, e_meth, e_bf, e_bm, e_isi, e_lc, e_fst, e_fmt, e_kget, e_kin, gDk_ap, gDr_ap, gDv_ap, keyR_str, keyR_int, e_disp, d_nil, d_cons, d1_cons, e_nil, e_cons, j_nil, j_cons, o_none, o_some, c_none, c_some, i_seq, i_rng1, i_rng2, i_zp, i_enm, i_keys, t_cmp, t_chain, t_and, t_or, t_not, t_var, t_ix, t_call, t_meth, t_isi, t_kin, t_fld, t_bf, s_nil, s_cons, s_pass, s_doc, s_brk, s_cnt, s_retN, s_expr, s_asg, s_asgL, s_asgT, s_par, s_asgI, s_asgF, s_augN, s_augF, s_ret, s_iff, s_whl, s_for, s_tryN, strR_str, Option.getD_some, Option.getD_none, Option.isSome_some, Option.isSome_none, mVar, gJc_ap, opN, opB, and_self, true_and, and_true, if_true, if_false, Bool.true_or, Bool.not_true, Bool.not_false, eq_self, x0, x1, x2, hb, lt_int]
        by_cases c7 : n1 % 12 < 7
        · rw [decide_eq_true c7]
          simp only [fin_nx, fin_rt, fin_ex, ofO_some, ofO_none, asB_bl, asI_int, truR_bl, outS_some, outE_some, outO_some, R.bind_ok, R.bind_ex, R.bind_bad, R.to_ok, R.to_ex, R.to_bad, Out.seq_nx, Out.seq_rt, Out.seq_bk, Out.seq_ct, Out.seq_ex, Out.seq_bad, cond_true, cond_false, gam_gl, gam_ncls, gam_init, gam_kd, List.getElem?_cons_zero, List.getElem?_cons_succ, List.set_cons_zero, List.set_cons_succ, List.cons_append, List.nil_append, k2_ap, gBin_ap, gCmp_ap, gCmpT_ap, gNeg_ap, gCh3_ap, gCh2_ap, gCh_ap, gCh3T_ap, gCh2T_ap, gChT_ap, gAnd2_ap, gAnd_ap, gOr2_ap, gOr_ap, gNot2_ap, gNot_ap, gIte_ap, gIx_ap, gSl2_ap, gSl1_ap, gSl_ap, gRev_ap, gFld_ap, gMk2_ap, gMk_ap, gMt2_ap, gMt_ap, gBf_ap, gBm2_ap, gBm_ap, gIsi_ap, gLc_ap, gStr_ap, gKget_ap, gKin_ap, gCo2_ap, gCo_ap, gOs2_ap, gOs_ap, gRn1_ap, gRn3_ap, gRn2_ap, gRn_ap, gZp_ap, gAndT_ap, gOrT_ap, gNotT_ap, gJ_ap, sNx_ap, sSet_ap, sSetT_ap, sPar2_ap, sPar1_ap, sI3_ap, sI2_ap, sI1_ap, sF2_ap, sF1_ap, sN2_ap, sN1_ap, sA3_ap, sA2_ap, sA1_ap, sR_ap, sIff_ap, sFr_ap, e_var, e_cst, e_glob, e_bin, e_neg, e_cmp, e_chain, e_and, e_or, e_not, e_ite, e_ix, e_sl, e_rev, e_tup, e_lst, e_dnewK, e_dnewT, e_fld, e_call, e_make, e_meth, e_bf, e_bm, e_isi, e_lc, e_fst, e_fmt, e_kget, e_kin, gDk_ap, gDr_ap, gDv_ap, keyR_str, keyR_int, e_disp, d_nil, d_cons, d1_cons, e_nil, e_cons, j_nil, j_cons, o_none, o_some, c_none, c_some, i_seq, i_rng1, i_rng2, i_zp, i_enm, i_keys, t_cmp, t_chain, t_and, t_or, t_not, t_var, t_ix, t_call, t_meth, t_isi, t_kin, t_fld, t_bf, s_nil, s_cons, s_pass, s_doc, s_brk, s_cnt, s_retN, s_expr, s_asg, s_asgL, s_asgT, s_par, s_asgI, s_asgF, s_augN, s_augF, s_ret, s_iff, s_whl, s_for, s_tryN, strR_str, Option.getD_some, Option.getD_none, Option.isSome_some, Option.isSome_none, mVar, gJc_ap, opN, opB, and_self, true_and, and_true, if_true, if_false, Bool.true_or, Bool.not_true, Bool.not_false, eq_self, tup3]
          exact gl
        · rw [decide_eq_false c7]
          simp only [fin_nx, fin_rt, fin_ex, ofO_some, ofO_none, asB_bl, asI_int, truR_bl, outS_some, outE_some, outO_some, R.bind_ok, R.bind_ex, R.bind_bad, R.to_ok, R.to_ex, R.to_bad, Out.seq_nx, Out.seq_rt, Out.seq_bk, Out.seq_ct, Out.seq_ex, Out.seq_bad, cond_true, cond_false, gam_gl, gam_ncls, gam_init, gam_kd, List.getElem?_cons_zero, List.getElem?_cons_succ, List.set_cons_zero, List.set_cons_succ, List.cons_append, List.nil_append, k2_ap, gBin_ap, gCmp_ap, gCmpT_ap, gNeg_ap, gCh3_ap, gCh2_ap, gCh_ap, gCh3T_ap, gCh2T_ap, gChT_ap, gAnd2_ap, gAnd_ap, gOr2_ap, gOr_ap, gNot2_ap, gNot_ap, gIte_ap, gIx_ap, gSl2_ap, gSl1_ap, gSl_ap, gRev_ap, gFld_ap, gMk2_ap, gMk_ap, gMt2_ap, gMt_ap, gBf_ap, gBm2_ap, gBm_ap, gIsi_ap, gLc_ap, gStr_ap, gKget_ap, gKin_ap, gCo2_ap, gCo_ap, gOs2_ap, gOs_ap, gRn1_ap, gRn3_ap, gRn2_ap, gRn_ap, gZp_ap, gAndT_ap, gOrT_ap, gNotT_ap, gJ_ap, sNx_ap, sSet_ap, sSetT_ap, sPar2_ap, sPar1_ap, sI3_ap, sI2_ap, sI1_ap, sF2_ap, sF1_ap, sN2_ap, sN1_ap, sA3_ap, sA2_ap, sA1_ap, sR_ap, sIff_ap, sFr_ap, e_var, e_cst, e_glob, e_bin, e_neg, e_cmp, e_chain, e_and, e_or, e_not, e_ite, e_ix, e_sl, e_rev, e_tup, e_lst, e_dnewK, e_dnewT, e_fld, e_call, e_make, e_meth, e_bf, e_bm, e_isi, e_lc, e_fst, e_fmt, e_kget, e_kin, gDk_ap, gDr_ap, gDv_ap, keyR_str, keyR_int, e_disp, d_nil, d_cons, d1_cons, e_nil, e_cons, j_nil, j_cons, o_none, o_some, c_none, c_some, i_seq, i_rng1, i_rng2, i_zp, i_enm, i_keys, t_cmp, t_chain, t_and, t_or, t_not, t_var, t_ix, t_call, t_meth, t_isi, t_kin, t_fld, t_bf, s_nil, s_cons, s_pass, s_doc, s_brk, s_cnt, s_retN, s_expr, s_asg, s_asgL, s_asgT, s_par, s_asgI, s_asgF, s_augN, s_augF, s_ret, s_iff, s_whl, s_for, s_tryN, strR_str, Option.getD_some, Option.getD_none, Option.isSome_some, Option.isSome_none, mVar, gJc_ap, opN, opB, and_self, true_and, and_true, if_true, if_false, Bool.true_or, Bool.not_true, Bool.not_false, eq_self, lt_int]
          by_cases c6 : n1 % 12 < 6
          · exact absurd c6 (by omega)
          · rw [decide_eq_false c6]
            simp only [fin_nx, fin_rt, fin_ex, ofO_some, ofO_none, asB_bl, asI_int, truR_bl, outS_some, outE_some, outO_some, R.bind_ok, R.bind_ex, R.bind_bad, R.to_ok, R.to_ex, R.to_bad, Out.seq_nx, Out.seq_rt, Out.seq_bk, Out.seq_ct, Out.seq_ex, Out.seq_bad, cond_true, cond_false, gam_gl, gam_ncls, gam_init, gam_kd, List.getElem?_cons_zero, List.getElem?_cons_succ, List.set_cons_zero, List.set_cons_succ, List.cons_append, List.nil_append, k2_ap, gBin_ap, gCmp_ap, gCmpT_ap, gNeg_ap, gCh3_ap, gCh2_ap, gCh_ap, gCh3T_ap, gCh2T_ap, gChT_ap, gAnd2_ap, gAnd_ap, gOr2_ap, gOr_ap, gNot2_ap, gNot_ap, gIte_ap, gIx_ap, gSl2_ap, gSl1_ap, gSl_ap, gRev_ap, gFld_ap, gMk2_ap, gMk_ap, gMt2_ap, gMt_ap, gBf_ap, gBm2_ap, gBm_ap, gIsi_ap, gLc_ap, gStr_ap, gKget_ap, gKin_ap, gCo2_ap, gCo_ap, gOs2_ap, gOs_ap, gRn1_ap, gRn3_ap, gRn2_ap, gRn_ap, gZp_ap, gAndT_ap, gOrT_ap, gNotT_ap, gJ_ap, sNx_ap, sSet_ap, sSetT_ap, sPar2_ap, sPar1_ap, sI3_ap, sI2_ap, sI1_ap, sF2_ap, sF1_ap, sN2_ap, sN1_ap, sA3_ap, sA2_ap, sA1_ap, sR_ap, sIff_ap, sFr_ap, e_var, e_cst, e_glob, e_bin, e_neg, e_cmp, e_chain, e_and, e_or, e_not, e_ite, e_ix, e_sl, e_rev, e_tup, e_lst, e_dnewK, e_dnewT, e_fld, e_call, e_make, e_meth, e_bf, e_bm, e_isi, e_lc, e_fst, e_fmt, e_kget, e_kin, gDk_ap, gDr_ap, gDv_ap, keyR_str, keyR_int, e_disp, d_nil, d_cons, d1_cons, e_nil, e_cons, j_nil, j_cons, o_none, o_some, c_none, c_some, i_seq, i_rng1, i_rng2, i_zp, i_enm, i_keys, t_cmp, t_chain, t_and, t_or, t_not, t_var, t_ix, t_call, t_meth, t_isi, t_kin, t_fld, t_bf, s_nil, s_cons, s_pass, s_doc, s_brk, s_cnt, s_retN, s_expr, s_asg, s_asgL, s_asgT, s_par, s_asgI, s_asgF, s_augN, s_augF, s_ret, s_iff, s_whl, s_for, s_tryN, strR_str, Option.getD_some, Option.getD_none, Option.isSome_some, Option.isSome_none, mVar, gJc_ap, opN, opB, and_self, true_and, and_true, if_true, if_false, Bool.true_or, Bool.not_true, Bool.not_false, eq_self, x0, x1, x2, hb, tup3]
            exact gs
      | false =>
        simp only [fin_nx, fin_rt, fin_ex, ofO_some, ofO_none, asB_bl, asI_int, truR_bl, outS_some, outE_some, outO_some, R.bind_ok, R.bind_ex, R.bind_bad, R.to_ok, R.to_ex, R.to_bad, Out.seq_nx, Out.seq_rt, Out.seq_bk, Out.seq_ct, Out.seq_ex, Out.seq_bad, cond_true, cond_false, gam_gl, gam_ncls, gam_init, gam_kd, List.getElem?_cons_zero, List.getElem?_cons_succ, List.set_cons_zero, List.set_cons_succ, List.cons_append, List.nil_append, k2_ap, gBin_ap, gCmp_ap, gCmpT_ap, gNeg_ap, gCh3_ap, gCh2_ap, gCh_ap, gCh3T_ap, gCh2T_ap, gChT_ap, gAnd2_ap, gAnd_ap, gOr2_ap, gOr_ap, gNot2_ap, gNot_ap, gIte_ap, gIx_ap, gSl2_ap, gSl1_ap, gSl_ap, gRev_ap, gFld_ap, gMk2_ap, gMk_ap, gMt2_ap, gMt_ap, gBf_ap, gBm2_ap, gBm_ap, gIsi_ap, gLc_ap, gStr_ap, gKget_ap, gKin_ap, gCo2_ap, gCo_ap, gOs2_ap, gOs_ap, gRn1_ap, gRn3_ap, gRn2_ap, gRn_ap, gZp_ap, gAndT_ap, gOrT_ap, gNotT_ap, gJ_ap, sNx_ap, sSet_ap, sSetT_ap, sPar2_ap, sPar1_ap, sI3_ap, sI2_ap, sI1_ap, sF2_ap, sF1_ap, sN2_ap, sN1_ap, sA3_ap, sA2_ap, sA1_ap, sR_ap, sIff_ap, sFr_ap, e_var, e_cst, e_glob, e_bin, e_neg, e_cmp, e_chain, e_and, e_or, e_not, e_ite, e_ix, e_sl, e_rev, e_tup, e_lst, e_dnewK, e_dnewT, e_fld, e_call, e_make, e_meth, e_bf, e_bm, e_isi, e_lc, e_fst, e_fmt, e_kget, e_kin, gDk_ap, gDr_ap, gDv_ap, keyR_str, keyR_int, e_disp, d_nil, d_cons, d1_cons, e_nil, e_cons, j_nil, j_cons, o_none, o_some, c_none, c_some, i_seq, i_rng1, i_rng2, i_zp, i_enm, i_keys, t_cmp, t_chain, t_and, t_or, t_not, t_var, t_ix, t_call, t_meth, t_isi, t_kin, t_fld, t_bf, s_nil, s_cons, s_pass, s_doc, s_brk, s_cnt, s_retN, s_expr, s_asg, s_asgL, s_asgT, s_par, s_asgI, s_asgF, s_augN, s_augF, s_ret, s_iff, s_whl, s_for, s_tryN, strR_str, Option.getD_some, Option.getD_none, Option.isSome_some, Option.isSome_none, mVar, gJc_ap, opN, opB, and_self, true_and, and_true, if_true, if_false, Bool.true_or, Bool.not_true, Bool.not_false, eq_self, x0, x1, x2, hb, lt_int]
        by_cases c6 : n1 % 12 < 6
        · rw [decide_eq_true c6]
          simp only [fin_nx, fin_rt, fin_ex, ofO_some, ofO_none, asB_bl, asI_int, truR_bl, outS_some, outE_some, outO_some, R.bind_ok, R.bind_ex, R.bind_bad, R.to_ok, R.to_ex, R.to_bad, Out.seq_nx, Out.seq_rt, Out.seq_bk, Out.seq_ct, Out.seq_ex, Out.seq_bad, cond_true, cond_false, gam_gl, gam_ncls, gam_init, gam_kd, List.getElem?_cons_zero, List.getElem?_cons_succ, List.set_cons_zero, List.set_cons_succ, List.cons_append, List.nil_append, k2_ap, gBin_ap, gCmp_ap, gCmpT_ap, gNeg_ap, gCh3_ap, gCh2_ap, gCh_ap, gCh3T_ap, gCh2T_ap, gChT_ap, gAnd2_ap, gAnd_ap, gOr2_ap, gOr_ap, gNot2_ap, gNot_ap, gIte_ap, gIx_ap, gSl2_ap, gSl1_ap, gSl_ap, gRev_ap, gFld_ap, gMk2_ap, gMk_ap, gMt2_ap, gMt_ap, gBf_ap, gBm2_ap, gBm_ap, gIsi_ap, gLc_ap, gStr_ap, gKget_ap, gKin_ap, gCo2_ap, gCo_ap, gOs2_ap, gOs_ap, gRn1_ap, gRn3_ap, gRn2_ap, gRn_ap, gZp_ap, gAndT_ap, gOrT_ap, gNotT_ap, gJ_ap, sNx_ap, sSet_ap, sSetT_ap, sPar2_ap, sPar1_ap, sI3_ap, sI2_ap, sI1_ap, sF2_ap, sF1_ap, sN2_ap, sN1_ap, sA3_ap, sA2_ap, sA1_ap, sR_ap, sIff_ap, sFr_ap, e_var, e_cst, e_glob, e_bin, e_neg, e_cmp, e_chain, e_and, e_or, e_not, e_ite, e_ix, e_sl, e_rev, e_tup, e_lst, e_dnewK, e_dnewT, e_fld, e_call, e_make, e_meth, e_bf, e_bm, e_isi, e_lc, e_fst, e_fmt, e_kget, e_kin, gDk_ap, gDr_ap, gDv_ap, keyR_str, keyR_int, e_disp, d_nil, d_cons, d1_cons, e_nil, e_cons, j_nil, j_cons, o_none, o_some, c_none, c_some, i_seq, i_rng1, i_rng2, i_zp, i_enm, i_keys, t_cmp, t_chain, t_and, t_or, t_not, t_var, t_ix, t_call, t_meth, t_isi, t_kin, t_fld, t_bf, s_nil, s_cons, s_pass, s_doc, s_brk, s_cnt, s_retN, s_expr, s_asg, s_asgL, s_asgT, s_par, s_asgI, s_asgF, s_augN, s_augF, s_ret, s_iff, s_whl, s_for, s_tryN, strR_str, Option.getD_some, Option.getD_none, Option.isSome_some, Option.isSome_none, mVar, gJc_ap, opN, opB, and_self, true_and, and_true, if_true, if_false, Bool.true_or, Bool.not_true, Bool.not_false, eq_self, tup3]
          exact gs
        rw [decide_eq_false c6]
        simp only [fin_nx, fin_rt, fin_ex, ofO_some, ofO_none, asB_bl, asI_int, truR_bl, outS_some, outE_some, outO_some, R.bind_ok, R.bind_ex, R.bind_bad, R.to_ok, R.to_ex, R.to_bad, Out.seq_nx, Out.seq_rt, Out.seq_bk, Out.seq_ct, Out.seq_ex, Out.seq_bad, cond_true, cond_false, gam_gl, gam_ncls, gam_init, gam_kd, List.getElem?_cons_zero, List.getElem?_cons_succ, List.set_cons_zero, List.set_cons_succ, List.cons_append, List.nil_append, k2_ap, gBin_ap, gCmp_ap, gCmpT_ap, gNeg_ap, gCh3_ap, gCh2_ap, gCh_ap, gCh3T_ap, gCh2T_ap, gChT_ap, gAnd2_ap, gAnd_ap, gOr2_ap, gOr_ap, gNot2_ap, gNot_ap, gIte_ap, gIx_ap, gSl2_ap, gSl1_ap, gSl_ap, gRev_ap, gFld_ap, gMk2_ap, gMk_ap, gMt2_ap, gMt_ap, gBf_ap, gBm2_ap, gBm_ap, gIsi_ap, gLc_ap, gStr_ap, gKget_ap, gKin_ap, gCo2_ap, gCo_ap, gOs2_ap, gOs_ap, gRn1_ap, gRn3_ap, gRn2_ap, gRn_ap, gZp_ap, gAndT_ap, gOrT_ap, gNotT_ap, gJ_ap, sNx_ap, sSet_ap, sSetT_ap, sPar2_ap, sPar1_ap, sI3_ap, sI2_ap, sI1_ap, sF2_ap, sF1_ap, sN2_ap, sN1_ap, sA3_ap, sA2_ap, sA1_ap, sR_ap, sIff_ap, sFr_ap, e_var, e_cst, e_glob, e_bin, e_neg, e_cmp, e_chain, e_and, e_or, e_not, e_ite, e_ix, e_sl, e_rev, e_tup, e_lst, e_dnewK, e_dnewT, e_fld, e_call, e_make, e_meth, e_bf, e_bm, e_isi, e_lc, e_fst, e_fmt, e_kget, e_kin, gDk_ap, gDr_ap, gDv_ap, keyR_str, keyR_int, e_disp, d_nil, d_cons, d1_cons, e_nil, e_cons, j_nil, j_cons, o_none, o_some, c_none, c_some, i_seq, i_rng1, i_rng2, i_zp, i_enm, i_keys, t_cmp, t_chain, t_and, t_or, t_not, t_var, t_ix, t_call, t_meth, t_isi, t_kin, t_fld, t_bf, s_nil, s_cons, s_pass, s_doc, s_brk, s_cnt, s_retN, s_expr, s_asg, s_asgL, s_asgT, s_par, s_asgI, s_asgF, s_augN, s_augF, s_ret, s_iff, s_whl, s_for, s_tryN, strR_str, Option.getD_some, Option.getD_none, Option.isSome_some, Option.isSome_none, mVar, gJc_ap, opN, opB, and_self, true_and, and_true, if_true, if_false, Bool.true_or, Bool.not_true, Bool.not_false, eq_self, x0, x1, x2, hb, int_eq]
        cases c_6 : (n1 % 12 == 6) with
        | true =>
          simp only [fin_nx, fin_rt, fin_ex, ofO_some, ofO_none, asB_bl, asI_int, truR_bl, outS_some, outE_some, outO_some, R.bind_ok, R.bind_ex, R.bind_bad, R.to_ok, R.to_ex, R.to_bad, Out.seq_nx, Out.seq_rt, Out.seq_bk, Out.seq_ct, Out.seq_ex, Out.seq_bad, cond_true, cond_false, gam_gl, gam_ncls, gam_init, gam_kd, List.getElem?_cons_zero, List.getElem?_cons_succ, List.set_cons_zero, List.set_cons_succ, List.cons_append, List.nil_append, k2_ap, gBin_ap, gCmp_ap, gCmpT_ap, gNeg_ap, gCh3_ap, gCh2_ap, gCh_ap, gCh3T_ap, gCh2T_ap, gChT_ap, gAnd2_ap, gAnd_ap, gOr2_ap, gOr_ap, gNot2_ap, gNot_ap, gIte_ap, gIx_ap, gSl2_ap, gSl1_ap, gSl_ap, gRev_ap, gFld_ap, gMk2_ap, gMk_ap, gMt2_ap, gMt_ap, gBf_ap, gBm2_ap, gBm_ap, gIsi_ap, gLc_ap, gStr_ap, gKget_ap, gKin_ap, gCo2_ap, gCo_ap, gOs2_ap, gOs_ap, gRn1_ap, gRn3_ap, gRn2_ap, gRn_ap, gZp_ap, gAndT_ap, gOrT_ap, gNotT_ap, gJ_ap, sNx_ap, sSet_ap, sSetT_ap, sPar2_ap, sPar1_ap, sI3_ap, sI2_ap, sI1_ap, sF2_ap, sF1_ap, sN2_ap, sN1_ap, sA3_ap, sA2_ap, sA1_ap, sR_ap, sIff_ap, sFr_ap, e_var, e_cst, e_glob, e_bin, e_neg, e_cmp, e_chain, e_and, e_or, e_not, e_ite, e_ix, e_sl, e_rev, e_tup, e_lst, e_dnewK, e_dnewT, e_fld, e_call, e_make, e_meth, e_bf, e_bm, e_isi, e_lc, e_fst, e_fmt, e_kget, e_kin, gDk_ap, gDr_ap, gDv_ap, keyR_str, keyR_int, e_disp, d_nil, d_cons, d1_cons, e_nil, e_cons, j_nil, j_cons, o_none, o_some, c_none, c_some, i_seq, i_rng1, i_rng2, i_zp, i_enm, i_keys, t_cmp, t_chain, t_and, t_or, t_not, t_var, t_ix, t_call, t_meth, t_isi, t_kin, t_fld, t_bf, s_nil, s_cons, s_pass, s_doc, s_brk, s_cnt, s_retN, s_expr, s_asg, s_asgL, s_asgT, s_par, s_asgI, s_asgF, s_augN, s_augF, s_ret, s_iff, s_whl, s_for, s_tryN, strR_str, Option.getD_some, Option.getD_none, Option.isSome_some, Option.isSome_none, mVar, gJc_ap, opN, opB, and_self, true_and, and_true, if_true, if_false, Bool.true_or, Bool.not_true, Bool.not_false, eq_self, tup4]
          exact ⟨"swap", [n3 % 4, j, n4 % 4], s4, rfl, fun pl => OkL.ok (fs := ["register", "variable", "register"]) ⟨q3, qf hb, q4, trivial⟩ rfl (by decide), d4, F4⟩
        | false =>
          simp only [fin_nx, fin_rt, fin_ex, ofO_some, ofO_none, asB_bl, asI_int, truR_bl, outS_some, outE_some, outO_some, R.bind_ok, R.bind_ex, R.bind_bad, R.to_ok, R.to_ex, R.to_bad, Out.seq_nx, Out.seq_rt, Out.seq_bk, Out.seq_ct, Out.seq_ex, Out.seq_bad, cond_true, cond_false, gam_gl, gam_ncls, gam_init, gam_kd, List.getElem?_cons_zero, List.getElem?_cons_succ, List.set_cons_zero, List.set_cons_succ, List.cons_append, List.nil_append, k2_ap, gBin_ap, gCmp_ap, gCmpT_ap, gNeg_ap, gCh3_ap, gCh2_ap, gCh_ap, gCh3T_ap, gCh2T_ap, gChT_ap, gAnd2_ap, gAnd_ap, gOr2_ap, gOr_ap, gNot2_ap, gNot_ap, gIte_ap, gIx_ap, gSl2_ap, gSl1_ap, gSl_ap, gRev_ap, gFld_ap, gMk2_ap, gMk_ap, gMt2_ap, gMt_ap, gBf_ap, gBm2_ap, gBm_ap, gIsi_ap, gLc_ap, gStr_ap, gKget_ap, gKin_ap, gCo2_ap, gCo_ap, gOs2_ap, gOs_ap, gRn1_ap, gRn3_ap, gRn2_ap, gRn_ap, gZp_ap, gAndT_ap, gOrT_ap, gNotT_ap, gJ_ap, sNx_ap, sSet_ap, sSetT_ap, sPar2_ap, sPar1_ap, sI3_ap, sI2_ap, sI1_ap, sF2_ap, sF1_ap, sN2_ap, sN1_ap, sA3_ap, sA2_ap, sA1_ap, sR_ap, sIff_ap, sFr_ap, e_var, e_cst, e_glob, e_bin, e_neg, e_cmp, e_chain, e_and, e_or, e_not, e_ite, e_ix, e_sl, e_rev, e_tup, e_lst, e_dnewK, e_dnewT, e_fld, e_call, e_make, e_meth, e_bf, e_bm, e_isi, e_lc, e_fst, e_fmt, e_kget, e_kin, gDk_ap, gDr_ap, gDv_ap, keyR_str, keyR_int, e_disp, d_nil, d_cons, d1_cons, e_nil, e_cons, j_nil, j_cons, o_none, o_some, c_none, c_some, i_seq, i_rng1, i_rng2, i_zp, i_enm, i_keys, t_cmp, t_chain, t_and, t_or, t_not, t_var, t_ix, t_call, t_meth, t_isi, t_kin, t_fld, t_bf, s_nil, s_cons, s_pass, s_doc, s_brk, s_cnt, s_retN, s_expr, s_asg, s_asgL, s_asgT, s_par, s_asgI, s_asgF, s_augN, s_augF, s_ret, s_iff, s_whl, s_for, s_tryN, strR_str, Option.getD_some, Option.getD_none, Option.isSome_some, Option.isSome_none, mVar, gJc_ap, opN, opB, and_self, true_and, and_true, if_true, if_false, Bool.true_or, Bool.not_true, Bool.not_false, eq_self, int_eq]
          cases c_7 : (n1 % 12 == 7) with
          | true =>
            simp only [fin_nx, fin_rt, fin_ex, ofO_some, ofO_none, asB_bl, asI_int, truR_bl, outS_some, outE_some, outO_some, R.bind_ok, R.bind_ex, R.bind_bad, R.to_ok, R.to_ex, R.to_bad, Out.seq_nx, Out.seq_rt, Out.seq_bk, Out.seq_ct, Out.seq_ex, Out.seq_bad, cond_true, cond_false, gam_gl, gam_ncls, gam_init, gam_kd, List.getElem?_cons_zero, List.getElem?_cons_succ, List.set_cons_zero, List.set_cons_succ, List.cons_append, List.nil_append, k2_ap, gBin_ap, gCmp_ap, gCmpT_ap, gNeg_ap, gCh3_ap, gCh2_ap, gCh_ap, gCh3T_ap, gCh2T_ap, gChT_ap, gAnd2_ap, gAnd_ap, gOr2_ap, gOr_ap, gNot2_ap, gNot_ap, gIte_ap, gIx_ap, gSl2_ap, gSl1_ap, gSl_ap, gRev_ap, gFld_ap, gMk2_ap, gMk_ap, gMt2_ap, gMt_ap, gBf_ap, gBm2_ap, gBm_ap, gIsi_ap, gLc_ap, gStr_ap, gKget_ap, gKin_ap, gCo2_ap, gCo_ap, gOs2_ap, gOs_ap, gRn1_ap, gRn3_ap, gRn2_ap, gRn_ap, gZp_ap, gAndT_ap, gOrT_ap, gNotT_ap, gJ_ap, sNx_ap, sSet_ap, sSetT_ap, sPar2_ap, sPar1_ap, sI3_ap, sI2_ap, sI1_ap, sF2_ap, sF1_ap, sN2_ap, sN1_ap, sA3_ap, sA2_ap, sA1_ap, sR_ap, sIff_ap, sFr_ap, e_var, e_cst, e_glob, e_bin, e_neg, e_cmp, e_chain, e_and, e_or, e_not, e_ite, e_ix, e_sl, e_rev, e_tup, e_lst, e_dnewK, e_dnewT, e_fld, e_call, e_make, e_meth, e_bf, e_bm, e_isi, e_lc, e_fst, e_fmt, e_kget, e_kin, gDk_ap, gDr_ap, gDv_ap, keyR_str, keyR_int, e_disp, d_nil, d_cons, d1_cons, e_nil, e_cons, j_nil, j_cons, o_none, o_some, c_none, c_some, i_seq, i_rng1, i_rng2, i_zp, i_enm, i_keys, t_cmp, t_chain, t_and, t_or, t_not, t_var, t_ix, t_call, t_meth, t_isi, t_kin, t_fld, t_bf, s_nil, s_cons, s_pass, s_doc, s_brk, s_cnt, s_retN, s_expr, s_asg, s_asgL, s_asgT, s_par, s_asgI, s_asgF, s_augN, s_augF, s_ret, s_iff, s_whl, s_for, s_tryN, strR_str, Option.getD_some, Option.getD_none, Option.isSome_some, Option.isSome_none, mVar, gJc_ap, opN, opB, and_self, true_and, and_true, if_true, if_false, Bool.true_or, Bool.not_true, Bool.not_false, eq_self, tup4]
            exact ⟨"fetch", [n3 % 4, j, n4 % 4], s4, rfl, fun pl => OkL.ok (fs := ["register", "variable", "register"]) ⟨q3, qf hb, q4, trivial⟩ rfl (by decide), d4, F4⟩
          | false =>
            simp only [fin_nx, fin_rt, fin_ex, ofO_some, ofO_none, asB_bl, asI_int, truR_bl, outS_some, outE_some, outO_some, R.bind_ok, R.bind_ex, R.bind_bad, R.to_ok, R.to_ex, R.to_bad, Out.seq_nx, Out.seq_rt, Out.seq_bk, Out.seq_ct, Out.seq_ex, Out.seq_bad, cond_true, cond_false, gam_gl, gam_ncls, gam_init, gam_kd, List.getElem?_cons_zero, List.getElem?_cons_succ, List.set_cons_zero, List.set_cons_succ, List.cons_append, List.nil_append, k2_ap, gBin_ap, gCmp_ap, gCmpT_ap, gNeg_ap, gCh3_ap, gCh2_ap, gCh_ap, gCh3T_ap, gCh2T_ap, gChT_ap, gAnd2_ap, gAnd_ap, gOr2_ap, gOr_ap, gNot2_ap, gNot_ap, gIte_ap, gIx_ap, gSl2_ap, gSl1_ap, gSl_ap, gRev_ap, gFld_ap, gMk2_ap, gMk_ap, gMt2_ap, gMt_ap, gBf_ap, gBm2_ap, gBm_ap, gIsi_ap, gLc_ap, gStr_ap, gKget_ap, gKin_ap, gCo2_ap, gCo_ap, gOs2_ap, gOs_ap, gRn1_ap, gRn3_ap, gRn2_ap, gRn_ap, gZp_ap, gAndT_ap, gOrT_ap, gNotT_ap, gJ_ap, sNx_ap, sSet_ap, sSetT_ap, sPar2_ap, sPar1_ap, sI3_ap, sI2_ap, sI1_ap, sF2_ap, sF1_ap, sN2_ap, sN1_ap, sA3_ap, sA2_ap, sA1_ap, sR_ap, sIff_ap, sFr_ap, e_var, e_cst, e_glob, e_bin, e_neg, e_cmp, e_chain, e_and, e_or, e_not, e_ite, e_ix, e_sl, e_rev, e_tup, e_lst, e_dnewK, e_dnewT, e_fld, e_call, e_make, e_meth, e_bf, e_bm, e_isi, e_lc, e_fst, e_fmt, e_kget, e_kin, gDk_ap, gDr_ap, gDv_ap, keyR_str, keyR_int, e_disp, d_nil, d_cons, d1_cons, e_nil, e_cons, j_nil, j_cons, o_none, o_some, c_none, c_some, i_seq, i_rng1, i_rng2, i_zp, i_enm, i_keys, t_cmp, t_chain, t_and, t_or, t_not, t_var, t_ix, t_call, t_meth, t_isi, t_kin, t_fld, t_bf, s_nil, s_cons, s_pass, s_doc, s_brk, s_cnt, s_retN, s_expr, s_asg, s_asgL, s_asgT, s_par, s_asgI, s_asgF, s_augN, s_augF, s_ret, s_iff, s_whl, s_for, s_tryN, strR_str, Option.getD_some, Option.getD_none, Option.isSome_some, Option.isSome_none, mVar, gJc_ap, opN, opB, and_self, true_and, and_true, if_true, if_false, Bool.true_or, Bool.not_true, Bool.not_false, eq_self, int_eq]
            cases c_8 : (n1 % 12 == 8) with
            | true =>
              obtain ⟨n5, s5, e5, d5, f5⟩ := draw (k := k + 1) (fuel := fuel) d4
              simp only [fin_nx, fin_rt, fin_ex, ofO_some, ofO_none, asB_bl, asI_int, truR_bl, outS_some, outE_some, outO_some, R.bind_ok, R.bind_ex, R.bind_bad, R.to_ok, R.to_ex, R.to_bad, Out.seq_nx, Out.seq_rt, Out.seq_bk, Out.seq_ct, Out.seq_ex, Out.seq_bad, cond_true, cond_false, gam_gl, gam_ncls, gam_init, gam_kd, List.getElem?_cons_zero, List.getElem?_cons_succ, List.set_cons_zero, List.set_cons_succ, List.cons_append, List.nil_append, k2_ap, gBin_ap, gCmp_ap, gCmpT_ap, gNeg_ap, gCh3_ap, gCh2_ap, gCh_ap, gCh3T_ap, gCh2T_ap, gChT_ap, gAnd2_ap, gAnd_ap, gOr2_ap, gOr_ap, gNot2_ap, gNot_ap, gIte_ap, gIx_ap, gSl2_ap, gSl1_ap, gSl_ap, gRev_ap, gFld_ap, gMk2_ap, gMk_ap, gMt2_ap, gMt_ap, gBf_ap, gBm2_ap, gBm_ap, gIsi_ap, gLc_ap, gStr_ap, gKget_ap, gKin_ap, gCo2_ap, gCo_ap, gOs2_ap, gOs_ap, gRn1_ap, gRn3_ap, gRn2_ap, gRn_ap, gZp_ap, gAndT_ap, gOrT_ap, gNotT_ap, gJ_ap, sNx_ap, sSet_ap, sSetT_ap, sPar2_ap, sPar1_ap, sI3_ap, sI2_ap, sI1_ap, sF2_ap, sF1_ap, sN2_ap, sN1_ap, sA3_ap, sA2_ap, sA1_ap, sR_ap, sIff_ap, sFr_ap, e_var, e_cst, e_glob, e_bin, e_neg, e_cmp, e_chain, e_and, e_or, e_not, e_ite, e_ix, e_sl, e_rev, e_tup, e_lst, e_dnewK, e_dnewT, e_fld, e_call, e_make, e_meth, e_bf, e_bm, e_isi, e_lc, e_fst, e_fmt, e_kget, e_kin, gDk_ap, gDr_ap, gDv_ap, keyR_str, keyR_int, e_disp, d_nil, d_cons, d1_cons, e_nil, e_cons, j_nil, j_cons, o_none, o_some, c_none, c_some, i_seq, i_rng1, i_rng2, i_zp, i_enm, i_keys, t_cmp, t_chain, t_and, t_or, t_not, t_var, t_ix, t_call, t_meth, t_isi, t_kin, t_fld, t_bf, s_nil, s_cons, s_pass, s_doc, s_brk, s_cnt, s_retN, s_expr, s_asg, s_asgL, s_asgT, s_par, s_asgI, s_asgF, s_augN, s_augF, s_ret, s_iff, s_whl, s_for, s_tryN, strR_str, Option.getD_some, Option.getD_none, Option.isSome_some, Option.isSome_none, mVar, gJc_ap, opN, opB, and_self, true_and, and_true, if_true, if_false, Bool.true_or, Bool.not_true, Bool.not_false, eq_self, e5, p4, tup5]
              exact ⟨"cas", [n3 % 4, j, n4 % 4, n5 % 4], s5, rfl, fun pl => OkL.ok (fs := ["register", "variable", "register", "register"]) ⟨q3, qf hb, q4, p_reg (mod_nn n5 p4) (mod_lt n5 p4), trivial⟩ rfl (by decide), d5, F4.trans f5⟩
            | false =>
              simp only [fin_nx, fin_rt, fin_ex, ofO_some, ofO_none, asB_bl, asI_int, truR_bl, outS_some, outE_some, outO_some, R.bind_ok, R.bind_ex, R.bind_bad, R.to_ok, R.to_ex, R.to_bad, Out.seq_nx, Out.seq_rt, Out.seq_bk, Out.seq_ct, Out.seq_ex, Out.seq_bad, cond_true, cond_false, gam_gl, gam_ncls, gam_init, gam_kd, List.getElem?_cons_zero, List.getElem?_cons_succ, List.set_cons_zero, List.set_cons_succ, List.cons_append, List.nil_append, k2_ap, gBin_ap, gCmp_ap, gCmpT_ap, gNeg_ap, gCh3_ap, gCh2_ap, gCh_ap, gCh3T_ap, gCh2T_ap, gChT_ap, gAnd2_ap, gAnd_ap, gOr2_ap, gOr_ap, gNot2_ap, gNot_ap, gIte_ap, gIx_ap, gSl2_ap, gSl1_ap, gSl_ap, gRev_ap, gFld_ap, gMk2_ap, gMk_ap, gMt2_ap, gMt_ap, gBf_ap, gBm2_ap, gBm_ap, gIsi_ap, gLc_ap, gStr_ap, gKget_ap, gKin_ap, gCo2_ap, gCo_ap, gOs2_ap, gOs_ap, gRn1_ap, gRn3_ap, gRn2_ap, gRn_ap, gZp_ap, gAndT_ap, gOrT_ap, gNotT_ap, gJ_ap, sNx_ap, sSet_ap, sSetT_ap, sPar2_ap, sPar1_ap, sI3_ap, sI2_ap, sI1_ap, sF2_ap, sF1_ap, sN2_ap, sN1_ap, sA3_ap, sA2_ap, sA1_ap, sR_ap, sIff_ap, sFr_ap, e_var, e_cst, e_glob, e_bin, e_neg, e_cmp, e_chain, e_and, e_or, e_not, e_ite, e_ix, e_sl, e_rev, e_tup, e_lst, e_dnewK, e_dnewT, e_fld, e_call, e_make, e_meth, e_bf, e_bm, e_isi, e_lc, e_fst, e_fmt, e_kget, e_kin, gDk_ap, gDr_ap, gDv_ap, keyR_str, keyR_int, e_disp, d_nil, d_cons, d1_cons, e_nil, e_cons, j_nil, j_cons, o_none, o_some, c_none, c_some, i_seq, i_rng1, i_rng2, i_zp, i_enm, i_keys, t_cmp, t_chain, t_and, t_or, t_not, t_var, t_ix, t_call, t_meth, t_isi, t_kin, t_fld, t_bf, s_nil, s_cons, s_pass, s_doc, s_brk, s_cnt, s_retN, s_expr, s_asg, s_asgL, s_asgT, s_par, s_asgI, s_asgF, s_augN, s_augF, s_ret, s_iff, s_whl, s_for, s_tryN, strR_str, Option.getD_some, Option.getD_none, Option.isSome_some, Option.isSome_none, mVar, gJc_ap, opN, opB, and_self, true_and, and_true, if_true, if_false, Bool.true_or, Bool.not_true, Bool.not_false, eq_self, tup4]
              exact ⟨"await", [n3 % 4, j, n4 % 4], s4, rfl, fun pl => OkL.ok (fs := ["register", "variable", "register"]) ⟨q3, qf hb, q4, trivial⟩ rfl (by decide), d4, F4⟩
theorem i23 : Is T 23 2 1 b23 := ⟨d23, rfl, rfl, rfl, rfl⟩
theorem local_ {k fuel : Nat} {s : Sto} {r l lk nc : Nat} {vars : List (Int × Bool)} (d : Dr s r l) : Gives vars lk nc r l s ((T.gam fuel (k + 3)).fn 23 [.ref r] s) := by
  rw [i23.call rfl]
  show Gives vars lk nc r l s (svs _ _ b23 [some (.ref r), none] s).fin
  have p6 : (0 : Int) < 6 := by decide
  have y := lst_n (xs := [.tup [.str "const", .int 3, .int 1], .tup [.str "const", .int 2, .int 2], .tup [.str "const", .int 1, .int 12], .tup [.str "add", .int 1, .int 0, .int 3], .tup [.str "eq", .int 2, .int 1, .int 0], .tup [.str "mul", .int 3, .int 0, .int 0]]) s (by show 6 ≤ 100; decide)
  have g1 : (s.new (.lst [.tup [.str "const", .int 3, .int 1], .tup [.str "const", .int 2, .int 2], .tup [.str "const", .int 1, .int 12], .tup [.str "add", .int 1, .int 0, .int 3], .tup [.str "eq", .int 2, .int 1, .int 0], .tup [.str "mul", .int 3, .int 0, .int 0]])).g s.n = .lst [.tup [.str "const", .int 3, .int 1], .tup [.str "const", .int 2, .int 2], .tup [.str "const", .int 1, .int 12], .tup [.str "add", .int 1, .int 0, .int 3], .tup [.str "eq", .int 2, .int 1, .int 0], .tup [.str "mul", .int 3, .int 0, .int 0]] := new_g
  have d0 := d.keep (Fr.new (X := fun _ => False) (o := .lst [.tup [.str "const", .int 3, .int 1], .tup [.str "const", .int 2, .int 2], .tup [.str "const", .int 1, .int 12], .tup [.str "add", .int 1, .int 0, .int 3], .tup [.str "eq", .int 2, .int 1, .int 0], .tup [.str "mul", .int 3, .int 0, .int 0]])) id id
  obtain ⟨n1, s1, e1, d1, f1⟩ := draw (k := k) (fuel := fuel) d0
  have g2 := (f1.eq s.n (Nat.lt_succ_self _) (Nat.ne_of_gt d.hr)).trans g1
  have F : Fr (· = r) s s1 := Fr.new.trans f1
  unfold b23
  simp only [fin_nx, fin_rt, fin_ex, ofO_some, ofO_none, asB_bl, asI_int, truR_bl, outS_some, outE_some, outO_some, R.bind_ok, R.bind_ex, R.bind_bad, R.to_ok, R.to_ex, R.to_bad, Out.seq_nx, Out.seq_rt, Out.seq_bk, Out.seq_ct, Out.seq_ex, Out.seq_bad, cond_true, cond_false, gam_gl, gam_ncls, gam_init, gam_kd, List.getElem?_cons_zero, List.getElem?_cons_succ, List.set_cons_zero, List.set_cons_succ, List.cons_append, List.nil_append, k2_ap, gBin_ap, gCmp_ap, gCmpT_ap, gNeg_ap, gCh3_ap, gCh2_ap, gCh_ap, gCh3T_ap, gCh2T_ap, gChT_ap, gAnd2_ap, gAnd_ap, gOr2_ap, gOr_ap, gNot2_ap, gNot_ap, gIte_ap, gIx_ap, gSl2_ap, gSl1_ap, gSl_ap, gRev_ap, gFld_ap, gMk2_ap, gMk_ap, gMt2_ap, gMt_ap, gBf_ap, gBm2_ap, gBm_ap, gIsi_ap, gLc_ap, gStr_ap, gKget_ap, gKin_ap, gCo2_ap, gCo_ap, gOs2_ap, gOs_ap, gRn1_ap, gRn3_ap, gRn2_ap, gRn_ap, gZp_ap, gAndT_ap, gOrT_ap, gNotT_ap, gJ_ap, sNx_ap, sSet_ap, sSetT_ap, sPar2_ap, sPar1_ap, sI3_ap, sI2_ap, sI1_ap, sF2_ap, sF1_ap, sN2_ap, sN1_ap, sA3_ap, sA2_ap, sA1_ap, sR_ap, sIff_ap, sFr_ap, e_var, e_cst, e_glob, e_bin, e_neg, e_cmp, e_chain, e_and, e_or, e_not, e_ite, e_ix, e_sl, e_rev, e_tup, e_lst, e_dnewK, e_dnewT, e_fld, e_call, e_make, e_meth, e_bf, e_bm, e_isi, e_lc, e_fst, e_fmt, e_kget, e_kin, gDk_ap, gDr_ap, gDv_ap, keyR_str, keyR_int, e_disp, d_nil, d_cons, d1_cons, e_nil, e_cons, j_nil, j_cons, o_none, o_some, c_none, c_some, i_seq, i_rng1, i_rng2, i_zp, i_enm, i_keys, t_cmp, t_chain, t_and, t_or, t_not, t_var, t_ix, t_call, t_meth, t_isi, t_kin, t_fld, t_bf, s_nil, s_cons, s_pass, s_doc, s_brk, s_cnt, s_retN, s_expr, s_asg, s_asgL, s_asgT, s_par, s_asgI, s_asgF, s_augN, s_augF, s_ret, s_iff, s_whl, s_for, s_tryN, strR_str, Option.getD_some, Option.getD_none, Option.isSome_some, Option.isSome_none, mVar, gJc_ap, opN, opB, and_self, true_and, and_true, if_true, if_false, Bool.true_or, Bool.not_true, Bool.not_false, eq_self, tup3, tup4, y, e1, p6]
  have a := mod_nn n1 p6
  have b := mod_lt n1 p6
  have rg : ∀ {w : Str} {pl : Nat} (v : Int), 0 ≤ v → v < 4 → okP vars lk nc pl w "register" v := fun v h h' => p_reg h h'
  rcases (show n1 % 6 = 0 ∨ n1 % 6 = 1 ∨ n1 % 6 = 2 ∨ n1 % 6 = 3 ∨ n1 % 6 = 4 ∨ n1 % 6 = 5 by omega) with h | h | h | h | h | h <;> rw [h]
  · have z := ixO_lst (i := 0) g2 (Ab.atI_nat (j := 0) rfl)
    simp only [fin_nx, fin_rt, fin_ex, ofO_some, ofO_none, asB_bl, asI_int, truR_bl, outS_some, outE_some, outO_some, R.bind_ok, R.bind_ex, R.bind_bad, R.to_ok, R.to_ex, R.to_bad, Out.seq_nx, Out.seq_rt, Out.seq_bk, Out.seq_ct, Out.seq_ex, Out.seq_bad, cond_true, cond_false, gam_gl, gam_ncls, gam_init, gam_kd, List.getElem?_cons_zero, List.getElem?_cons_succ, List.set_cons_zero, List.set_cons_succ, List.cons_append, List.nil_append, k2_ap, gBin_ap, gCmp_ap, gCmpT_ap, gNeg_ap, gCh3_ap, gCh2_ap, gCh_ap, gCh3T_ap, gCh2T_ap, gChT_ap, gAnd2_ap, gAnd_ap, gOr2_ap, gOr_ap, gNot2_ap, gNot_ap, gIte_ap, gIx_ap, gSl2_ap, gSl1_ap, gSl_ap, gRev_ap, gFld_ap, gMk2_ap, gMk_ap, gMt2_ap, gMt_ap, gBf_ap, gBm2_ap, gBm_ap, gIsi_ap, gLc_ap, gStr_ap, gKget_ap, gKin_ap, gCo2_ap, gCo_ap, gOs2_ap, gOs_ap, gRn1_ap, gRn3_ap, gRn2_ap, gRn_ap, gZp_ap, gAndT_ap, gOrT_ap, gNotT_ap, gJ_ap, sNx_ap, sSet_ap, sSetT_ap, sPar2_ap, sPar1_ap, sI3_ap, sI2_ap, sI1_ap, sF2_ap, sF1_ap, sN2_ap, sN1_ap, sA3_ap, sA2_ap, sA1_ap, sR_ap, sIff_ap, sFr_ap, e_var, e_cst, e_glob, e_bin, e_neg, e_cmp, e_chain, e_and, e_or, e_not, e_ite, e_ix, e_sl, e_rev, e_tup, e_lst, e_dnewK, e_dnewT, e_fld, e_call, e_make, e_meth, e_bf, e_bm, e_isi, e_lc, e_fst, e_fmt, e_kget, e_kin, gDk_ap, gDr_ap, gDv_ap, keyR_str, keyR_int, e_disp, d_nil, d_cons, d1_cons, e_nil, e_cons, j_nil, j_cons, o_none, o_some, c_none, c_some, i_seq, i_rng1, i_rng2, i_zp, i_enm, i_keys, t_cmp, t_chain, t_and, t_or, t_not, t_var, t_ix, t_call, t_meth, t_isi, t_kin, t_fld, t_bf, s_nil, s_cons, s_pass, s_doc, s_brk, s_cnt, s_retN, s_expr, s_asg, s_asgL, s_asgT, s_par, s_asgI, s_asgF, s_augN, s_augF, s_ret, s_iff, s_whl, s_for, s_tryN, strR_str, Option.getD_some, Option.getD_none, Option.isSome_some, Option.isSome_none, mVar, gJc_ap, opN, opB, and_self, true_and, and_true, if_true, if_false, Bool.true_or, Bool.not_true, Bool.not_false, eq_self, z]
    exact ⟨"const", [3, 1], s1, rfl, fun pl => OkL.ok (fs := ["register", "value"]) ⟨rg 3 (by decide) (by decide), p_val (by decide) (by decide), trivial⟩ rfl (by decide), d1, F⟩
  · have z := ixO_lst (i := 1) g2 (Ab.atI_nat (j := 1) rfl)
    simp only [fin_nx, fin_rt, fin_ex, ofO_some, ofO_none, asB_bl, asI_int, truR_bl, outS_some, outE_some, outO_some, R.bind_ok, R.bind_ex, R.bind_bad, R.to_ok, R.to_ex, R.to_bad, Out.seq_nx, Out.seq_rt, Out.seq_bk, Out.seq_ct, Out.seq_ex, Out.seq_bad, cond_true, cond_false, gam_gl, gam_ncls, gam_init, gam_kd, List.getElem?_cons_zero, List.getElem?_cons_succ, List.set_cons_zero, List.set_cons_succ, List.cons_append, List.nil_append, k2_ap, gBin_ap, gCmp_ap, gCmpT_ap, gNeg_ap, gCh3_ap, gCh2_ap, gCh_ap, gCh3T_ap, gCh2T_ap, gChT_ap, gAnd2_ap, gAnd_ap, gOr2_ap, gOr_ap, gNot2_ap, gNot_ap, gIte_ap, gIx_ap, gSl2_ap, gSl1_ap, gSl_ap, gRev_ap, gFld_ap, gMk2_ap, gMk_ap, gMt2_ap, gMt_ap, gBf_ap, gBm2_ap, gBm_ap, gIsi_ap, gLc_ap, gStr_ap, gKget_ap, gKin_ap, gCo2_ap, gCo_ap, gOs2_ap, gOs_ap, gRn1_ap, gRn3_ap, gRn2_ap, gRn_ap, gZp_ap, gAndT_ap, gOrT_ap, gNotT_ap, gJ_ap, sNx_ap, sSet_ap, sSetT_ap, sPar2_ap, sPar1_ap, sI3_ap, sI2_ap, sI1_ap, sF2_ap, sF1_ap, sN2_ap, sN1_ap, sA3_ap, sA2_ap, sA1_ap, sR_ap, sIff_ap, sFr_ap, e_var, e_cst, e_glob, e_bin, e_neg, e_cmp, e_chain, e_and, e_or, e_not, e_ite, e_ix, e_sl, e_rev, e_tup, e_lst, e_dnewK, e_dnewT, e_fld, e_call, e_make, e_meth, e_bf, e_bm, e_isi, e_lc, e_fst, e_fmt, e_kget, e_kin, gDk_ap, gDr_ap, gDv_ap, keyR_str, keyR_int, e_disp, d_nil, d_cons, d1_cons, e_nil, e_cons, j_nil, j_cons, o_none, o_some, c_none, c_some, i_seq, i_rng1, i_rng2, i_zp, i_enm, i_keys, t_cmp, t_chain, t_and, t_or, t_not, t_var, t_ix, t_call, t_meth, t_isi, t_kin, t_fld, t_bf, s_nil, s_cons, s_pass, s_doc, s_brk, s_cnt, s_retN, s_expr, s_asg, s_asgL, s_asgT, s_par, s_asgI, s_asgF, s_augN, s_augF, s_ret, s_iff, s_whl, s_for, s_tryN, strR_str, Option.getD_some, Option.getD_none, Option.isSome_some, Option.isSome_none, mVar, gJc_ap, opN, opB, and_self, true_and, and_true, if_true, if_false, Bool.true_or, Bool.not_true, Bool.not_false, eq_self, z]
    exact ⟨"const", [2, 2], s1, rfl, fun pl => OkL.ok (fs := ["register", "value"]) ⟨rg 2 (by decide) (by decide), p_val (by decide) (by decide), trivial⟩ rfl (by decide), d1, F⟩
  · have z := ixO_lst (i := 2) g2 (Ab.atI_nat (j := 2) rfl)
    simp only [fin_nx, fin_rt, fin_ex, ofO_some, ofO_none, asB_bl, asI_int, truR_bl, outS_some, outE_some, outO_some, R.bind_ok, R.bind_ex, R.bind_bad, R.to_ok, R.to_ex, R.to_bad, Out.seq_nx, Out.seq_rt, Out.seq_bk, Out.seq_ct, Out.seq_ex, Out.seq_bad, cond_true, cond_false, gam_gl, gam_ncls, gam_init, gam_kd, List.getElem?_cons_zero, List.getElem?_cons_succ, List.set_cons_zero, List.set_cons_succ, List.cons_append, List.nil_append, k2_ap, gBin_ap, gCmp_ap, gCmpT_ap, gNeg_ap, gCh3_ap, gCh2_ap, gCh_ap, gCh3T_ap, gCh2T_ap, gChT_ap, gAnd2_ap, gAnd_ap, gOr2_ap, gOr_ap, gNot2_ap, gNot_ap, gIte_ap, gIx_ap, gSl2_ap, gSl1_ap, gSl_ap, gRev_ap, gFld_ap, gMk2_ap, gMk_ap, gMt2_ap, gMt_ap, gBf_ap, gBm2_ap, gBm_ap, gIsi_ap, gLc_ap, gStr_ap, gKget_ap, gKin_ap, gCo2_ap, gCo_ap, gOs2_ap, gOs_ap, gRn1_ap, gRn3_ap, gRn2_ap, gRn_ap, gZp_ap, gAndT_ap, gOrT_ap, gNotT_ap, gJ_ap, sNx_ap, sSet_ap, sSetT_ap, sPar2_ap, sPar1_ap, sI3_ap, sI2_ap, sI1_ap, sF2_ap, sF1_ap, sN2_ap, sN1_ap, sA3_ap, sA2_ap, sA1_ap, sR_ap, sIff_ap, sFr_ap, e_var, e_cst, e_glob, e_bin, e_neg, e_cmp, e_chain, e_and, e_or, e_not, e_ite, e_ix, e_sl, e_rev, e_tup, e_lst, e_dnewK, e_dnewT, e_fld, e_call, e_make, e_meth, e_bf, e_bm, e_isi, e_lc, e_fst, e_fmt, e_kget, e_kin, gDk_ap, gDr_ap, gDv_ap, keyR_str, keyR_int, e_disp, d_nil, d_cons, d1_cons, e_nil, e_cons, j_nil, j_cons, o_none, o_some, c_none, c_some, i_seq, i_rng1, i_rng2, i_zp, i_enm, i_keys, t_cmp, t_chain, t_and, t_or, t_not, t_var, t_ix, t_call, t_meth, t_isi, t_kin, t_fld, t_bf, s_nil, s_cons, s_pass, s_doc, s_brk, s_cnt, s_retN, s_expr, s_asg, s_asgL, s_asgT, s_par, s_asgI, s_asgF, s_augN, s_augF, s_ret, s_iff, s_whl, s_for, s_tryN, strR_str, Option.getD_some, Option.getD_none, Option.isSome_some, Option.isSome_none, mVar, gJc_ap, opN, opB, and_self, true_and, and_true, if_true, if_false, Bool.true_or, Bool.not_true, Bool.not_false, eq_self, z]
    exact ⟨"const", [1, 12], s1, rfl, fun pl => OkL.ok (fs := ["register", "value"]) ⟨rg 1 (by decide) (by decide), p_val (by decide) (by decide), trivial⟩ rfl (by decide), d1, F⟩
  · have z := ixO_lst (i := 3) g2 (Ab.atI_nat (j := 3) rfl)
    simp only [fin_nx, fin_rt, fin_ex, ofO_some, ofO_none, asB_bl, asI_int, truR_bl, outS_some, outE_some, outO_some, R.bind_ok, R.bind_ex, R.bind_bad, R.to_ok, R.to_ex, R.to_bad, Out.seq_nx, Out.seq_rt, Out.seq_bk, Out.seq_ct, Out.seq_ex, Out.seq_bad, cond_true, cond_false, gam_gl, gam_ncls, gam_init, gam_kd, List.getElem?_cons_zero, List.getElem?_cons_succ, List.set_cons_zero, List.set_cons_succ, List.cons_append, List.nil_append, k2_ap, gBin_ap, gCmp_ap, gCmpT_ap, gNeg_ap, gCh3_ap, gCh2_ap, gCh_ap, gCh3T_ap, gCh2T_ap, gChT_ap, gAnd2_ap, gAnd_ap, gOr2_ap, gOr_ap, gNot2_ap, gNot_ap, gIte_ap, gIx_ap, gSl2_ap, gSl1_ap, gSl_ap, gRev_ap, gFld_ap, gMk2_ap, gMk_ap, gMt2_ap, gMt_ap, gBf_ap, gBm2_ap, gBm_ap, gIsi_ap, gLc_ap, gStr_ap, gKget_ap, gKin_ap, gCo2_ap, gCo_ap, gOs2_ap, gOs_ap, gRn1_ap, gRn3_ap, gRn2_ap, gRn_ap, gZp_ap, gAndT_ap, gOrT_ap, gNotT_ap, gJ_ap, sNx_ap, sSet_ap, sSetT_ap, sPar2_ap, sPar1_ap, sI3_ap, sI2_ap, sI1_ap, sF2_ap, sF1_ap, sN2_ap, sN1_ap, sA3_ap, sA2_ap, sA1_ap, sR_ap, sIff_ap, sFr_ap, e_var, e_cst, e_glob, e_bin, e_neg, e_cmp, e_chain, e_and, e_or, e_not, e_ite, e_ix, e_sl, e_rev, e_tup, e_lst, e_dnewK, e_dnewT, e_fld, e_call, e_make, e_meth, e_bf, e_bm, e_isi, e_lc, e_fst, e_fmt, e_kget, e_kin, gDk_ap, gDr_ap, gDv_ap, keyR_str, keyR_int, e_disp, d_nil, d_cons, d1_cons, e_nil, e_cons, j_nil, j_cons, o_none, o_some, c_none, c_some, i_seq, i_rng1, i_rng2, i_zp, i_enm, i_keys, t_cmp, t_chain, t_and, t_or, t_not, t_var, t_ix, t_call, t_meth, t_isi, t_kin, t_fld, t_bf, s_nil, s_cons, s_pass, s_doc, s_brk, s_cnt, s_retN, s_expr, s_asg, s_asgL, s_asgT, s_par, s_asgI, s_asgF, s_augN, s_augF, s_ret, s_iff, s_whl, s_for, s_tryN, strR_str, Option.getD_some, Option.getD_none, Option.isSome_some, Option.isSome_none, mVar, gJc_ap, opN, opB, and_self, true_and, and_true, if_true, if_false, Bool.true_or, Bool.not_true, Bool.not_false, eq_self, z]
    exact ⟨"add", [1, 0, 3], s1, rfl, fun pl => OkL.ok (fs := ["register", "register", "register"]) ⟨rg 1 (by decide) (by decide), rg 0 (by decide) (by decide), rg 3 (by decide) (by decide), trivial⟩ rfl (by decide), d1, F⟩
  · have z := ixO_lst (i := 4) g2 (Ab.atI_nat (j := 4) rfl)
    simp only [fin_nx, fin_rt, fin_ex, ofO_some, ofO_none, asB_bl, asI_int, truR_bl, outS_some, outE_some, outO_some, R.bind_ok, R.bind_ex, R.bind_bad, R.to_ok, R.to_ex, R.to_bad, Out.seq_nx, Out.seq_rt, Out.seq_bk, Out.seq_ct, Out.seq_ex, Out.seq_bad, cond_true, cond_false, gam_gl, gam_ncls, gam_init, gam_kd, List.getElem?_cons_zero, List.getElem?_cons_succ, List.set_cons_zero, List.set_cons_succ, List.cons_append, List.nil_append, k2_ap, gBin_ap, gCmp_ap, gCmpT_ap, gNeg_ap, gCh3_ap, gCh2_ap, gCh_ap, gCh3T_ap, gCh2T_ap, gChT_ap, gAnd2_ap, gAnd_ap, gOr2_ap, gOr_ap, gNot2_ap, gNot_ap, gIte_ap, gIx_ap, gSl2_ap, gSl1_ap, gSl_ap, gRev_ap, gFld_ap, gMk2_ap, gMk_ap, gMt2_ap, gMt_ap, gBf_ap, gBm2_ap, gBm_ap, gIsi_ap, gLc_ap, gStr_ap, gKget_ap, gKin_ap, gCo2_ap, gCo_ap, gOs2_ap, gOs_ap, gRn1_ap, gRn3_ap, gRn2_ap, gRn_ap, gZp_ap, gAndT_ap, gOrT_ap, gNotT_ap, gJ_ap, sNx_ap, sSet_ap, sSetT_ap, sPar2_ap, sPar1_ap, sI3_ap, sI2_ap, sI1_ap, sF2_ap, sF1_ap, sN2_ap, sN1_ap, sA3_ap, sA2_ap, sA1_ap, sR_ap, sIff_ap, sFr_ap, e_var, e_cst, e_glob, e_bin, e_neg, e_cmp, e_chain, e_and, e_or, e_not, e_ite, e_ix, e_sl, e_rev, e_tup, e_lst, e_dnewK, e_dnewT, e_fld, e_call, e_make, e_meth, e_bf, e_bm, e_isi, e_lc, e_fst, e_fmt, e_kget, e_kin, gDk_ap, gDr_ap, gDv_ap, keyR_str, keyR_int, e_disp, d_nil, d_cons, d1_cons, e_nil, e_cons, j_nil, j_cons, o_none, o_some, c_none, c_some, i_seq, i_rng1, i_rng2, i_zp, i_enm, i_keys, t_cmp, t_chain, t_and, t_or, t_not, t_var, t_ix, t_call, t_meth, t_isi, t_kin, t_fld, t_bf, s_nil, s_cons, s_pass, s_doc, s_brk, s_cnt, s_retN, s_expr, s_asg, s_asgL, s_asgT, s_par, s_asgI, s_asgF, s_augN, s_augF, s_ret, s_iff, s_whl, s_for, s_tryN, strR_str, Option.getD_some, Option.getD_none, Option.isSome_some, Option.isSome_none, mVar, gJc_ap, opN, opB, and_self, true_and, and_true, if_true, if_false, Bool.true_or, Bool.not_true, Bool.not_false, eq_self, z]
    exact ⟨"eq", [2, 1, 0], s1, rfl, fun pl => OkL.ok (fs := ["register", "register", "register"]) ⟨rg 2 (by decide) (by decide), rg 1 (by decide) (by decide), rg 0 (by decide) (by decide), trivial⟩ rfl (by decide), d1, F⟩
  · have z := ixO_lst (i := 5) g2 (Ab.atI_nat (j := 5) rfl)
    simp only [fin_nx, fin_rt, fin_ex, ofO_some, ofO_none, asB_bl, asI_int, truR_bl, outS_some, outE_some, outO_some, R.bind_ok, R.bind_ex, R.bind_bad, R.to_ok, R.to_ex, R.to_bad, Out.seq_nx, Out.seq_rt, Out.seq_bk, Out.seq_ct, Out.seq_ex, Out.seq_bad, cond_true, cond_false, gam_gl, gam_ncls, gam_init, gam_kd, List.getElem?_cons_zero, List.getElem?_cons_succ, List.set_cons_zero, List.set_cons_succ, List.cons_append, List.nil_append, k2_ap, gBin_ap, gCmp_ap, gCmpT_ap, gNeg_ap, gCh3_ap, gCh2_ap, gCh_ap, gCh3T_ap, gCh2T_ap, gChT_ap, gAnd2_ap, gAnd_ap, gOr2_ap, gOr_ap, gNot2_ap, gNot_ap, gIte_ap, gIx_ap, gSl2_ap, gSl1_ap, gSl_ap, gRev_ap, gFld_ap, gMk2_ap, gMk_ap, gMt2_ap, gMt_ap, gBf_ap, gBm2_ap, gBm_ap, gIsi_ap, gLc_ap, gStr_ap, gKget_ap, gKin_ap, gCo2_ap, gCo_ap, gOs2_ap, gOs_ap, gRn1_ap, gRn3_ap, gRn2_ap, gRn_ap, gZp_ap, gAndT_ap, gOrT_ap, gNotT_ap, gJ_ap, sNx_ap, sSet_ap, sSetT_ap, sPar2_ap, sPar1_ap, sI3_ap, sI2_ap, sI1_ap, sF2_ap, sF1_ap, sN2_ap, sN1_ap, sA3_ap, sA2_ap, sA1_ap, sR_ap, sIff_ap, sFr_ap, e_var, e_cst, e_glob, e_bin, e_neg, e_cmp, e_chain, e_and, e_or, e_not, e_ite, e_ix, e_sl, e_rev, e_tup, e_lst, e_dnewK, e_dnewT, e_fld, e_call, e_make, e_meth, e_bf, e_bm, e_isi, e_lc, e_fst, e_fmt, e_kget, e_kin, gDk_ap, gDr_ap, gDv_ap, keyR_str, keyR_int, e_disp, d_nil, d_cons, d1_cons, e_nil, e_cons, j_nil, j_cons, o_none, o_some, c_none, c_some, i_seq, i_rng1, i_rng2, i_zp, i_enm, i_keys, t_cmp, t_chain, t_and, t_or, t_not, t_var, t_ix, t_call, t_meth, t_isi, t_kin, t_fld, t_bf, s_nil, s_cons, s_pass, s_doc, s_brk, s_cnt, s_retN, s_expr, s_asg, s_asgL, s_asgT, s_par, s_asgI, s_asgF, s_augN, s_augF, s_ret, s_iff, s_whl, s_for, s_tryN, strR_str, Option.getD_some, Option.getD_none, Option.isSome_some, Option.isSome_none, mVar, gJc_ap, opN, opB, and_self, true_and, and_true, if_true, if_false, Bool.true_or, Bool.not_true, Bool.not_false, eq_self, z]
    exact ⟨"mul", [3, 0, 0], s1, rfl, fun pl => OkL.ok (fs := ["register", "register", "register"]) ⟨rg 3 (by decide) (by decide), rg 0 (by decide) (by decide), rg 0 (by decide) (by decide), trivial⟩ rfl (by decide), d1, F⟩
/-- a list of instructions at c -/
def InsAt (s : Sto) (c : Nat) (ins : List (Str × List Int)) : Prop := s.g c = .lst (ins.map fun i => eIns i.1 i.2)
theorem InsAt.push {s : Sto} {c : Nat} {ins : List (Str × List Int)} (h : InsAt s c ins) (hl : ins.length < 100) (w : Str) (ps : List Int) : tyO .append (.ref c) s = true ∧ mO .append (.ref c) [eIns w ps] s = some (.non, s.put c (.lst ((ins ++ [(w, ps)]).map fun i => eIns i.1 i.2))) ∧ InsAt (s.put c (.lst ((ins ++ [(w, ps)]).map fun i => eIns i.1 i.2))) c (ins ++ [(w, ps)]) := by
  refine ⟨app_ty h, ?_, put_g⟩
  rw [app_is h (by rw [List.length_map]; exact Nat.lt_of_lt_of_le hl (sz_ge (Nat.le_refl _)))]
  simp
/-- the loop's state: the list at c = s.n grows -/
structure Gr (vars : List (Int × Bool)) (lk nc r l : Nat) (s : Sto) (b : Nat) (s1 : Sto) : Prop where
  d : Dr s1 r l
  f : Fr (· = r) s s1
  lt : s.n < s1.n
  at_ : ∃ ins, InsAt s1 s.n ins ∧ ins.length ≤ b ∧ ∀ i ∈ ins, Good vars lk nc i.1 i.2
section
variable {vars : List (Int × Bool)} {lk nc r l b : Nat} {s s1 s2 : Sto}
theorem Gr.draw (g : Gr vars lk nc r l s b s1) (hr : r < s.n) (d : Dr s2 r l) (f : Fr (· = r) s1 s2) : Gr vars lk nc r l s b s2 :=
  ⟨d, g.f.trans f, Nat.lt_of_lt_of_le g.lt f.le, let ⟨ins, h1, h2, h3⟩ := g.at_; ⟨ins, (f.eq s.n g.lt (Nat.ne_of_gt hr)).trans h1, h2, h3⟩⟩
theorem Gr.push (g : Gr vars lk nc r l s b s1) (hr : r < s.n) (hl : l < s.n) (hb : b < 100) {w : Str} {ps : List Int} (h : Good vars lk nc w ps) : ∃ s2, tyO .append (.ref s.n) s1 = true ∧ mO .append (.ref s.n) [eIns w ps] s1 = some (.non, s2) ∧ Gr vars lk nc r l s (b + 1) s2 := by
  obtain ⟨ins, h1, h2, h3⟩ := g.at_
  obtain ⟨a1, a2, a3⟩ := h1.push (by omega) w ps
  refine ⟨_, a1, a2, g.d.keep (Fr.put (X := (· = s.n)) rfl) (Nat.ne_of_lt hr) (Nat.ne_of_lt hl), ?_, g.lt, _, a3, by simp; omega, fun i hi => ?_⟩
  · exact ⟨g.f.le, fun q hq hx => (put_ne (Nat.ne_of_lt hq)).trans (g.f.eq q hq hx)⟩
  · rcases List.mem_append.mp hi with hi | hi
    · exact h3 i hi
    · cases List.mem_singleton.mp hi
      exact h
theorem Gr.mono (g : Gr vars lk nc r l s b s1) {c : Nat} (h : b ≤ c) : Gr vars lk nc r l s c s1 := ⟨g.d, g.f, g.lt, let ⟨ins, h1, h2, h3⟩ := g.at_; ⟨ins, h1, Nat.le_trans h2 h, h3⟩⟩
end
end Lk61
set_option Elab.async false
set_option linter.all false
set_option maxRecDepth 100000
set_option maxHeartbeats 2000000
/-! Pb61: the generator of k61: codes -/
namespace Lk61
open PySem L2 Ab
def b24t : Sts := .cons (.asg 6 (.bin .mod (.call 18 (.cons (.var 0) (.nil))) (.cst (.int 12)))) (.cons (.iff (.cmp .lt (.var 6) (.cst (.int 2))) (.cons (.expr (.bm .append (.var 4) (.cons (.tup (.cons (.cst (.str "assert")) (.cons (.bin .mod (.call 18 (.cons (.var 0) (.nil))) (.cst (.int 4))) (.nil)))) (.nil)))) (.nil)) (.cons (.iff (.cmp .eq (.var 6) (.cst (.int 2))) (.cons (.asg 4 (.bin .add (.sl (.var 4) .none (.some (.cst (.int 1)))) (.lst (.cons (.tup (.cons (.cst (.str "jump")) (.cons (.cst (.int 0)) (.nil)))) (.nil))))) (.nil)) (.cons (.iff (.cmp .eq (.var 6) (.cst (.int 3))) (.cons (.asg 4 (.bin .add (.lst (.cons (.tup (.cons (.cst (.str "branch")) (.cons (.cst (.int 0)) (.cons (.cst (.int 1)) (.nil))))) (.nil))) (.var 4))) (.nil)) (.cons (.iff (.and (.cmp .lt (.var 6) (.cst (.int 6))) (.cmp .gt (.ix (.var 1) (.cst (.int 1))) (.cst (.int 0)))) (.cons (.asg 4 (.bin .add (.bin .add (.lst (.cons (.tup (.cons (.cst (.str "lock")) (.cons (.bin .mod (.call 18 (.cons (.var 0) (.nil))) (.ix (.var 1) (.cst (.int 1)))) (.nil)))) (.nil))) (.sl (.var 4) .none (.some (.cst (.int 2))))) (.lst (.cons (.tup (.cons (.cst (.str "unlock")) (.cons (.bin .mod (.call 18 (.cons (.var 0) (.nil))) (.ix (.var 1) (.cst (.int 1)))) (.nil)))) (.nil))))) (.nil)) (.cons (.iff (.and (.cmp .eq (.var 6) (.cst (.int 6))) (.cmp .eq (.ix (.var 1) (.cst (.int 1))) (.cst (.int 2)))) (.cons (.asg 7 (.bin .mod (.call 18 (.cons (.var 0) (.nil))) (.cst (.int 2)))) (.cons (.asg 4 (.lst (.cons (.tup (.cons (.cst (.str "lock")) (.cons (.var 7) (.nil)))) (.cons (.tup (.cons (.cst (.str "lock")) (.cons (.bin .sub (.cst (.int 1)) (.var 7)) (.nil)))) (.cons (.tup (.cons (.cst (.str "unlock")) (.cons (.bin .sub (.cst (.int 1)) (.var 7)) (.nil)))) (.cons (.tup (.cons (.cst (.str "unlock")) (.cons (.var 7) (.nil)))) (.nil))))))) (.nil))) (.nil)) (.nil))) (.nil))) (.nil))) (.nil))) (.cons (.ret (.bf .tuple (.cons (.var 4) (.nil)))) (.nil)))
/-- what codes are -/
def CodeOk (vars : List (Int × Bool)) (lk nc r l : Nat) (s : Sto) (res : R D) : Prop := ∃ c s', res = .ok (eCode c) s' ∧ c.length ≤ 12 ∧ (∀ i ∈ c, OkIns FM vars lk nc (c.length + 1) i.1 i.2) ∧ Dr s' r l ∧ Fr (· = r) s s'
abbrev mk (w : Str) (ps : List Int) : Str × List Int := (w, ps)

theorem codeT {k fuel : Nat} {s s2 : Sto} {r l lk nc : Nat} {vars : List (Int × Bool)} {c : Option D} (hr : r < s.n) (hl : l < s.n) (g : Gr vars lk nc r l s 8 s2) :
    CodeOk vars lk nc r l s (svs (T.gam fuel (k + 4)) fuel b24t [some (.ref r), some (.tup [.tup (vars.map eVar), .int lk]), some (.int nc), some (.int 4), some (.ref s.n), c, none, none] s2).fin := by
  obtain ⟨n3, s3, e3, d3, f3⟩ := draw (k := k + 2) (fuel := fuel) g.d
  have g3 := g.draw hr d3 f3
  obtain ⟨ins, h1, h2, h3⟩ := g3.at_
  have h1 : s3.g s.n = .lst (ins.map eI) := h1
  have F3 := g3.f
  have lt3 := g3.lt
  have p12 : (0 : Int) < 12 := by decide
  have p4 : (0 : Int) < 4 := by decide
  have x1 : ∀ s : Sto, ixO (.tup [.tup (vars.map eVar), .int lk]) (.int 1) s = some (.int lk, s) := fun _ => rfl
  have fin_ : ∀ {s4 : Sto} {c : List (Str × List Int)}, Dr s4 r l → Fr (· = r) s s4 → c.length ≤ 12 → (∀ i ∈ c, OkIns FM vars lk nc (c.length + 1) i.1 i.2) → CodeOk vars lk nc r l s (.ok (.tup (c.map eI)) s4) := fun d f h h' => ⟨_, _, rfl, h, h', d, f⟩
  unfold b24t
  simp only [fin_nx, fin_rt, fin_ex, ofO_some, ofO_none, asB_bl, asI_int, truR_bl, outS_some, outE_some, outO_some, R.bind_ok, R.bind_ex, R.bind_bad, R.to_ok, R.to_ex, R.to_bad, Out.seq_nx, Out.seq_rt, Out.seq_bk, Out.seq_ct, Out.seq_ex, Out.seq_bad, cond_true, cond_false, gam_gl, gam_ncls, gam_init, gam_kd, List.getElem?_cons_zero, List.getElem?_cons_succ, List.set_cons_zero, List.set_cons_succ, List.cons_append, List.nil_append, k2_ap, gBin_ap, gCmp_ap, gCmpT_ap, gNeg_ap, gCh3_ap, gCh2_ap, gCh_ap, gCh3T_ap, gCh2T_ap, gChT_ap, gAnd2_ap, gAnd_ap, gOr2_ap, gOr_ap, gNot2_ap, gNot_ap, gIte_ap, gIx_ap, gSl2_ap, gSl1_ap, gSl_ap, gRev_ap, gFld_ap, gMk2_ap, gMk_ap, gMt2_ap, gMt_ap, gBf_ap, gBm2_ap, gBm_ap, gIsi_ap, gLc_ap, gStr_ap, gKget_ap, gKin_ap, gCo2_ap, gCo_ap, gOs2_ap, gOs_ap, gRn1_ap, gRn3_ap, gRn2_ap, gRn_ap, gZp_ap, gAndT_ap, gOrT_ap, gNotT_ap, gJ_ap, sNx_ap, sSet_ap, sSetT_ap, sPar2_ap, sPar1_ap, sI3_ap, sI2_ap, sI1_ap, sF2_ap, sF1_ap, sN2_ap, sN1_ap, sA3_ap, sA2_ap, sA1_ap, sR_ap, sIff_ap, sFr_ap, e_var, e_cst, e_glob, e_bin, e_neg, e_cmp, e_chain, e_and, e_or, e_not, e_ite, e_ix, e_sl, e_rev, e_tup, e_lst, e_dnewK, e_dnewT, e_fld, e_call, e_make, e_meth, e_bf, e_bm, e_isi, e_lc, e_fst, e_fmt, e_kget, e_kin, gDk_ap, gDr_ap, gDv_ap, keyR_str, keyR_int, e_disp, d_nil, d_cons, d1_cons, e_nil, e_cons, j_nil, j_cons, o_none, o_some, c_none, c_some, i_seq, i_rng1, i_rng2, i_zp, i_enm, i_keys, t_cmp, t_chain, t_and, t_or, t_not, t_var, t_ix, t_call, t_meth, t_isi, t_kin, t_fld, t_bf, s_nil, s_cons, s_pass, s_doc, s_brk, s_cnt, s_retN, s_expr, s_asg, s_asgL, s_asgT, s_par, s_asgI, s_asgF, s_augN, s_augF, s_ret, s_iff, s_whl, s_for, s_tryN, strR_str, Option.getD_some, Option.getD_none, Option.isSome_some, Option.isSome_none, mVar, gJc_ap, opN, opB, and_self, true_and, and_true, if_true, if_false, Bool.true_or, Bool.not_true, Bool.not_false, eq_self, e3, p12, lt_int]
  by_cases c0 : n3 % 12 < 2
  · rw [decide_eq_true c0]
    obtain ⟨n4, s4, e4, d4, f4⟩ := draw (k := k + 2) (fuel := fuel) d3
    have g4 := g3.draw hr d4 f4
    have ok4 : Good vars lk nc "assert" [n4 % 4] := fun pl => OkL.ok (fs := ["register"]) ⟨p_reg (mod_nn n4 p4) (mod_lt n4 p4), trivial⟩ rfl (by decide)
    obtain ⟨s5, a1, a2, a3⟩ := g4.push hr hl (by omega) ok4
    obtain ⟨ins5, q1, q2, q3⟩ := a3.at_
    have q1 : s5.g s.n = .lst (ins5.map eI) := q1
    have a1 : tyO .append (.ref s.n) s3 = true := app_ty h1
    have a2 : mO .append (.ref s.n) [.tup [.str "assert", .int (n4 % 4)]] s4 = some (.non, s5) := a2
    simp only [fin_nx, fin_rt, fin_ex, ofO_some, ofO_none, asB_bl, asI_int, truR_bl, outS_some, outE_some, outO_some, R.bind_ok, R.bind_ex, R.bind_bad, R.to_ok, R.to_ex, R.to_bad, Out.seq_nx, Out.seq_rt, Out.seq_bk, Out.seq_ct, Out.seq_ex, Out.seq_bad, cond_true, cond_false, gam_gl, gam_ncls, gam_init, gam_kd, List.getElem?_cons_zero, List.getElem?_cons_succ, List.set_cons_zero, List.set_cons_succ, List.cons_append, List.nil_append, k2_ap, gBin_ap, gCmp_ap, gCmpT_ap, gNeg_ap, gCh3_ap, gCh2_ap, gCh_ap, gCh3T_ap, gCh2T_ap, gChT_ap, gAnd2_ap, gAnd_ap, gOr2_ap, gOr_ap, gNot2_ap, gNot_ap, gIte_ap, gIx_ap, gSl2_ap, gSl1_ap, gSl_ap, gRev_ap, gFld_ap, gMk2_ap, gMk_ap, gMt2_ap, gMt_ap, gBf_ap, gBm2_ap, gBm_ap, gIsi_ap, gLc_ap, gStr_ap, gKget_ap, gKin_ap, gCo2_ap, gCo_ap, gOs2_ap, gOs_ap, gRn1_ap, gRn3_ap, gRn2_ap, gRn_ap, gZp_ap, gAndT_ap, gOrT_ap, gNotT_ap, gJ_ap, sNx_ap, sSet_ap, sSetT_ap, sPar2_ap, sPar1_ap, sI3_ap, sI2_ap, sI1_ap, sF2_ap, sF1_ap, sN2_ap, sN1_ap, sA3_ap, sA2_ap, sA1_ap, sR_ap, sIff_ap, sFr_ap, e_var, e_cst, e_glob, e_bin, e_neg, e_cmp, e_chain, e_and, e_or, e_not, e_ite, e_ix, e_sl, e_rev, e_tup, e_lst, e_dnewK, e_dnewT, e_fld, e_call, e_make, e_meth, e_bf, e_bm, e_isi, e_lc, e_fst, e_fmt, e_kget, e_kin, gDk_ap, gDr_ap, gDv_ap, keyR_str, keyR_int, e_disp, d_nil, d_cons, d1_cons, e_nil, e_cons, j_nil, j_cons, o_none, o_some, c_none, c_some, i_seq, i_rng1, i_rng2, i_zp, i_enm, i_keys, t_cmp, t_chain, t_and, t_or, t_not, t_var, t_ix, t_call, t_meth, t_isi, t_kin, t_fld, t_bf, s_nil, s_cons, s_pass, s_doc, s_brk, s_cnt, s_retN, s_expr, s_asg, s_asgL, s_asgT, s_par, s_asgI, s_asgF, s_augN, s_augF, s_ret, s_iff, s_whl, s_for, s_tryN, strR_str, Option.getD_some, Option.getD_none, Option.isSome_some, Option.isSome_none, mVar, gJc_ap, opN, opB, and_self, true_and, and_true, if_true, if_false, Bool.true_or, Bool.not_true, Bool.not_false, eq_self, a1, e4, p4, tup2, a2, tup_lst q1]
    exact fin_ a3.d a3.f (by omega) fun i hi => q3 i hi _
  rw [decide_eq_false c0]
  simp only [fin_nx, fin_rt, fin_ex, ofO_some, ofO_none, asB_bl, asI_int, truR_bl, outS_some, outE_some, outO_some, R.bind_ok, R.bind_ex, R.bind_bad, R.to_ok, R.to_ex, R.to_bad, Out.seq_nx, Out.seq_rt, Out.seq_bk, Out.seq_ct, Out.seq_ex, Out.seq_bad, cond_true, cond_false, gam_gl, gam_ncls, gam_init, gam_kd, List.getElem?_cons_zero, List.getElem?_cons_succ, List.set_cons_zero, List.set_cons_succ, List.cons_append, List.nil_append, k2_ap, gBin_ap, gCmp_ap, gCmpT_ap, gNeg_ap, gCh3_ap, gCh2_ap, gCh_ap, gCh3T_ap, gCh2T_ap, gChT_ap, gAnd2_ap, gAnd_ap, gOr2_ap, gOr_ap, gNot2_ap, gNot_ap, gIte_ap, gIx_ap, gSl2_ap, gSl1_ap, gSl_ap, gRev_ap, gFld_ap, gMk2_ap, gMk_ap, gMt2_ap, gMt_ap, gBf_ap, gBm2_ap, gBm_ap, gIsi_ap, gLc_ap, gStr_ap, gKget_ap, gKin_ap, gCo2_ap, gCo_ap, gOs2_ap, gOs_ap, gRn1_ap, gRn3_ap, gRn2_ap, gRn_ap, gZp_ap, gAndT_ap, gOrT_ap, gNotT_ap, gJ_ap, sNx_ap, sSet_ap, sSetT_ap, sPar2_ap, sPar1_ap, sI3_ap, sI2_ap, sI1_ap, sF2_ap, sF1_ap, sN2_ap, sN1_ap, sA3_ap, sA2_ap, sA1_ap, sR_ap, sIff_ap, sFr_ap, e_var, e_cst, e_glob, e_bin, e_neg, e_cmp, e_chain, e_and, e_or, e_not, e_ite, e_ix, e_sl, e_rev, e_tup, e_lst, e_dnewK, e_dnewT, e_fld, e_call, e_make, e_meth, e_bf, e_bm, e_isi, e_lc, e_fst, e_fmt, e_kget, e_kin, gDk_ap, gDr_ap, gDv_ap, keyR_str, keyR_int, e_disp, d_nil, d_cons, d1_cons, e_nil, e_cons, j_nil, j_cons, o_none, o_some, c_none, c_some, i_seq, i_rng1, i_rng2, i_zp, i_enm, i_keys, t_cmp, t_chain, t_and, t_or, t_not, t_var, t_ix, t_call, t_meth, t_isi, t_kin, t_fld, t_bf, s_nil, s_cons, s_pass, s_doc, s_brk, s_cnt, s_retN, s_expr, s_asg, s_asgL, s_asgT, s_par, s_asgI, s_asgF, s_augN, s_augF, s_ret, s_iff, s_whl, s_for, s_tryN, strR_str, Option.getD_some, Option.getD_none, Option.isSome_some, Option.isSome_none, mVar, gJc_ap, opN, opB, and_self, true_and, and_true, if_true, if_false, Bool.true_or, Bool.not_true, Bool.not_false, eq_self, int_eq]
  cases c1 : (n3 % 12 == 2) with
  | true =>
    have b1 := sl_lst (j := 1) h1
    have b2 := lst_n (xs := [.tup [.str "jump", .int 0]]) (s3.new (.lst ((ins.map eI).take 1))) (by show 1 ≤ 100; decide)
    have b3 := lo (s := (s3.new (.lst ((ins.map eI).take 1))).new (.lst [.tup [.str "jump", .int 0]])) (r := s3.n) (new_at (Nat.lt_succ_self _) new_g)
    have b3' := lo (s := (s3.new (.lst ((ins.map eI).take 1))).new (.lst [.tup [.str "jump", .int 0]])) (r := (s3.new (.lst ((ins.map eI).take 1))).n) new_g
    have z3 : ((ins.map eI).take 1).length + [D.tup [.str "jump", .int 0]].length ≤ sizeLine := sz_ge (by simp; omega)
    have b1 : slO (.ref s.n) none (some 1) s3 = _ := b1
    simp only [fin_nx, fin_rt, fin_ex, ofO_some, ofO_none, asB_bl, asI_int, truR_bl, outS_some, outE_some, outO_some, R.bind_ok, R.bind_ex, R.bind_bad, R.to_ok, R.to_ex, R.to_bad, Out.seq_nx, Out.seq_rt, Out.seq_bk, Out.seq_ct, Out.seq_ex, Out.seq_bad, cond_true, cond_false, gam_gl, gam_ncls, gam_init, gam_kd, List.getElem?_cons_zero, List.getElem?_cons_succ, List.set_cons_zero, List.set_cons_succ, List.cons_append, List.nil_append, k2_ap, gBin_ap, gCmp_ap, gCmpT_ap, gNeg_ap, gCh3_ap, gCh2_ap, gCh_ap, gCh3T_ap, gCh2T_ap, gChT_ap, gAnd2_ap, gAnd_ap, gOr2_ap, gOr_ap, gNot2_ap, gNot_ap, gIte_ap, gIx_ap, gSl2_ap, gSl1_ap, gSl_ap, gRev_ap, gFld_ap, gMk2_ap, gMk_ap, gMt2_ap, gMt_ap, gBf_ap, gBm2_ap, gBm_ap, gIsi_ap, gLc_ap, gStr_ap, gKget_ap, gKin_ap, gCo2_ap, gCo_ap, gOs2_ap, gOs_ap, gRn1_ap, gRn3_ap, gRn2_ap, gRn_ap, gZp_ap, gAndT_ap, gOrT_ap, gNotT_ap, gJ_ap, sNx_ap, sSet_ap, sSetT_ap, sPar2_ap, sPar1_ap, sI3_ap, sI2_ap, sI1_ap, sF2_ap, sF1_ap, sN2_ap, sN1_ap, sA3_ap, sA2_ap, sA1_ap, sR_ap, sIff_ap, sFr_ap, e_var, e_cst, e_glob, e_bin, e_neg, e_cmp, e_chain, e_and, e_or, e_not, e_ite, e_ix, e_sl, e_rev, e_tup, e_lst, e_dnewK, e_dnewT, e_fld, e_call, e_make, e_meth, e_bf, e_bm, e_isi, e_lc, e_fst, e_fmt, e_kget, e_kin, gDk_ap, gDr_ap, gDv_ap, keyR_str, keyR_int, e_disp, d_nil, d_cons, d1_cons, e_nil, e_cons, j_nil, j_cons, o_none, o_some, c_none, c_some, i_seq, i_rng1, i_rng2, i_zp, i_enm, i_keys, t_cmp, t_chain, t_and, t_or, t_not, t_var, t_ix, t_call, t_meth, t_isi, t_kin, t_fld, t_bf, s_nil, s_cons, s_pass, s_doc, s_brk, s_cnt, s_retN, s_expr, s_asg, s_asgL, s_asgT, s_par, s_asgI, s_asgF, s_augN, s_augF, s_ret, s_iff, s_whl, s_for, s_tryN, strR_str, Option.getD_some, Option.getD_none, Option.isSome_some, Option.isSome_none, mVar, gJc_ap, opN, opB, and_self, true_and, and_true, if_true, if_false, Bool.true_or, Bool.not_true, Bool.not_false, eq_self, b1, tup2, b2, b3, b3', z3, Option.bind_some, tup_lst new_g]
    have : (ins.map eI).take 1 ++ [.tup [.str "jump", .int 0]] = ((ins.take 1) ++ [mk "jump" [0]]).map eI := by simp [eIns]
    rw [this]
    refine fin_ d3.new.new.new ((F3.trans Fr.new).trans (Fr.new.trans Fr.new)) (by simp; omega) fun i hi => ?_
    rcases List.mem_append.mp hi with hi | hi
    · exact h3 i (List.mem_of_mem_take hi) _
    · cases List.mem_singleton.mp hi
      exact OkL.ok (fs := ["place"]) ⟨p_place (by decide) (by simp; omega), trivial⟩ rfl (by decide)
  | false =>
  simp only [fin_nx, fin_rt, fin_ex, ofO_some, ofO_none, asB_bl, asI_int, truR_bl, outS_some, outE_some, outO_some, R.bind_ok, R.bind_ex, R.bind_bad, R.to_ok, R.to_ex, R.to_bad, Out.seq_nx, Out.seq_rt, Out.seq_bk, Out.seq_ct, Out.seq_ex, Out.seq_bad, cond_true, cond_false, gam_gl, gam_ncls, gam_init, gam_kd, List.getElem?_cons_zero, List.getElem?_cons_succ, List.set_cons_zero, List.set_cons_succ, List.cons_append, List.nil_append, k2_ap, gBin_ap, gCmp_ap, gCmpT_ap, gNeg_ap, gCh3_ap, gCh2_ap, gCh_ap, gCh3T_ap, gCh2T_ap, gChT_ap, gAnd2_ap, gAnd_ap, gOr2_ap, gOr_ap, gNot2_ap, gNot_ap, gIte_ap, gIx_ap, gSl2_ap, gSl1_ap, gSl_ap, gRev_ap, gFld_ap, gMk2_ap, gMk_ap, gMt2_ap, gMt_ap, gBf_ap, gBm2_ap, gBm_ap, gIsi_ap, gLc_ap, gStr_ap, gKget_ap, gKin_ap, gCo2_ap, gCo_ap, gOs2_ap, gOs_ap, gRn1_ap, gRn3_ap, gRn2_ap, gRn_ap, gZp_ap, gAndT_ap, gOrT_ap, gNotT_ap, gJ_ap, sNx_ap, sSet_ap, sSetT_ap, sPar2_ap, sPar1_ap, sI3_ap, sI2_ap, sI1_ap, sF2_ap, sF1_ap, sN2_ap, sN1_ap, sA3_ap, sA2_ap, sA1_ap, sR_ap, sIff_ap, sFr_ap, e_var, e_cst, e_glob, e_bin, e_neg, e_cmp, e_chain, e_and, e_or, e_not, e_ite, e_ix, e_sl, e_rev, e_tup, e_lst, e_dnewK, e_dnewT, e_fld, e_call, e_make, e_meth, e_bf, e_bm, e_isi, e_lc, e_fst, e_fmt, e_kget, e_kin, gDk_ap, gDr_ap, gDv_ap, keyR_str, keyR_int, e_disp, d_nil, d_cons, d1_cons, e_nil, e_cons, j_nil, j_cons, o_none, o_some, c_none, c_some, i_seq, i_rng1, i_rng2, i_zp, i_enm, i_keys, t_cmp, t_chain, t_and, t_or, t_not, t_var, t_ix, t_call, t_meth, t_isi, t_kin, t_fld, t_bf, s_nil, s_cons, s_pass, s_doc, s_brk, s_cnt, s_retN, s_expr, s_asg, s_asgL, s_asgT, s_par, s_asgI, s_asgF, s_augN, s_augF, s_ret, s_iff, s_whl, s_for, s_tryN, strR_str, Option.getD_some, Option.getD_none, Option.isSome_some, Option.isSome_none, mVar, gJc_ap, opN, opB, and_self, true_and, and_true, if_true, if_false, Bool.true_or, Bool.not_true, Bool.not_false, eq_self, int_eq]
  cases c2 : (n3 % 12 == 3) with
  | true =>
    have b2 := lst_n (xs := [.tup [.str "branch", .int 0, .int 1]]) s3 (by show 1 ≤ 100; decide)
    have b3 := lo (s := s3.new (.lst [.tup [.str "branch", .int 0, .int 1]])) (r := s3.n) new_g
    have b3' := lo (s := s3.new (.lst [.tup [.str "branch", .int 0, .int 1]])) (new_at lt3 h1)
    have z3 : [D.tup [.str "branch", .int 0, .int 1]].length + (ins.map eI).length ≤ sizeLine := sz_ge (by simp; omega)
    simp only [fin_nx, fin_rt, fin_ex, ofO_some, ofO_none, asB_bl, asI_int, truR_bl, outS_some, outE_some, outO_some, R.bind_ok, R.bind_ex, R.bind_bad, R.to_ok, R.to_ex, R.to_bad, Out.seq_nx, Out.seq_rt, Out.seq_bk, Out.seq_ct, Out.seq_ex, Out.seq_bad, cond_true, cond_false, gam_gl, gam_ncls, gam_init, gam_kd, List.getElem?_cons_zero, List.getElem?_cons_succ, List.set_cons_zero, List.set_cons_succ, List.cons_append, List.nil_append, k2_ap, gBin_ap, gCmp_ap, gCmpT_ap, gNeg_ap, gCh3_ap, gCh2_ap, gCh_ap, gCh3T_ap, gCh2T_ap, gChT_ap, gAnd2_ap, gAnd_ap, gOr2_ap, gOr_ap, gNot2_ap, gNot_ap, gIte_ap, gIx_ap, gSl2_ap, gSl1_ap, gSl_ap, gRev_ap, gFld_ap, gMk2_ap, gMk_ap, gMt2_ap, gMt_ap, gBf_ap, gBm2_ap, gBm_ap, gIsi_ap, gLc_ap, gStr_ap, gKget_ap, gKin_ap, gCo2_ap, gCo_ap, gOs2_ap, gOs_ap, gRn1_ap, gRn3_ap, gRn2_ap, gRn_ap, gZp_ap, gAndT_ap, gOrT_ap, gNotT_ap, gJ_ap, sNx_ap, sSet_ap, sSetT_ap, sPar2_ap, sPar1_ap, sI3_ap, sI2_ap, sI1_ap, sF2_ap, sF1_ap, sN2_ap, sN1_ap, sA3_ap, sA2_ap, sA1_ap, sR_ap, sIff_ap, sFr_ap, e_var, e_cst, e_glob, e_bin, e_neg, e_cmp, e_chain, e_and, e_or, e_not, e_ite, e_ix, e_sl, e_rev, e_tup, e_lst, e_dnewK, e_dnewT, e_fld, e_call, e_make, e_meth, e_bf, e_bm, e_isi, e_lc, e_fst, e_fmt, e_kget, e_kin, gDk_ap, gDr_ap, gDv_ap, keyR_str, keyR_int, e_disp, d_nil, d_cons, d1_cons, e_nil, e_cons, j_nil, j_cons, o_none, o_some, c_none, c_some, i_seq, i_rng1, i_rng2, i_zp, i_enm, i_keys, t_cmp, t_chain, t_and, t_or, t_not, t_var, t_ix, t_call, t_meth, t_isi, t_kin, t_fld, t_bf, s_nil, s_cons, s_pass, s_doc, s_brk, s_cnt, s_retN, s_expr, s_asg, s_asgL, s_asgT, s_par, s_asgI, s_asgF, s_augN, s_augF, s_ret, s_iff, s_whl, s_for, s_tryN, strR_str, Option.getD_some, Option.getD_none, Option.isSome_some, Option.isSome_none, mVar, gJc_ap, opN, opB, and_self, true_and, and_true, if_true, if_false, Bool.true_or, Bool.not_true, Bool.not_false, eq_self, tup3, b2, b3, b3', z3, Option.bind_some, tup_lst new_g]
    have : D.tup [.str "branch", .int 0, .int 1] :: ins.map eI = (mk "branch" [0, 1] :: ins).map eI := rfl
    rw [this]
    refine fin_ d3.new.new ((F3.trans Fr.new).trans Fr.new) (by simp; omega) fun i hi => ?_
    rcases List.mem_cons.mp hi with rfl | hi
    · exact OkL.ok (fs := ["register", "place"]) ⟨p_reg (by decide) (by decide), p_place (by decide) (by simp; omega), trivial⟩ rfl (by decide)
    · exact h3 i hi _
  | false =>
  have last_ : CodeOk vars lk nc r l s (.ok (.tup (ins.map eI)) s3) := fin_ d3 F3 (by omega) fun i hi => h3 i hi _
  have gt0 : opC .gt (.int lk) (.int 0) s3 = some (.bl (decide (0 < (lk : Int))), s3) := gt_int _ _ _
  have five : ∀ (x : Bool), x = false ∨ x = true := by decide
  by_cases hk : (0 : Int) < lk
  · simp only [fin_nx, fin_rt, fin_ex, ofO_some, ofO_none, asB_bl, asI_int, truR_bl, outS_some, outE_some, outO_some, R.bind_ok, R.bind_ex, R.bind_bad, R.to_ok, R.to_ex, R.to_bad, Out.seq_nx, Out.seq_rt, Out.seq_bk, Out.seq_ct, Out.seq_ex, Out.seq_bad, cond_true, cond_false, gam_gl, gam_ncls, gam_init, gam_kd, List.getElem?_cons_zero, List.getElem?_cons_succ, List.set_cons_zero, List.set_cons_succ, List.cons_append, List.nil_append, k2_ap, gBin_ap, gCmp_ap, gCmpT_ap, gNeg_ap, gCh3_ap, gCh2_ap, gCh_ap, gCh3T_ap, gCh2T_ap, gChT_ap, gAnd2_ap, gAnd_ap, gOr2_ap, gOr_ap, gNot2_ap, gNot_ap, gIte_ap, gIx_ap, gSl2_ap, gSl1_ap, gSl_ap, gRev_ap, gFld_ap, gMk2_ap, gMk_ap, gMt2_ap, gMt_ap, gBf_ap, gBm2_ap, gBm_ap, gIsi_ap, gLc_ap, gStr_ap, gKget_ap, gKin_ap, gCo2_ap, gCo_ap, gOs2_ap, gOs_ap, gRn1_ap, gRn3_ap, gRn2_ap, gRn_ap, gZp_ap, gAndT_ap, gOrT_ap, gNotT_ap, gJ_ap, sNx_ap, sSet_ap, sSetT_ap, sPar2_ap, sPar1_ap, sI3_ap, sI2_ap, sI1_ap, sF2_ap, sF1_ap, sN2_ap, sN1_ap, sA3_ap, sA2_ap, sA1_ap, sR_ap, sIff_ap, sFr_ap, e_var, e_cst, e_glob, e_bin, e_neg, e_cmp, e_chain, e_and, e_or, e_not, e_ite, e_ix, e_sl, e_rev, e_tup, e_lst, e_dnewK, e_dnewT, e_fld, e_call, e_make, e_meth, e_bf, e_bm, e_isi, e_lc, e_fst, e_fmt, e_kget, e_kin, gDk_ap, gDr_ap, gDv_ap, keyR_str, keyR_int, e_disp, d_nil, d_cons, d1_cons, e_nil, e_cons, j_nil, j_cons, o_none, o_some, c_none, c_some, i_seq, i_rng1, i_rng2, i_zp, i_enm, i_keys, t_cmp, t_chain, t_and, t_or, t_not, t_var, t_ix, t_call, t_meth, t_isi, t_kin, t_fld, t_bf, s_nil, s_cons, s_pass, s_doc, s_brk, s_cnt, s_retN, s_expr, s_asg, s_asgL, s_asgT, s_par, s_asgI, s_asgF, s_augN, s_augF, s_ret, s_iff, s_whl, s_for, s_tryN, strR_str, Option.getD_some, Option.getD_none, Option.isSome_some, Option.isSome_none, mVar, gJc_ap, opN, opB, and_self, true_and, and_true, if_true, if_false, Bool.true_or, Bool.not_true, Bool.not_false, eq_self, lt_int, x1, gt0, decide_eq_true hk]
    by_cases c3 : n3 % 12 < 6
    · rw [decide_eq_true c3]
      obtain ⟨n4, s4, e4, d4, f4⟩ := draw (k := k + 2) (fuel := fuel) d3
      have b2 := lst_n (xs := [.tup [.str "lock", .int (n4 % lk)]]) s4 (by show 1 ≤ 100; decide)
      have h4 : s4.g s.n = .lst (ins.map eI) := (f4.eq s.n lt3 (Nat.ne_of_gt hr)).trans h1
      have lt4 := Nat.lt_of_lt_of_le lt3 f4.le
      have b1 := sl_lst (s := s4.new (.lst [.tup [.str "lock", .int (n4 % lk)]])) (j := 2) (new_at lt4 h4)
      obtain ⟨s5, hS⟩ : ∃ s5, s5 = (s4.new (.lst [.tup [.str "lock", .int (n4 % lk)]])).new (.lst ((ins.map eI).take 2)) := ⟨_, rfl⟩
      have b1 : slO (.ref s.n) none (some 2) (s4.new (.lst [.tup [.str "lock", .int (n4 % lk)]])) = some (.ref (s4.new (.lst [.tup [.str "lock", .int (n4 % lk)]])).n, s5) := by rw [hS]; exact b1
      have b3 := lo (s := s5) (r := s4.n) (xs := [.tup [.str "lock", .int (n4 % lk)]]) (by rw [hS]; exact new_at (Nat.lt_succ_self _) new_g)
      have b3' := lo (s := s5) (r := (s4.new (.lst [.tup [.str "lock", .int (n4 % lk)]])).n) (xs := (ins.map eI).take 2) (by rw [hS]; exact new_g)
      have z3 : [D.tup [.str "lock", .int (n4 % lk)]].length + ((ins.map eI).take 2).length ≤ sizeLine := sz_ge (by simp; omega)
      have d5 : Dr s5 r l := by rw [hS]; exact d4.new.new
      have f5 : Fr (· = r) s4 s5 := by rw [hS]; exact Fr.new.trans Fr.new
      obtain ⟨n6, s6, e6, d6, f6⟩ := draw (k := k + 2) (fuel := fuel) (d5.new (o := .lst (.tup [.str "lock", .int (n4 % lk)] :: (ins.map eI).take 2)))
      have h6 : s6.g s5.n = .lst (.tup [.str "lock", .int (n4 % lk)] :: (ins.map eI).take 2) := (f6.eq s5.n (Nat.lt_succ_self _) (Nat.ne_of_gt d5.hr)).trans new_g
      have lt6 : s5.n < s6.n := Nat.lt_of_lt_of_le (Nat.lt_succ_self _) f6.le
      have b4 := lst_n (xs := [.tup [.str "unlock", .int (n6 % lk)]]) s6 (by show 1 ≤ 100; decide)
      have b5 := lo (s := s6.new (.lst [.tup [.str "unlock", .int (n6 % lk)]])) (new_at lt6 h6)
      have b5' := lo (s := s6.new (.lst [.tup [.str "unlock", .int (n6 % lk)]])) (r := s6.n) new_g
      have z5 : (D.tup [.str "lock", .int (n4 % lk)] :: (ins.map eI).take 2).length + [D.tup [.str "unlock", .int (n6 % lk)]].length ≤ sizeLine := sz_ge (by simp; omega)
      simp only [fin_nx, fin_rt, fin_ex, ofO_some, ofO_none, asB_bl, asI_int, truR_bl, outS_some, outE_some, outO_some, R.bind_ok, R.bind_ex, R.bind_bad, R.to_ok, R.to_ex, R.to_bad, Out.seq_nx, Out.seq_rt, Out.seq_bk, Out.seq_ct, Out.seq_ex, Out.seq_bad, cond_true, cond_false, gam_gl, gam_ncls, gam_init, gam_kd, List.getElem?_cons_zero, List.getElem?_cons_succ, List.set_cons_zero, List.set_cons_succ, List.cons_append, List.nil_append, k2_ap, gBin_ap, gCmp_ap, gCmpT_ap, gNeg_ap, gCh3_ap, gCh2_ap, gCh_ap, gCh3T_ap, gCh2T_ap, gChT_ap, gAnd2_ap, gAnd_ap, gOr2_ap, gOr_ap, gNot2_ap, gNot_ap, gIte_ap, gIx_ap, gSl2_ap, gSl1_ap, gSl_ap, gRev_ap, gFld_ap, gMk2_ap, gMk_ap, gMt2_ap, gMt_ap, gBf_ap, gBm2_ap, gBm_ap, gIsi_ap, gLc_ap, gStr_ap, gKget_ap, gKin_ap, gCo2_ap, gCo_ap, gOs2_ap, gOs_ap, gRn1_ap, gRn3_ap, gRn2_ap, gRn_ap, gZp_ap, gAndT_ap, gOrT_ap, gNotT_ap, gJ_ap, sNx_ap, sSet_ap, sSetT_ap, sPar2_ap, sPar1_ap, sI3_ap, sI2_ap, sI1_ap, sF2_ap, sF1_ap, sN2_ap, sN1_ap, sA3_ap, sA2_ap, sA1_ap, sR_ap, sIff_ap, sFr_ap, e_var, e_cst, e_glob, e_bin, e_neg, e_cmp, e_chain, e_and, e_or, e_not, e_ite, e_ix, e_sl, e_rev, e_tup, e_lst, e_dnewK, e_dnewT, e_fld, e_call, e_make, e_meth, e_bf, e_bm, e_isi, e_lc, e_fst, e_fmt, e_kget, e_kin, gDk_ap, gDr_ap, gDv_ap, keyR_str, keyR_int, e_disp, d_nil, d_cons, d1_cons, e_nil, e_cons, j_nil, j_cons, o_none, o_some, c_none, c_some, i_seq, i_rng1, i_rng2, i_zp, i_enm, i_keys, t_cmp, t_chain, t_and, t_or, t_not, t_var, t_ix, t_call, t_meth, t_isi, t_kin, t_fld, t_bf, s_nil, s_cons, s_pass, s_doc, s_brk, s_cnt, s_retN, s_expr, s_asg, s_asgL, s_asgT, s_par, s_asgI, s_asgF, s_augN, s_augF, s_ret, s_iff, s_whl, s_for, s_tryN, strR_str, Option.getD_some, Option.getD_none, Option.isSome_some, Option.isSome_none, mVar, gJc_ap, opN, opB, and_self, true_and, and_true, if_true, if_false, Bool.true_or, Bool.not_true, Bool.not_false, eq_self, e4, x1, hk, tup2, b2, b1, b3, b3', z3, Option.bind_some, e6, b4, b5, b5', z5, tup_lst new_g]
      have : [D.tup [.str "lock", .int (n4 % lk)]] ++ (ins.map eI).take 2 ++ [.tup [.str "unlock", .int (n6 % lk)]] = (mk "lock" [n4 % lk] :: (ins.take 2 ++ [mk "unlock" [n6 % lk]])).map eI := by simp [eIns]
      simp only [List.cons_append, List.nil_append] at this
      rw [this]
      refine fin_ d6.new.new (((((F3.trans f4).trans f5).trans Fr.new).trans f6).trans (Fr.new.trans Fr.new)) (by simp; omega) fun i hi => ?_
      rcases List.mem_cons.mp hi with rfl | hi
      · exact OkL.ok (fs := ["lock"]) ⟨p_lock (mod_nn n4 hk) (mod_lt n4 hk), trivial⟩ rfl (by decide)
      · rcases List.mem_append.mp hi with hi | hi
        · exact h3 i (List.mem_of_mem_take hi) _
        · cases List.mem_singleton.mp hi
          exact OkL.ok (fs := ["lock"]) ⟨p_lock (mod_nn n6 hk) (mod_lt n6 hk), trivial⟩ rfl (by decide)
    · rw [decide_eq_false c3]
      simp only [fin_nx, fin_rt, fin_ex, ofO_some, ofO_none, asB_bl, asI_int, truR_bl, outS_some, outE_some, outO_some, R.bind_ok, R.bind_ex, R.bind_bad, R.to_ok, R.to_ex, R.to_bad, Out.seq_nx, Out.seq_rt, Out.seq_bk, Out.seq_ct, Out.seq_ex, Out.seq_bad, cond_true, cond_false, gam_gl, gam_ncls, gam_init, gam_kd, List.getElem?_cons_zero, List.getElem?_cons_succ, List.set_cons_zero, List.set_cons_succ, List.cons_append, List.nil_append, k2_ap, gBin_ap, gCmp_ap, gCmpT_ap, gNeg_ap, gCh3_ap, gCh2_ap, gCh_ap, gCh3T_ap, gCh2T_ap, gChT_ap, gAnd2_ap, gAnd_ap, gOr2_ap, gOr_ap, gNot2_ap, gNot_ap, gIte_ap, gIx_ap, gSl2_ap, gSl1_ap, gSl_ap, gRev_ap, gFld_ap, gMk2_ap, gMk_ap, gMt2_ap, gMt_ap, gBf_ap, gBm2_ap, gBm_ap, gIsi_ap, gLc_ap, gStr_ap, gKget_ap, gKin_ap, gCo2_ap, gCo_ap, gOs2_ap, gOs_ap, gRn1_ap, gRn3_ap, gRn2_ap, gRn_ap, gZp_ap, gAndT_ap, gOrT_ap, gNotT_ap, gJ_ap, sNx_ap, sSet_ap, sSetT_ap, sPar2_ap, sPar1_ap, sI3_ap, sI2_ap, sI1_ap, sF2_ap, sF1_ap, sN2_ap, sN1_ap, sA3_ap, sA2_ap, sA1_ap, sR_ap, sIff_ap, sFr_ap, e_var, e_cst, e_glob, e_bin, e_neg, e_cmp, e_chain, e_and, e_or, e_not, e_ite, e_ix, e_sl, e_rev, e_tup, e_lst, e_dnewK, e_dnewT, e_fld, e_call, e_make, e_meth, e_bf, e_bm, e_isi, e_lc, e_fst, e_fmt, e_kget, e_kin, gDk_ap, gDr_ap, gDv_ap, keyR_str, keyR_int, e_disp, d_nil, d_cons, d1_cons, e_nil, e_cons, j_nil, j_cons, o_none, o_some, c_none, c_some, i_seq, i_rng1, i_rng2, i_zp, i_enm, i_keys, t_cmp, t_chain, t_and, t_or, t_not, t_var, t_ix, t_call, t_meth, t_isi, t_kin, t_fld, t_bf, s_nil, s_cons, s_pass, s_doc, s_brk, s_cnt, s_retN, s_expr, s_asg, s_asgL, s_asgT, s_par, s_asgI, s_asgF, s_augN, s_augF, s_ret, s_iff, s_whl, s_for, s_tryN, strR_str, Option.getD_some, Option.getD_none, Option.isSome_some, Option.isSome_none, mVar, gJc_ap, opN, opB, and_self, true_and, and_true, if_true, if_false, Bool.true_or, Bool.not_true, Bool.not_false, eq_self, int_eq, x1]
      cases c4 : (n3 % 12 == 6) with
      | false =>
        simp only [fin_nx, fin_rt, fin_ex, ofO_some, ofO_none, asB_bl, asI_int, truR_bl, outS_some, outE_some, outO_some, R.bind_ok, R.bind_ex, R.bind_bad, R.to_ok, R.to_ex, R.to_bad, Out.seq_nx, Out.seq_rt, Out.seq_bk, Out.seq_ct, Out.seq_ex, Out.seq_bad, cond_true, cond_false, gam_gl, gam_ncls, gam_init, gam_kd, List.getElem?_cons_zero, List.getElem?_cons_succ, List.set_cons_zero, List.set_cons_succ, List.cons_append, List.nil_append, k2_ap, gBin_ap, gCmp_ap, gCmpT_ap, gNeg_ap, gCh3_ap, gCh2_ap, gCh_ap, gCh3T_ap, gCh2T_ap, gChT_ap, gAnd2_ap, gAnd_ap, gOr2_ap, gOr_ap, gNot2_ap, gNot_ap, gIte_ap, gIx_ap, gSl2_ap, gSl1_ap, gSl_ap, gRev_ap, gFld_ap, gMk2_ap, gMk_ap, gMt2_ap, gMt_ap, gBf_ap, gBm2_ap, gBm_ap, gIsi_ap, gLc_ap, gStr_ap, gKget_ap, gKin_ap, gCo2_ap, gCo_ap, gOs2_ap, gOs_ap, gRn1_ap, gRn3_ap, gRn2_ap, gRn_ap, gZp_ap, gAndT_ap, gOrT_ap, gNotT_ap, gJ_ap, sNx_ap, sSet_ap, sSetT_ap, sPar2_ap, sPar1_ap, sI3_ap, sI2_ap, sI1_ap, sF2_ap, sF1_ap, sN2_ap, sN1_ap, sA3_ap, sA2_ap, sA1_ap, sR_ap, sIff_ap, sFr_ap, e_var, e_cst, e_glob, e_bin, e_neg, e_cmp, e_chain, e_and, e_or, e_not, e_ite, e_ix, e_sl, e_rev, e_tup, e_lst, e_dnewK, e_dnewT, e_fld, e_call, e_make, e_meth, e_bf, e_bm, e_isi, e_lc, e_fst, e_fmt, e_kget, e_kin, gDk_ap, gDr_ap, gDv_ap, keyR_str, keyR_int, e_disp, d_nil, d_cons, d1_cons, e_nil, e_cons, j_nil, j_cons, o_none, o_some, c_none, c_some, i_seq, i_rng1, i_rng2, i_zp, i_enm, i_keys, t_cmp, t_chain, t_and, t_or, t_not, t_var, t_ix, t_call, t_meth, t_isi, t_kin, t_fld, t_bf, s_nil, s_cons, s_pass, s_doc, s_brk, s_cnt, s_retN, s_expr, s_asg, s_asgL, s_asgT, s_par, s_asgI, s_asgF, s_augN, s_augF, s_ret, s_iff, s_whl, s_for, s_tryN, strR_str, Option.getD_some, Option.getD_none, Option.isSome_some, Option.isSome_none, mVar, gJc_ap, opN, opB, and_self, true_and, and_true, if_true, if_false, Bool.true_or, Bool.not_true, Bool.not_false, eq_self, tup_lst h1]
        exact last_
      | true =>
        simp only [fin_nx, fin_rt, fin_ex, ofO_some, ofO_none, asB_bl, asI_int, truR_bl, outS_some, outE_some, outO_some, R.bind_ok, R.bind_ex, R.bind_bad, R.to_ok, R.to_ex, R.to_bad, Out.seq_nx, Out.seq_rt, Out.seq_bk, Out.seq_ct, Out.seq_ex, Out.seq_bad, cond_true, cond_false, gam_gl, gam_ncls, gam_init, gam_kd, List.getElem?_cons_zero, List.getElem?_cons_succ, List.set_cons_zero, List.set_cons_succ, List.cons_append, List.nil_append, k2_ap, gBin_ap, gCmp_ap, gCmpT_ap, gNeg_ap, gCh3_ap, gCh2_ap, gCh_ap, gCh3T_ap, gCh2T_ap, gChT_ap, gAnd2_ap, gAnd_ap, gOr2_ap, gOr_ap, gNot2_ap, gNot_ap, gIte_ap, gIx_ap, gSl2_ap, gSl1_ap, gSl_ap, gRev_ap, gFld_ap, gMk2_ap, gMk_ap, gMt2_ap, gMt_ap, gBf_ap, gBm2_ap, gBm_ap, gIsi_ap, gLc_ap, gStr_ap, gKget_ap, gKin_ap, gCo2_ap, gCo_ap, gOs2_ap, gOs_ap, gRn1_ap, gRn3_ap, gRn2_ap, gRn_ap, gZp_ap, gAndT_ap, gOrT_ap, gNotT_ap, gJ_ap, sNx_ap, sSet_ap, sSetT_ap, sPar2_ap, sPar1_ap, sI3_ap, sI2_ap, sI1_ap, sF2_ap, sF1_ap, sN2_ap, sN1_ap, sA3_ap, sA2_ap, sA1_ap, sR_ap, sIff_ap, sFr_ap, e_var, e_cst, e_glob, e_bin, e_neg, e_cmp, e_chain, e_and, e_or, e_not, e_ite, e_ix, e_sl, e_rev, e_tup, e_lst, e_dnewK, e_dnewT, e_fld, e_call, e_make, e_meth, e_bf, e_bm, e_isi, e_lc, e_fst, e_fmt, e_kget, e_kin, gDk_ap, gDr_ap, gDv_ap, keyR_str, keyR_int, e_disp, d_nil, d_cons, d1_cons, e_nil, e_cons, j_nil, j_cons, o_none, o_some, c_none, c_some, i_seq, i_rng1, i_rng2, i_zp, i_enm, i_keys, t_cmp, t_chain, t_and, t_or, t_not, t_var, t_ix, t_call, t_meth, t_isi, t_kin, t_fld, t_bf, s_nil, s_cons, s_pass, s_doc, s_brk, s_cnt, s_retN, s_expr, s_asg, s_asgL, s_asgT, s_par, s_asgI, s_asgF, s_augN, s_augF, s_ret, s_iff, s_whl, s_for, s_tryN, strR_str, Option.getD_some, Option.getD_none, Option.isSome_some, Option.isSome_none, mVar, gJc_ap, opN, opB, and_self, true_and, and_true, if_true, if_false, Bool.true_or, Bool.not_true, Bool.not_false, eq_self, int_eq, x1]
        cases c5 : ((lk : Int) == 2) with
        | false =>
          simp only [fin_nx, fin_rt, fin_ex, ofO_some, ofO_none, asB_bl, asI_int, truR_bl, outS_some, outE_some, outO_some, R.bind_ok, R.bind_ex, R.bind_bad, R.to_ok, R.to_ex, R.to_bad, Out.seq_nx, Out.seq_rt, Out.seq_bk, Out.seq_ct, Out.seq_ex, Out.seq_bad, cond_true, cond_false, gam_gl, gam_ncls, gam_init, gam_kd, List.getElem?_cons_zero, List.getElem?_cons_succ, List.set_cons_zero, List.set_cons_succ, List.cons_append, List.nil_append, k2_ap, gBin_ap, gCmp_ap, gCmpT_ap, gNeg_ap, gCh3_ap, gCh2_ap, gCh_ap, gCh3T_ap, gCh2T_ap, gChT_ap, gAnd2_ap, gAnd_ap, gOr2_ap, gOr_ap, gNot2_ap, gNot_ap, gIte_ap, gIx_ap, gSl2_ap, gSl1_ap, gSl_ap, gRev_ap, gFld_ap, gMk2_ap, gMk_ap, gMt2_ap, gMt_ap, gBf_ap, gBm2_ap, gBm_ap, gIsi_ap, gLc_ap, gStr_ap, gKget_ap, gKin_ap, gCo2_ap, gCo_ap, gOs2_ap, gOs_ap, gRn1_ap, gRn3_ap, gRn2_ap, gRn_ap, gZp_ap, gAndT_ap, gOrT_ap, gNotT_ap, gJ_ap, sNx_ap, sSet_ap, sSetT_ap, sPar2_ap, sPar1_ap, sI3_ap, sI2_ap, sI1_ap, sF2_ap, sF1_ap, sN2_ap, sN1_ap, sA3_ap, sA2_ap, sA1_ap, sR_ap, sIff_ap, sFr_ap, e_var, e_cst, e_glob, e_bin, e_neg, e_cmp, e_chain, e_and, e_or, e_not, e_ite, e_ix, e_sl, e_rev, e_tup, e_lst, e_dnewK, e_dnewT, e_fld, e_call, e_make, e_meth, e_bf, e_bm, e_isi, e_lc, e_fst, e_fmt, e_kget, e_kin, gDk_ap, gDr_ap, gDv_ap, keyR_str, keyR_int, e_disp, d_nil, d_cons, d1_cons, e_nil, e_cons, j_nil, j_cons, o_none, o_some, c_none, c_some, i_seq, i_rng1, i_rng2, i_zp, i_enm, i_keys, t_cmp, t_chain, t_and, t_or, t_not, t_var, t_ix, t_call, t_meth, t_isi, t_kin, t_fld, t_bf, s_nil, s_cons, s_pass, s_doc, s_brk, s_cnt, s_retN, s_expr, s_asg, s_asgL, s_asgT, s_par, s_asgI, s_asgF, s_augN, s_augF, s_ret, s_iff, s_whl, s_for, s_tryN, strR_str, Option.getD_some, Option.getD_none, Option.isSome_some, Option.isSome_none, mVar, gJc_ap, opN, opB, and_self, true_and, and_true, if_true, if_false, Bool.true_or, Bool.not_true, Bool.not_false, eq_self, tup_lst h1]
          exact last_
        | true =>
          obtain ⟨n4, s4, e4, d4, f4⟩ := draw (k := k + 2) (fuel := fuel) d3
          have p2 : (0 : Int) < 2 := by decide
          have b2 := lst_n (xs := [.tup [.str "lock", .int (n4 % 2)], .tup [.str "lock", .int (1 - n4 % 2)], .tup [.str "unlock", .int (1 - n4 % 2)], .tup [.str "unlock", .int (n4 % 2)]]) s4 (by show 4 ≤ 100; decide)
          simp only [fin_nx, fin_rt, fin_ex, ofO_some, ofO_none, asB_bl, asI_int, truR_bl, outS_some, outE_some, outO_some, R.bind_ok, R.bind_ex, R.bind_bad, R.to_ok, R.to_ex, R.to_bad, Out.seq_nx, Out.seq_rt, Out.seq_bk, Out.seq_ct, Out.seq_ex, Out.seq_bad, cond_true, cond_false, gam_gl, gam_ncls, gam_init, gam_kd, List.getElem?_cons_zero, List.getElem?_cons_succ, List.set_cons_zero, List.set_cons_succ, List.cons_append, List.nil_append, k2_ap, gBin_ap, gCmp_ap, gCmpT_ap, gNeg_ap, gCh3_ap, gCh2_ap, gCh_ap, gCh3T_ap, gCh2T_ap, gChT_ap, gAnd2_ap, gAnd_ap, gOr2_ap, gOr_ap, gNot2_ap, gNot_ap, gIte_ap, gIx_ap, gSl2_ap, gSl1_ap, gSl_ap, gRev_ap, gFld_ap, gMk2_ap, gMk_ap, gMt2_ap, gMt_ap, gBf_ap, gBm2_ap, gBm_ap, gIsi_ap, gLc_ap, gStr_ap, gKget_ap, gKin_ap, gCo2_ap, gCo_ap, gOs2_ap, gOs_ap, gRn1_ap, gRn3_ap, gRn2_ap, gRn_ap, gZp_ap, gAndT_ap, gOrT_ap, gNotT_ap, gJ_ap, sNx_ap, sSet_ap, sSetT_ap, sPar2_ap, sPar1_ap, sI3_ap, sI2_ap, sI1_ap, sF2_ap, sF1_ap, sN2_ap, sN1_ap, sA3_ap, sA2_ap, sA1_ap, sR_ap, sIff_ap, sFr_ap, e_var, e_cst, e_glob, e_bin, e_neg, e_cmp, e_chain, e_and, e_or, e_not, e_ite, e_ix, e_sl, e_rev, e_tup, e_lst, e_dnewK, e_dnewT, e_fld, e_call, e_make, e_meth, e_bf, e_bm, e_isi, e_lc, e_fst, e_fmt, e_kget, e_kin, gDk_ap, gDr_ap, gDv_ap, keyR_str, keyR_int, e_disp, d_nil, d_cons, d1_cons, e_nil, e_cons, j_nil, j_cons, o_none, o_some, c_none, c_some, i_seq, i_rng1, i_rng2, i_zp, i_enm, i_keys, t_cmp, t_chain, t_and, t_or, t_not, t_var, t_ix, t_call, t_meth, t_isi, t_kin, t_fld, t_bf, s_nil, s_cons, s_pass, s_doc, s_brk, s_cnt, s_retN, s_expr, s_asg, s_asgL, s_asgT, s_par, s_asgI, s_asgF, s_augN, s_augF, s_ret, s_iff, s_whl, s_for, s_tryN, strR_str, Option.getD_some, Option.getD_none, Option.isSome_some, Option.isSome_none, mVar, gJc_ap, opN, opB, and_self, true_and, and_true, if_true, if_false, Bool.true_or, Bool.not_true, Bool.not_false, eq_self, e4, p2, tup2, b2, tup_lst new_g]
          have a := mod_nn n4 p2
          have b := mod_lt n4 p2
          have e2 : (lk : Int) = 2 := by simpa using c5
          have ok : ∀ w v, w = "lock" ∨ w = "unlock" → 0 ≤ v → v < 2 → ∀ pl, OkIns FM vars lk nc pl w [v] := by
            intro w v hw h0 h1 pl
            rcases hw with rfl | rfl <;> exact OkL.ok (fs := ["lock"]) ⟨p_lock h0 (by omega), trivial⟩ rfl (by decide)
          refine fin_ (c := [("lock", [n4 % 2]), ("lock", [1 - n4 % 2]), ("unlock", [1 - n4 % 2]), ("unlock", [n4 % 2])]) d4.new ((F3.trans f4).trans Fr.new) (by simp) fun i hi => ?_
          simp only [List.mem_cons, List.not_mem_nil, or_false] at hi
          rcases hi with rfl | rfl | rfl | rfl
          · exact ok _ _ (.inl rfl) (by omega) (by omega) _
          · exact ok _ _ (.inl rfl) (by omega) (by omega) _
          · exact ok _ _ (.inr rfl) (by omega) (by omega) _
          · exact ok _ _ (.inr rfl) (by omega) (by omega) _
  · have e0 : (lk : Int) = 0 := by omega
    simp only [fin_nx, fin_rt, fin_ex, ofO_some, ofO_none, asB_bl, asI_int, truR_bl, outS_some, outE_some, outO_some, R.bind_ok, R.bind_ex, R.bind_bad, R.to_ok, R.to_ex, R.to_bad, Out.seq_nx, Out.seq_rt, Out.seq_bk, Out.seq_ct, Out.seq_ex, Out.seq_bad, cond_true, cond_false, gam_gl, gam_ncls, gam_init, gam_kd, List.getElem?_cons_zero, List.getElem?_cons_succ, List.set_cons_zero, List.set_cons_succ, List.cons_append, List.nil_append, k2_ap, gBin_ap, gCmp_ap, gCmpT_ap, gNeg_ap, gCh3_ap, gCh2_ap, gCh_ap, gCh3T_ap, gCh2T_ap, gChT_ap, gAnd2_ap, gAnd_ap, gOr2_ap, gOr_ap, gNot2_ap, gNot_ap, gIte_ap, gIx_ap, gSl2_ap, gSl1_ap, gSl_ap, gRev_ap, gFld_ap, gMk2_ap, gMk_ap, gMt2_ap, gMt_ap, gBf_ap, gBm2_ap, gBm_ap, gIsi_ap, gLc_ap, gStr_ap, gKget_ap, gKin_ap, gCo2_ap, gCo_ap, gOs2_ap, gOs_ap, gRn1_ap, gRn3_ap, gRn2_ap, gRn_ap, gZp_ap, gAndT_ap, gOrT_ap, gNotT_ap, gJ_ap, sNx_ap, sSet_ap, sSetT_ap, sPar2_ap, sPar1_ap, sI3_ap, sI2_ap, sI1_ap, sF2_ap, sF1_ap, sN2_ap, sN1_ap, sA3_ap, sA2_ap, sA1_ap, sR_ap, sIff_ap, sFr_ap, e_var, e_cst, e_glob, e_bin, e_neg, e_cmp, e_chain, e_and, e_or, e_not, e_ite, e_ix, e_sl, e_rev, e_tup, e_lst, e_dnewK, e_dnewT, e_fld, e_call, e_make, e_meth, e_bf, e_bm, e_isi, e_lc, e_fst, e_fmt, e_kget, e_kin, gDk_ap, gDr_ap, gDv_ap, keyR_str, keyR_int, e_disp, d_nil, d_cons, d1_cons, e_nil, e_cons, j_nil, j_cons, o_none, o_some, c_none, c_some, i_seq, i_rng1, i_rng2, i_zp, i_enm, i_keys, t_cmp, t_chain, t_and, t_or, t_not, t_var, t_ix, t_call, t_meth, t_isi, t_kin, t_fld, t_bf, s_nil, s_cons, s_pass, s_doc, s_brk, s_cnt, s_retN, s_expr, s_asg, s_asgL, s_asgT, s_par, s_asgI, s_asgF, s_augN, s_augF, s_ret, s_iff, s_whl, s_for, s_tryN, strR_str, Option.getD_some, Option.getD_none, Option.isSome_some, Option.isSome_none, mVar, gJc_ap, opN, opB, and_self, true_and, and_true, if_true, if_false, Bool.true_or, Bool.not_true, Bool.not_false, eq_self, lt_int, x1, gt0, decide_eq_false hk]
    have z2 : ((lk : Int) == 2) = false := by rw [e0]; rfl
    rcases five (decide (n3 % 12 < 6)) with c3 | c3 <;> rw [c3]
    · simp only [fin_nx, fin_rt, fin_ex, ofO_some, ofO_none, asB_bl, asI_int, truR_bl, outS_some, outE_some, outO_some, R.bind_ok, R.bind_ex, R.bind_bad, R.to_ok, R.to_ex, R.to_bad, Out.seq_nx, Out.seq_rt, Out.seq_bk, Out.seq_ct, Out.seq_ex, Out.seq_bad, cond_true, cond_false, gam_gl, gam_ncls, gam_init, gam_kd, List.getElem?_cons_zero, List.getElem?_cons_succ, List.set_cons_zero, List.set_cons_succ, List.cons_append, List.nil_append, k2_ap, gBin_ap, gCmp_ap, gCmpT_ap, gNeg_ap, gCh3_ap, gCh2_ap, gCh_ap, gCh3T_ap, gCh2T_ap, gChT_ap, gAnd2_ap, gAnd_ap, gOr2_ap, gOr_ap, gNot2_ap, gNot_ap, gIte_ap, gIx_ap, gSl2_ap, gSl1_ap, gSl_ap, gRev_ap, gFld_ap, gMk2_ap, gMk_ap, gMt2_ap, gMt_ap, gBf_ap, gBm2_ap, gBm_ap, gIsi_ap, gLc_ap, gStr_ap, gKget_ap, gKin_ap, gCo2_ap, gCo_ap, gOs2_ap, gOs_ap, gRn1_ap, gRn3_ap, gRn2_ap, gRn_ap, gZp_ap, gAndT_ap, gOrT_ap, gNotT_ap, gJ_ap, sNx_ap, sSet_ap, sSetT_ap, sPar2_ap, sPar1_ap, sI3_ap, sI2_ap, sI1_ap, sF2_ap, sF1_ap, sN2_ap, sN1_ap, sA3_ap, sA2_ap, sA1_ap, sR_ap, sIff_ap, sFr_ap, e_var, e_cst, e_glob, e_bin, e_neg, e_cmp, e_chain, e_and, e_or, e_not, e_ite, e_ix, e_sl, e_rev, e_tup, e_lst, e_dnewK, e_dnewT, e_fld, e_call, e_make, e_meth, e_bf, e_bm, e_isi, e_lc, e_fst, e_fmt, e_kget, e_kin, gDk_ap, gDr_ap, gDv_ap, keyR_str, keyR_int, e_disp, d_nil, d_cons, d1_cons, e_nil, e_cons, j_nil, j_cons, o_none, o_some, c_none, c_some, i_seq, i_rng1, i_rng2, i_zp, i_enm, i_keys, t_cmp, t_chain, t_and, t_or, t_not, t_var, t_ix, t_call, t_meth, t_isi, t_kin, t_fld, t_bf, s_nil, s_cons, s_pass, s_doc, s_brk, s_cnt, s_retN, s_expr, s_asg, s_asgL, s_asgT, s_par, s_asgI, s_asgF, s_augN, s_augF, s_ret, s_iff, s_whl, s_for, s_tryN, strR_str, Option.getD_some, Option.getD_none, Option.isSome_some, Option.isSome_none, mVar, gJc_ap, opN, opB, and_self, true_and, and_true, if_true, if_false, Bool.true_or, Bool.not_true, Bool.not_false, eq_self, int_eq, x1, z2]
      cases (n3 % 12 == 6) <;> simp only [fin_nx, fin_rt, fin_ex, ofO_some, ofO_none, asB_bl, asI_int, truR_bl, outS_some, outE_some, outO_some, R.bind_ok, R.bind_ex, R.bind_bad, R.to_ok, R.to_ex, R.to_bad, Out.seq_nx, Out.seq_rt, Out.seq_bk, Out.seq_ct, Out.seq_ex, Out.seq_bad, cond_true, cond_false, gam_gl, gam_ncls, gam_init, gam_kd, List.getElem?_cons_zero, List.getElem?_cons_succ, List.set_cons_zero, List.set_cons_succ, List.cons_append, List.nil_append, k2_ap, gBin_ap, gCmp_ap, gCmpT_ap, gNeg_ap, gCh3_ap, gCh2_ap, gCh_ap, gCh3T_ap, gCh2T_ap, gChT_ap, gAnd2_ap, gAnd_ap, gOr2_ap, gOr_ap, gNot2_ap, gNot_ap, gIte_ap, gIx_ap, gSl2_ap, gSl1_ap, gSl_ap, gRev_ap, gFld_ap, gMk2_ap, gMk_ap, gMt2_ap, gMt_ap, gBf_ap, gBm2_ap, gBm_ap, gIsi_ap, gLc_ap, gStr_ap, gKget_ap, gKin_ap, gCo2_ap, gCo_ap, gOs2_ap, gOs_ap, gRn1_ap, gRn3_ap, gRn2_ap, gRn_ap, gZp_ap, gAndT_ap, gOrT_ap, gNotT_ap, gJ_ap, sNx_ap, sSet_ap, sSetT_ap, sPar2_ap, sPar1_ap, sI3_ap, sI2_ap, sI1_ap, sF2_ap, sF1_ap, sN2_ap, sN1_ap, sA3_ap, sA2_ap, sA1_ap, sR_ap, sIff_ap, sFr_ap, e_var, e_cst, e_glob, e_bin, e_neg, e_cmp, e_chain, e_and, e_or, e_not, e_ite, e_ix, e_sl, e_rev, e_tup, e_lst, e_dnewK, e_dnewT, e_fld, e_call, e_make, e_meth, e_bf, e_bm, e_isi, e_lc, e_fst, e_fmt, e_kget, e_kin, gDk_ap, gDr_ap, gDv_ap, keyR_str, keyR_int, e_disp, d_nil, d_cons, d1_cons, e_nil, e_cons, j_nil, j_cons, o_none, o_some, c_none, c_some, i_seq, i_rng1, i_rng2, i_zp, i_enm, i_keys, t_cmp, t_chain, t_and, t_or, t_not, t_var, t_ix, t_call, t_meth, t_isi, t_kin, t_fld, t_bf, s_nil, s_cons, s_pass, s_doc, s_brk, s_cnt, s_retN, s_expr, s_asg, s_asgL, s_asgT, s_par, s_asgI, s_asgF, s_augN, s_augF, s_ret, s_iff, s_whl, s_for, s_tryN, strR_str, Option.getD_some, Option.getD_none, Option.isSome_some, Option.isSome_none, mVar, gJc_ap, opN, opB, and_self, true_and, and_true, if_true, if_false, Bool.true_or, Bool.not_true, Bool.not_false, eq_self, int_eq, x1, z2, tup_lst h1] <;> exact last_
    · simp only [fin_nx, fin_rt, fin_ex, ofO_some, ofO_none, asB_bl, asI_int, truR_bl, outS_some, outE_some, outO_some, R.bind_ok, R.bind_ex, R.bind_bad, R.to_ok, R.to_ex, R.to_bad, Out.seq_nx, Out.seq_rt, Out.seq_bk, Out.seq_ct, Out.seq_ex, Out.seq_bad, cond_true, cond_false, gam_gl, gam_ncls, gam_init, gam_kd, List.getElem?_cons_zero, List.getElem?_cons_succ, List.set_cons_zero, List.set_cons_succ, List.cons_append, List.nil_append, k2_ap, gBin_ap, gCmp_ap, gCmpT_ap, gNeg_ap, gCh3_ap, gCh2_ap, gCh_ap, gCh3T_ap, gCh2T_ap, gChT_ap, gAnd2_ap, gAnd_ap, gOr2_ap, gOr_ap, gNot2_ap, gNot_ap, gIte_ap, gIx_ap, gSl2_ap, gSl1_ap, gSl_ap, gRev_ap, gFld_ap, gMk2_ap, gMk_ap, gMt2_ap, gMt_ap, gBf_ap, gBm2_ap, gBm_ap, gIsi_ap, gLc_ap, gStr_ap, gKget_ap, gKin_ap, gCo2_ap, gCo_ap, gOs2_ap, gOs_ap, gRn1_ap, gRn3_ap, gRn2_ap, gRn_ap, gZp_ap, gAndT_ap, gOrT_ap, gNotT_ap, gJ_ap, sNx_ap, sSet_ap, sSetT_ap, sPar2_ap, sPar1_ap, sI3_ap, sI2_ap, sI1_ap, sF2_ap, sF1_ap, sN2_ap, sN1_ap, sA3_ap, sA2_ap, sA1_ap, sR_ap, sIff_ap, sFr_ap, e_var, e_cst, e_glob, e_bin, e_neg, e_cmp, e_chain, e_and, e_or, e_not, e_ite, e_ix, e_sl, e_rev, e_tup, e_lst, e_dnewK, e_dnewT, e_fld, e_call, e_make, e_meth, e_bf, e_bm, e_isi, e_lc, e_fst, e_fmt, e_kget, e_kin, gDk_ap, gDr_ap, gDv_ap, keyR_str, keyR_int, e_disp, d_nil, d_cons, d1_cons, e_nil, e_cons, j_nil, j_cons, o_none, o_some, c_none, c_some, i_seq, i_rng1, i_rng2, i_zp, i_enm, i_keys, t_cmp, t_chain, t_and, t_or, t_not, t_var, t_ix, t_call, t_meth, t_isi, t_kin, t_fld, t_bf, s_nil, s_cons, s_pass, s_doc, s_brk, s_cnt, s_retN, s_expr, s_asg, s_asgL, s_asgT, s_par, s_asgI, s_asgF, s_augN, s_augF, s_ret, s_iff, s_whl, s_for, s_tryN, strR_str, Option.getD_some, Option.getD_none, Option.isSome_some, Option.isSome_none, mVar, gJc_ap, opN, opB, and_self, true_and, and_true, if_true, if_false, Bool.true_or, Bool.not_true, Bool.not_false, eq_self, int_eq, x1, z2]
      cases (n3 % 12 == 6) <;> simp only [fin_nx, fin_rt, fin_ex, ofO_some, ofO_none, asB_bl, asI_int, truR_bl, outS_some, outE_some, outO_some, R.bind_ok, R.bind_ex, R.bind_bad, R.to_ok, R.to_ex, R.to_bad, Out.seq_nx, Out.seq_rt, Out.seq_bk, Out.seq_ct, Out.seq_ex, Out.seq_bad, cond_true, cond_false, gam_gl, gam_ncls, gam_init, gam_kd, List.getElem?_cons_zero, List.getElem?_cons_succ, List.set_cons_zero, List.set_cons_succ, List.cons_append, List.nil_append, k2_ap, gBin_ap, gCmp_ap, gCmpT_ap, gNeg_ap, gCh3_ap, gCh2_ap, gCh_ap, gCh3T_ap, gCh2T_ap, gChT_ap, gAnd2_ap, gAnd_ap, gOr2_ap, gOr_ap, gNot2_ap, gNot_ap, gIte_ap, gIx_ap, gSl2_ap, gSl1_ap, gSl_ap, gRev_ap, gFld_ap, gMk2_ap, gMk_ap, gMt2_ap, gMt_ap, gBf_ap, gBm2_ap, gBm_ap, gIsi_ap, gLc_ap, gStr_ap, gKget_ap, gKin_ap, gCo2_ap, gCo_ap, gOs2_ap, gOs_ap, gRn1_ap, gRn3_ap, gRn2_ap, gRn_ap, gZp_ap, gAndT_ap, gOrT_ap, gNotT_ap, gJ_ap, sNx_ap, sSet_ap, sSetT_ap, sPar2_ap, sPar1_ap, sI3_ap, sI2_ap, sI1_ap, sF2_ap, sF1_ap, sN2_ap, sN1_ap, sA3_ap, sA2_ap, sA1_ap, sR_ap, sIff_ap, sFr_ap, e_var, e_cst, e_glob, e_bin, e_neg, e_cmp, e_chain, e_and, e_or, e_not, e_ite, e_ix, e_sl, e_rev, e_tup, e_lst, e_dnewK, e_dnewT, e_fld, e_call, e_make, e_meth, e_bf, e_bm, e_isi, e_lc, e_fst, e_fmt, e_kget, e_kin, gDk_ap, gDr_ap, gDv_ap, keyR_str, keyR_int, e_disp, d_nil, d_cons, d1_cons, e_nil, e_cons, j_nil, j_cons, o_none, o_some, c_none, c_some, i_seq, i_rng1, i_rng2, i_zp, i_enm, i_keys, t_cmp, t_chain, t_and, t_or, t_not, t_var, t_ix, t_call, t_meth, t_isi, t_kin, t_fld, t_bf, s_nil, s_cons, s_pass, s_doc, s_brk, s_cnt, s_retN, s_expr, s_asg, s_asgL, s_asgT, s_par, s_asgI, s_asgF, s_augN, s_augF, s_ret, s_iff, s_whl, s_for, s_tryN, strR_str, Option.getD_some, Option.getD_none, Option.isSome_some, Option.isSome_none, mVar, gJc_ap, opN, opB, and_self, true_and, and_true, if_true, if_false, Bool.true_or, Bool.not_true, Bool.not_false, eq_self, int_eq, x1, z2, tup_lst h1] <;> exact last_
theorem i24 : Is T 24 8 4 b24 := ⟨d24, rfl, rfl, rfl, rfl⟩
theorem code {k fuel : Nat} {s : Sto} {r l lk nc : Nat} {vars : List (Int × Bool)} (d : Dr s r l) (hn : 0 < nc) : CodeOk vars lk nc r l s ((T.gam fuel (k + 5)).fn 24 [.ref r, .tup [.tup (vars.map eVar), .int lk], .int nc, .int 4] s) := by
  rw [i24.call rfl]
  show CodeOk vars lk nc r l s (svs _ _ b24 [some (.ref r), some (.tup [.tup (vars.map eVar), .int lk]), some (.int nc), some (.int 4), none, none, none, none] s).fin
  have y0 := lst_n (xs := []) s (by show 0 ≤ 100; decide)
  have hr := d.hr
  have hl := d.hl
  have g0 : Gr vars lk nc r l s 0 (s.new (.lst [])) := ⟨d.keep (Fr.new (X := fun _ => False)) id id, Fr.new, Nat.lt_succ_self _, [], new_g, Nat.le_refl _, fun _ h => absurd h List.not_mem_nil⟩
  obtain ⟨n1, s1, e1, d1, f1⟩ := draw (k := k + 2) (fuel := fuel) g0.d
  have g1 := g0.draw hr d1 f1
  have p5 : (0 : Int) < 5 := by decide
  obtain ⟨m, hm, hm5⟩ : ∃ m : Nat, n1 % 5 = (m : Int) ∧ m < 5 := by
    have a := mod_nn n1 p5
    have b := mod_lt n1 p5
    exact ⟨(n1 % 5).toNat, (Int.toNat_of_nonneg a).symm, by omega⟩
  have y1 := rng_nat (n := m) (s := s1) (by omega)
  unfold b24
  simp only [fin_nx, fin_rt, fin_ex, ofO_some, ofO_none, asB_bl, asI_int, truR_bl, outS_some, outE_some, outO_some, R.bind_ok, R.bind_ex, R.bind_bad, R.to_ok, R.to_ex, R.to_bad, Out.seq_nx, Out.seq_rt, Out.seq_bk, Out.seq_ct, Out.seq_ex, Out.seq_bad, cond_true, cond_false, gam_gl, gam_ncls, gam_init, gam_kd, List.getElem?_cons_zero, List.getElem?_cons_succ, List.set_cons_zero, List.set_cons_succ, List.cons_append, List.nil_append, k2_ap, gBin_ap, gCmp_ap, gCmpT_ap, gNeg_ap, gCh3_ap, gCh2_ap, gCh_ap, gCh3T_ap, gCh2T_ap, gChT_ap, gAnd2_ap, gAnd_ap, gOr2_ap, gOr_ap, gNot2_ap, gNot_ap, gIte_ap, gIx_ap, gSl2_ap, gSl1_ap, gSl_ap, gRev_ap, gFld_ap, gMk2_ap, gMk_ap, gMt2_ap, gMt_ap, gBf_ap, gBm2_ap, gBm_ap, gIsi_ap, gLc_ap, gStr_ap, gKget_ap, gKin_ap, gCo2_ap, gCo_ap, gOs2_ap, gOs_ap, gRn1_ap, gRn3_ap, gRn2_ap, gRn_ap, gZp_ap, gAndT_ap, gOrT_ap, gNotT_ap, gJ_ap, sNx_ap, sSet_ap, sSetT_ap, sPar2_ap, sPar1_ap, sI3_ap, sI2_ap, sI1_ap, sF2_ap, sF1_ap, sN2_ap, sN1_ap, sA3_ap, sA2_ap, sA1_ap, sR_ap, sIff_ap, sFr_ap, e_var, e_cst, e_glob, e_bin, e_neg, e_cmp, e_chain, e_and, e_or, e_not, e_ite, e_ix, e_sl, e_rev, e_tup, e_lst, e_dnewK, e_dnewT, e_fld, e_call, e_make, e_meth, e_bf, e_bm, e_isi, e_lc, e_fst, e_fmt, e_kget, e_kin, gDk_ap, gDr_ap, gDv_ap, keyR_str, keyR_int, e_disp, d_nil, d_cons, d1_cons, e_nil, e_cons, j_nil, j_cons, o_none, o_some, c_none, c_some, i_seq, i_rng1, i_rng2, i_zp, i_enm, i_keys, t_cmp, t_chain, t_and, t_or, t_not, t_var, t_ix, t_call, t_meth, t_isi, t_kin, t_fld, t_bf, s_nil, s_cons, s_pass, s_doc, s_brk, s_cnt, s_retN, s_expr, s_asg, s_asgL, s_asgT, s_par, s_asgI, s_asgF, s_augN, s_augF, s_ret, s_iff, s_whl, s_for, s_tryN, strR_str, Option.getD_some, Option.getD_none, Option.isSome_some, Option.isSome_none, mVar, gJc_ap, opN, opB, and_self, true_and, and_true, if_true, if_false, Bool.true_or, Bool.not_true, Bool.not_false, eq_self, y0, e1, show (4 : Int) + 1 = 5 from rfl, p5, hm, y1]
  generalize hX : fLoop _ _ _ _ _ _ _ = o
  refine for_c hX m (fun j ρ s2 => (∃ c, ρ = [some (.ref r), some (.tup [.tup (vars.map eVar), .int lk]), some (.int nc), some (.int 4), some (.ref s.n), c, none, none]) ∧ Gr vars lk nc r l s (2 * j) s2) ⟨⟨none, rfl⟩, g1⟩ (Nat.zero_le _) ?_ ?_ ?_ ?_
  · show m - 0 < m + 1
    omega
  · rintro j ρ s2 hj ⟨⟨c, rfl⟩, g2⟩
    refine ⟨.int (0 + j), _, by simp [sItem, hj], rfl, ?_⟩
    show ∃ ρ2 s3, (svs _ _ _ [some (.ref r), some (.tup [.tup (vars.map eVar), .int lk]), some (.int nc), some (.int 4), some (.ref s.n), some (.int (0 + j)), none, none] s2 = .nx ρ2 s3 ∨ svs _ _ _ [some (.ref r), some (.tup [.tup (vars.map eVar), .int lk]), some (.int nc), some (.int 4), some (.ref s.n), some (.int (0 + j)), none, none] s2 = .ct ρ2 s3) ∧ _
    obtain ⟨n3, s3, e3, d3, f3⟩ := draw (k := k + 2) (fuel := fuel) g2.d
    have g3 := g2.draw hr d3 f3
    have p4 : (0 : Int) < 4 := by decide
    have tl : ∀ (s4 : Sto) (b : Nat), b < 100 → Gr vars lk nc r l s b s4 → tyO .append (.ref s.n) s4 = true ∧ ∃ w ps s5, (T.gam fuel (k + 4)).fn 22 [.ref r, .tup [.tup (vars.map eVar), .int lk], .int nc] s4 = .ok (eIns w ps) s5 ∧ ∃ s6, mO .append (.ref s.n) [eIns w ps] s5 = some (.non, s6) ∧ Gr vars lk nc r l s (b + 1) s6 := by
      intro s4 b hb g4
      obtain ⟨w, ps, s5, h1, h2, h3, h4⟩ := visible (k := k) (fuel := fuel) (lk := lk) (vars := vars) g4.d hn
      obtain ⟨s6, a1, a2, a3⟩ := (g4.draw hr h3 h4).push hr hl hb h2
      obtain ⟨ins, q1, _⟩ := g4.at_
      exact ⟨app_ty q1, w, ps, s5, h1, s6, a2, a3⟩
    simp only [fin_nx, fin_rt, fin_ex, ofO_some, ofO_none, asB_bl, asI_int, truR_bl, outS_some, outE_some, outO_some, R.bind_ok, R.bind_ex, R.bind_bad, R.to_ok, R.to_ex, R.to_bad, Out.seq_nx, Out.seq_rt, Out.seq_bk, Out.seq_ct, Out.seq_ex, Out.seq_bad, cond_true, cond_false, gam_gl, gam_ncls, gam_init, gam_kd, List.getElem?_cons_zero, List.getElem?_cons_succ, List.set_cons_zero, List.set_cons_succ, List.cons_append, List.nil_append, k2_ap, gBin_ap, gCmp_ap, gCmpT_ap, gNeg_ap, gCh3_ap, gCh2_ap, gCh_ap, gCh3T_ap, gCh2T_ap, gChT_ap, gAnd2_ap, gAnd_ap, gOr2_ap, gOr_ap, gNot2_ap, gNot_ap, gIte_ap, gIx_ap, gSl2_ap, gSl1_ap, gSl_ap, gRev_ap, gFld_ap, gMk2_ap, gMk_ap, gMt2_ap, gMt_ap, gBf_ap, gBm2_ap, gBm_ap, gIsi_ap, gLc_ap, gStr_ap, gKget_ap, gKin_ap, gCo2_ap, gCo_ap, gOs2_ap, gOs_ap, gRn1_ap, gRn3_ap, gRn2_ap, gRn_ap, gZp_ap, gAndT_ap, gOrT_ap, gNotT_ap, gJ_ap, sNx_ap, sSet_ap, sSetT_ap, sPar2_ap, sPar1_ap, sI3_ap, sI2_ap, sI1_ap, sF2_ap, sF1_ap, sN2_ap, sN1_ap, sA3_ap, sA2_ap, sA1_ap, sR_ap, sIff_ap, sFr_ap, e_var, e_cst, e_glob, e_bin, e_neg, e_cmp, e_chain, e_and, e_or, e_not, e_ite, e_ix, e_sl, e_rev, e_tup, e_lst, e_dnewK, e_dnewT, e_fld, e_call, e_make, e_meth, e_bf, e_bm, e_isi, e_lc, e_fst, e_fmt, e_kget, e_kin, gDk_ap, gDr_ap, gDv_ap, keyR_str, keyR_int, e_disp, d_nil, d_cons, d1_cons, e_nil, e_cons, j_nil, j_cons, o_none, o_some, c_none, c_some, i_seq, i_rng1, i_rng2, i_zp, i_enm, i_keys, t_cmp, t_chain, t_and, t_or, t_not, t_var, t_ix, t_call, t_meth, t_isi, t_kin, t_fld, t_bf, s_nil, s_cons, s_pass, s_doc, s_brk, s_cnt, s_retN, s_expr, s_asg, s_asgL, s_asgT, s_par, s_asgI, s_asgF, s_augN, s_augF, s_ret, s_iff, s_whl, s_for, s_tryN, strR_str, Option.getD_some, Option.getD_none, Option.isSome_some, Option.isSome_none, mVar, gJc_ap, opN, opB, and_self, true_and, and_true, if_true, if_false, Bool.true_or, Bool.not_true, Bool.not_false, eq_self, e3, p4, int_eq]
    cases c0 : (n3 % 4 == 0) with
    | true =>
      obtain ⟨w, ps, s4, h1, h2, h3, h4⟩ := local_ (k := k + 1) (fuel := fuel) (lk := lk) (nc := nc) (vars := vars) g3.d
      obtain ⟨s5, a1, a2, a3⟩ := (g3.draw hr h3 h4).push hr hl (by omega) h2
      obtain ⟨ins, q1, _⟩ := g3.at_
      obtain ⟨b0, w2, ps2, s6, b1, s7, b2, b3⟩ := tl s5 _ (by omega) a3
      simp only [fin_nx, fin_rt, fin_ex, ofO_some, ofO_none, asB_bl, asI_int, truR_bl, outS_some, outE_some, outO_some, R.bind_ok, R.bind_ex, R.bind_bad, R.to_ok, R.to_ex, R.to_bad, Out.seq_nx, Out.seq_rt, Out.seq_bk, Out.seq_ct, Out.seq_ex, Out.seq_bad, cond_true, cond_false, gam_gl, gam_ncls, gam_init, gam_kd, List.getElem?_cons_zero, List.getElem?_cons_succ, List.set_cons_zero, List.set_cons_succ, List.cons_append, List.nil_append, k2_ap, gBin_ap, gCmp_ap, gCmpT_ap, gNeg_ap, gCh3_ap, gCh2_ap, gCh_ap, gCh3T_ap, gCh2T_ap, gChT_ap, gAnd2_ap, gAnd_ap, gOr2_ap, gOr_ap, gNot2_ap, gNot_ap, gIte_ap, gIx_ap, gSl2_ap, gSl1_ap, gSl_ap, gRev_ap, gFld_ap, gMk2_ap, gMk_ap, gMt2_ap, gMt_ap, gBf_ap, gBm2_ap, gBm_ap, gIsi_ap, gLc_ap, gStr_ap, gKget_ap, gKin_ap, gCo2_ap, gCo_ap, gOs2_ap, gOs_ap, gRn1_ap, gRn3_ap, gRn2_ap, gRn_ap, gZp_ap, gAndT_ap, gOrT_ap, gNotT_ap, gJ_ap, sNx_ap, sSet_ap, sSetT_ap, sPar2_ap, sPar1_ap, sI3_ap, sI2_ap, sI1_ap, sF2_ap, sF1_ap, sN2_ap, sN1_ap, sA3_ap, sA2_ap, sA1_ap, sR_ap, sIff_ap, sFr_ap, e_var, e_cst, e_glob, e_bin, e_neg, e_cmp, e_chain, e_and, e_or, e_not, e_ite, e_ix, e_sl, e_rev, e_tup, e_lst, e_dnewK, e_dnewT, e_fld, e_call, e_make, e_meth, e_bf, e_bm, e_isi, e_lc, e_fst, e_fmt, e_kget, e_kin, gDk_ap, gDr_ap, gDv_ap, keyR_str, keyR_int, e_disp, d_nil, d_cons, d1_cons, e_nil, e_cons, j_nil, j_cons, o_none, o_some, c_none, c_some, i_seq, i_rng1, i_rng2, i_zp, i_enm, i_keys, t_cmp, t_chain, t_and, t_or, t_not, t_var, t_ix, t_call, t_meth, t_isi, t_kin, t_fld, t_bf, s_nil, s_cons, s_pass, s_doc, s_brk, s_cnt, s_retN, s_expr, s_asg, s_asgL, s_asgT, s_par, s_asgI, s_asgF, s_augN, s_augF, s_ret, s_iff, s_whl, s_for, s_tryN, strR_str, Option.getD_some, Option.getD_none, Option.isSome_some, Option.isSome_none, mVar, gJc_ap, opN, opB, and_self, true_and, and_true, if_true, if_false, Bool.true_or, Bool.not_true, Bool.not_false, eq_self, app_ty q1, h1, a2, b0, b1, b2]
      exact ⟨_, _, .inl rfl, ⟨_, rfl⟩, b3.mono (by omega)⟩
    | false =>
      obtain ⟨b0, w2, ps2, s6, b1, s7, b2, b3⟩ := tl s3 _ (by omega) g3
      simp only [fin_nx, fin_rt, fin_ex, ofO_some, ofO_none, asB_bl, asI_int, truR_bl, outS_some, outE_some, outO_some, R.bind_ok, R.bind_ex, R.bind_bad, R.to_ok, R.to_ex, R.to_bad, Out.seq_nx, Out.seq_rt, Out.seq_bk, Out.seq_ct, Out.seq_ex, Out.seq_bad, cond_true, cond_false, gam_gl, gam_ncls, gam_init, gam_kd, List.getElem?_cons_zero, List.getElem?_cons_succ, List.set_cons_zero, List.set_cons_succ, List.cons_append, List.nil_append, k2_ap, gBin_ap, gCmp_ap, gCmpT_ap, gNeg_ap, gCh3_ap, gCh2_ap, gCh_ap, gCh3T_ap, gCh2T_ap, gChT_ap, gAnd2_ap, gAnd_ap, gOr2_ap, gOr_ap, gNot2_ap, gNot_ap, gIte_ap, gIx_ap, gSl2_ap, gSl1_ap, gSl_ap, gRev_ap, gFld_ap, gMk2_ap, gMk_ap, gMt2_ap, gMt_ap, gBf_ap, gBm2_ap, gBm_ap, gIsi_ap, gLc_ap, gStr_ap, gKget_ap, gKin_ap, gCo2_ap, gCo_ap, gOs2_ap, gOs_ap, gRn1_ap, gRn3_ap, gRn2_ap, gRn_ap, gZp_ap, gAndT_ap, gOrT_ap, gNotT_ap, gJ_ap, sNx_ap, sSet_ap, sSetT_ap, sPar2_ap, sPar1_ap, sI3_ap, sI2_ap, sI1_ap, sF2_ap, sF1_ap, sN2_ap, sN1_ap, sA3_ap, sA2_ap, sA1_ap, sR_ap, sIff_ap, sFr_ap, e_var, e_cst, e_glob, e_bin, e_neg, e_cmp, e_chain, e_and, e_or, e_not, e_ite, e_ix, e_sl, e_rev, e_tup, e_lst, e_dnewK, e_dnewT, e_fld, e_call, e_make, e_meth, e_bf, e_bm, e_isi, e_lc, e_fst, e_fmt, e_kget, e_kin, gDk_ap, gDr_ap, gDv_ap, keyR_str, keyR_int, e_disp, d_nil, d_cons, d1_cons, e_nil, e_cons, j_nil, j_cons, o_none, o_some, c_none, c_some, i_seq, i_rng1, i_rng2, i_zp, i_enm, i_keys, t_cmp, t_chain, t_and, t_or, t_not, t_var, t_ix, t_call, t_meth, t_isi, t_kin, t_fld, t_bf, s_nil, s_cons, s_pass, s_doc, s_brk, s_cnt, s_retN, s_expr, s_asg, s_asgL, s_asgT, s_par, s_asgI, s_asgF, s_augN, s_augF, s_ret, s_iff, s_whl, s_for, s_tryN, strR_str, Option.getD_some, Option.getD_none, Option.isSome_some, Option.isSome_none, mVar, gJc_ap, opN, opB, and_self, true_and, and_true, if_true, if_false, Bool.true_or, Bool.not_true, Bool.not_false, eq_self, b0, b1, b2]
      exact ⟨_, _, .inl rfl, ⟨_, rfl⟩, b3.mono (by omega)⟩
  · rintro ρ s2 _
    simp [sItem]
  · rintro ρ' s2 ⟨⟨c, rfl⟩, g2⟩ rfl
    exact codeT (k := k) hr hl (g2.mono (c := 8) (by omega))
end Lk61
set_option Elab.async false
set_option linter.all false
set_option maxRecDepth 100000
set_option maxHeartbeats 4000000
/-! Pc61: the generator of k61: programs -/
namespace Lk61
open PySem L2 Ab
theorem i25 : Is T 25 9 2 b25 := ⟨d25, rfl, rfl, rfl, rfl⟩
theorem i27 : Is T 27 7 2 b27 := ⟨d27, rfl, rfl, rfl, rfl⟩
/-- what a def of programs gives -/
def Progs (m t r l : Nat) (s : Sto) (res : R D) : Prop := ∃ p s', res = .ok p.enc s' ∧ OkPg FM p ∧ p.codes.length ≤ m ∧ p.ts.length ≤ t ∧ Dr s' r l ∧ Fr (· = r) s s'
theorem nat_of {x : D} {xs : List Nat} (h : x ∈ xs.map fun (n : Nat) => D.int n) : ∃ n ∈ xs, x = .int (n : Nat) := by
  obtain ⟨n, h1, h2⟩ := List.mem_map.mp h
  exact ⟨n, h1, h2.symm⟩
theorem program {k fuel : Nat} {s : Sto} {r l : Nat} (d : Dr s r l) : Progs 3 3 r l s ((T.gam fuel (k + 6)).fn 25 [.ref r, .int 4] s) := by
  rw [i25.call rfl]
  show Progs 3 3 r l s (svs _ _ b25 [some (.ref r), some (.int 4), none, none, none, none, none, none, none] s).fin
  have hr := d.hr
  have hl := d.hl
  have p7 : (0 : Int) < 7 := by decide
  have p6 : (0 : Int) < 6 := by decide
  have p5 : (0 : Int) < 5 := by decide
  have p4 : (0 : Int) < 4 := by decide
  have p3 : (0 : Int) < 3 := by decide
  have y0 := lst_n (xs := []) s (by show 0 ≤ 100; decide)
  -- how many variables
  have y1 := lst_n (xs := [.int 1, .int 1, .int 1, .int 2, .int 2, .int 0, .int 4]) (s.new (.lst [])) (by show 7 ≤ 100; decide)
  obtain ⟨n1, s1, e1, d1, f1⟩ := draw (k := k + 3) (fuel := fuel) ((d.new (o := .lst [])).new (o := .lst [.int 1, .int 1, .int 1, .int 2, .int 2, .int 0, .int 4]))
  have g1 : s1.g s.n = .lst [] := (f1.eq s.n (Nat.lt_succ_of_lt (Nat.lt_succ_self _)) (Nat.ne_of_gt hr)).trans (new_at (Nat.lt_succ_self _) new_g)
  have g1' : s1.g (s.n + 1) = .lst [.int 1, .int 1, .int 1, .int 2, .int 2, .int 0, .int 4] := (f1.eq (s.n + 1) (Nat.lt_succ_self _) (Nat.ne_of_gt (Nat.lt_succ_of_lt hr))).trans new_g
  have lt1 : s.n < s1.n := Nat.lt_of_lt_of_le (Nat.lt_succ_of_lt (Nat.lt_succ_self _)) f1.le
  have F1 : Fr (· = r) s s1 := (Fr.new.trans Fr.new).trans f1
  obtain ⟨x, hx, z1⟩ := pick g1' (m := 7) rfl (by decide) n1
  obtain ⟨nv, hnv, rfl⟩ := nat_of (xs := [1, 1, 1, 2, 2, 0, 4]) hx
  have z1 : ixO (.ref (s.n + 1)) (.int (n1 % 7)) s1 = some (.int (nv : Nat), s1) := z1
  have nv4 : nv ≤ 4 := by simp at hnv; omega
  have w1 := rng_nat (n := nv) (s := s1) (by omega)
  unfold b25
  simp only [fin_nx, fin_rt, fin_ex, ofO_some, ofO_none, asB_bl, asI_int, truR_bl, outS_some, outE_some, outO_some, R.bind_ok, R.bind_ex, R.bind_bad, R.to_ok, R.to_ex, R.to_bad, Out.seq_nx, Out.seq_rt, Out.seq_bk, Out.seq_ct, Out.seq_ex, Out.seq_bad, cond_true, cond_false, gam_gl, gam_ncls, gam_init, gam_kd, List.getElem?_cons_zero, List.getElem?_cons_succ, List.set_cons_zero, List.set_cons_succ, List.cons_append, List.nil_append, k2_ap, gBin_ap, gCmp_ap, gCmpT_ap, gNeg_ap, gCh3_ap, gCh2_ap, gCh_ap, gCh3T_ap, gCh2T_ap, gChT_ap, gAnd2_ap, gAnd_ap, gOr2_ap, gOr_ap, gNot2_ap, gNot_ap, gIte_ap, gIx_ap, gSl2_ap, gSl1_ap, gSl_ap, gRev_ap, gFld_ap, gMk2_ap, gMk_ap, gMt2_ap, gMt_ap, gBf_ap, gBm2_ap, gBm_ap, gIsi_ap, gLc_ap, gStr_ap, gKget_ap, gKin_ap, gCo2_ap, gCo_ap, gOs2_ap, gOs_ap, gRn1_ap, gRn3_ap, gRn2_ap, gRn_ap, gZp_ap, gAndT_ap, gOrT_ap, gNotT_ap, gJ_ap, sNx_ap, sSet_ap, sSetT_ap, sPar2_ap, sPar1_ap, sI3_ap, sI2_ap, sI1_ap, sF2_ap, sF1_ap, sN2_ap, sN1_ap, sA3_ap, sA2_ap, sA1_ap, sR_ap, sIff_ap, sFr_ap, e_var, e_cst, e_glob, e_bin, e_neg, e_cmp, e_chain, e_and, e_or, e_not, e_ite, e_ix, e_sl, e_rev, e_tup, e_lst, e_dnewK, e_dnewT, e_fld, e_call, e_make, e_meth, e_bf, e_bm, e_isi, e_lc, e_fst, e_fmt, e_kget, e_kin, gDk_ap, gDr_ap, gDv_ap, keyR_str, keyR_int, e_disp, d_nil, d_cons, d1_cons, e_nil, e_cons, j_nil, j_cons, o_none, o_some, c_none, c_some, i_seq, i_rng1, i_rng2, i_zp, i_enm, i_keys, t_cmp, t_chain, t_and, t_or, t_not, t_var, t_ix, t_call, t_meth, t_isi, t_kin, t_fld, t_bf, s_nil, s_cons, s_pass, s_doc, s_brk, s_cnt, s_retN, s_expr, s_asg, s_asgL, s_asgT, s_par, s_asgI, s_asgF, s_augN, s_augF, s_ret, s_iff, s_whl, s_for, s_tryN, strR_str, Option.getD_some, Option.getD_none, Option.isSome_some, Option.isSome_none, mVar, gJc_ap, opN, opB, and_self, true_and, and_true, if_true, if_false, Bool.true_or, Bool.not_true, Bool.not_false, eq_self, y0, y1]
  rw [show (s.new (.lst [])).n = s.n + 1 from rfl]
  simp only [fin_nx, fin_rt, fin_ex, ofO_some, ofO_none, asB_bl, asI_int, truR_bl, outS_some, outE_some, outO_some, R.bind_ok, R.bind_ex, R.bind_bad, R.to_ok, R.to_ex, R.to_bad, Out.seq_nx, Out.seq_rt, Out.seq_bk, Out.seq_ct, Out.seq_ex, Out.seq_bad, cond_true, cond_false, gam_gl, gam_ncls, gam_init, gam_kd, List.getElem?_cons_zero, List.getElem?_cons_succ, List.set_cons_zero, List.set_cons_succ, List.cons_append, List.nil_append, k2_ap, gBin_ap, gCmp_ap, gCmpT_ap, gNeg_ap, gCh3_ap, gCh2_ap, gCh_ap, gCh3T_ap, gCh2T_ap, gChT_ap, gAnd2_ap, gAnd_ap, gOr2_ap, gOr_ap, gNot2_ap, gNot_ap, gIte_ap, gIx_ap, gSl2_ap, gSl1_ap, gSl_ap, gRev_ap, gFld_ap, gMk2_ap, gMk_ap, gMt2_ap, gMt_ap, gBf_ap, gBm2_ap, gBm_ap, gIsi_ap, gLc_ap, gStr_ap, gKget_ap, gKin_ap, gCo2_ap, gCo_ap, gOs2_ap, gOs_ap, gRn1_ap, gRn3_ap, gRn2_ap, gRn_ap, gZp_ap, gAndT_ap, gOrT_ap, gNotT_ap, gJ_ap, sNx_ap, sSet_ap, sSetT_ap, sPar2_ap, sPar1_ap, sI3_ap, sI2_ap, sI1_ap, sF2_ap, sF1_ap, sN2_ap, sN1_ap, sA3_ap, sA2_ap, sA1_ap, sR_ap, sIff_ap, sFr_ap, e_var, e_cst, e_glob, e_bin, e_neg, e_cmp, e_chain, e_and, e_or, e_not, e_ite, e_ix, e_sl, e_rev, e_tup, e_lst, e_dnewK, e_dnewT, e_fld, e_call, e_make, e_meth, e_bf, e_bm, e_isi, e_lc, e_fst, e_fmt, e_kget, e_kin, gDk_ap, gDr_ap, gDv_ap, keyR_str, keyR_int, e_disp, d_nil, d_cons, d1_cons, e_nil, e_cons, j_nil, j_cons, o_none, o_some, c_none, c_some, i_seq, i_rng1, i_rng2, i_zp, i_enm, i_keys, t_cmp, t_chain, t_and, t_or, t_not, t_var, t_ix, t_call, t_meth, t_isi, t_kin, t_fld, t_bf, s_nil, s_cons, s_pass, s_doc, s_brk, s_cnt, s_retN, s_expr, s_asg, s_asgL, s_asgT, s_par, s_asgI, s_asgF, s_augN, s_augF, s_ret, s_iff, s_whl, s_for, s_tryN, strR_str, Option.getD_some, Option.getD_none, Option.isSome_some, Option.isSome_none, mVar, gJc_ap, opN, opB, and_self, true_and, and_true, if_true, if_false, Bool.true_or, Bool.not_true, Bool.not_false, eq_self, e1, p7, z1, w1]
  generalize hX : fLoop _ _ _ _ _ _ _ = o
  refine for_c hX nv (fun j ρ s2 => (∃ c, ρ = [some (.ref r), some (.int 4), some (.ref s.n), c, none, none, none, none, none]) ∧ Dr s2 r l ∧ Fr (· = r) s s2 ∧ s.n < s2.n ∧ ∃ vs : List (Int × Bool), s2.g s.n = .lst (vs.map eVar) ∧ vs.length = j ∧ ∀ v ∈ vs, -999 ≤ v.1 ∧ v.1 ≤ 999) ⟨⟨none, rfl⟩, d1, F1, lt1, [], g1, rfl, fun _ h => absurd h List.not_mem_nil⟩ (Nat.zero_le _) ?_ ?_ ?_ ?_
  · show nv - 0 < nv + 1
    omega
  · rintro j ρ s2 hj ⟨⟨c, rfl⟩, d2, f2, lt2, vs, g2, l2, ok2⟩
    refine ⟨.int (0 + j), _, by simp [sItem, hj], rfl, ?_⟩
    show ∃ ρ2 s3, (svs _ _ _ [some (.ref r), some (.int 4), some (.ref s.n), some (.int (0 + j)), none, none, none, none, none] s2 = .nx ρ2 s3 ∨ svs _ _ _ [some (.ref r), some (.int 4), some (.ref s.n), some (.int (0 + j)), none, none, none, none, none] s2 = .ct ρ2 s3) ∧ _
    have y2 := lst_n (xs := [.int 0, .int 1, .int 2, .int 998, .int (-999), .int 0]) s2 (by show 6 ≤ 100; decide)
    obtain ⟨n3, s3, e3, d3, f3⟩ := draw (k := k + 3) (fuel := fuel) (d2.new (o := .lst [.int 0, .int 1, .int 2, .int 998, .int (-999), .int 0]))
    have g3 : s3.g s2.n = .lst [.int 0, .int 1, .int 2, .int 998, .int (-999), .int 0] := (f3.eq s2.n (Nat.lt_succ_self _) (Nat.ne_of_gt d2.hr)).trans new_g
    obtain ⟨x, hx, z3⟩ := pick g3 (m := 6) rfl (by decide) n3
    have z3 : ixO (.ref s2.n) (.int (n3 % 6)) s3 = some (x, s3) := z3
    obtain ⟨v, rfl, v0, v1⟩ : ∃ v : Int, x = .int v ∧ -999 ≤ v ∧ v ≤ 999 := by
      simp only [List.mem_cons, List.not_mem_nil, or_false] at hx
      rcases hx with rfl | rfl | rfl | rfl | rfl | rfl <;> exact ⟨_, rfl, by decide, by decide⟩
    obtain ⟨n4, s4, e4, d4, f4⟩ := draw (k := k + 3) (fuel := fuel) d3
    have f24 : Fr (· = r) s2 s4 := (Fr.new.trans f3).trans f4
    have g4 : s4.g s.n = .lst (vs.map eVar) := (f24.eq s.n lt2 (Nat.ne_of_gt hr)).trans g2
    have a1 := app_ty g2
    have a2 := app_is (x := .tup [.int v, .bl (n4 % 4 == 0)]) g4 (by rw [List.length_map]; have := sz_ge (Nat.le_refl 100); omega)
    simp only [fin_nx, fin_rt, fin_ex, ofO_some, ofO_none, asB_bl, asI_int, truR_bl, outS_some, outE_some, outO_some, R.bind_ok, R.bind_ex, R.bind_bad, R.to_ok, R.to_ex, R.to_bad, Out.seq_nx, Out.seq_rt, Out.seq_bk, Out.seq_ct, Out.seq_ex, Out.seq_bad, cond_true, cond_false, gam_gl, gam_ncls, gam_init, gam_kd, List.getElem?_cons_zero, List.getElem?_cons_succ, List.set_cons_zero, List.set_cons_succ, List.cons_append, List.nil_append, k2_ap, gBin_ap, gCmp_ap, gCmpT_ap, gNeg_ap, gCh3_ap, gCh2_ap, gCh_ap, gCh3T_ap, gCh2T_ap, gChT_ap, gAnd2_ap, gAnd_ap, gOr2_ap, gOr_ap, gNot2_ap, gNot_ap, gIte_ap, gIx_ap, gSl2_ap, gSl1_ap, gSl_ap, gRev_ap, gFld_ap, gMk2_ap, gMk_ap, gMt2_ap, gMt_ap, gBf_ap, gBm2_ap, gBm_ap, gIsi_ap, gLc_ap, gStr_ap, gKget_ap, gKin_ap, gCo2_ap, gCo_ap, gOs2_ap, gOs_ap, gRn1_ap, gRn3_ap, gRn2_ap, gRn_ap, gZp_ap, gAndT_ap, gOrT_ap, gNotT_ap, gJ_ap, sNx_ap, sSet_ap, sSetT_ap, sPar2_ap, sPar1_ap, sI3_ap, sI2_ap, sI1_ap, sF2_ap, sF1_ap, sN2_ap, sN1_ap, sA3_ap, sA2_ap, sA1_ap, sR_ap, sIff_ap, sFr_ap, e_var, e_cst, e_glob, e_bin, e_neg, e_cmp, e_chain, e_and, e_or, e_not, e_ite, e_ix, e_sl, e_rev, e_tup, e_lst, e_dnewK, e_dnewT, e_fld, e_call, e_make, e_meth, e_bf, e_bm, e_isi, e_lc, e_fst, e_fmt, e_kget, e_kin, gDk_ap, gDr_ap, gDv_ap, keyR_str, keyR_int, e_disp, d_nil, d_cons, d1_cons, e_nil, e_cons, j_nil, j_cons, o_none, o_some, c_none, c_some, i_seq, i_rng1, i_rng2, i_zp, i_enm, i_keys, t_cmp, t_chain, t_and, t_or, t_not, t_var, t_ix, t_call, t_meth, t_isi, t_kin, t_fld, t_bf, s_nil, s_cons, s_pass, s_doc, s_brk, s_cnt, s_retN, s_expr, s_asg, s_asgL, s_asgT, s_par, s_asgI, s_asgF, s_augN, s_augF, s_ret, s_iff, s_whl, s_for, s_tryN, strR_str, Option.getD_some, Option.getD_none, Option.isSome_some, Option.isSome_none, mVar, gJc_ap, opN, opB, and_self, true_and, and_true, if_true, if_false, Bool.true_or, Bool.not_true, Bool.not_false, eq_self, a1, y2, e3, p6, z3, e4, p4, int_eq, tup2, a2]
    refine ⟨_, _, .inl rfl, ⟨_, rfl⟩, d4.keep (Fr.put (X := (· = s.n)) rfl) (Nat.ne_of_lt hr) (Nat.ne_of_lt hl), ?_, Nat.lt_of_lt_of_le lt2 f24.le, vs ++ [(v, n4 % 4 == 0)], ?_, by simp [l2], ?_⟩
    · exact ⟨Nat.le_trans f2.le f24.le, fun q hq hx' => (put_ne (Nat.ne_of_lt hq)).trans ((f24.eq q (Nat.lt_of_lt_of_le hq f2.le) hx').trans (f2.eq q hq hx'))⟩
    · rw [put_g]; simp [eVar]
    · intro u hu
      rcases List.mem_append.mp hu with hu | hu
      · exact ok2 u hu
      · cases List.mem_singleton.mp hu
        exact ⟨v0, v1⟩
  · rintro ρ s2 _
    simp [sItem]
  · rintro ρ' s2 ⟨⟨c, rfl⟩, d2, f2, lt2, vs, g2, l2, ok2⟩ rfl
    have y2 := lst_n (xs := [.int 0, .int 0, .int 1, .int 2]) s2 (by show 4 ≤ 100; decide)
    obtain ⟨n3, s3, e3, d3, f3⟩ := draw (k := k + 3) (fuel := fuel) (d2.new (o := .lst [.int 0, .int 0, .int 1, .int 2]))
    have g3 : s3.g s2.n = .lst [.int 0, .int 0, .int 1, .int 2] := (f3.eq s2.n (Nat.lt_succ_self _) (Nat.ne_of_gt d2.hr)).trans new_g
    obtain ⟨x, hx, z3⟩ := pick g3 (m := 4) rfl (by decide) n3
    obtain ⟨lk, hlk, rfl⟩ := nat_of (xs := [0, 0, 1, 2]) hx
    have z3 : ixO (.ref s2.n) (.int (n3 % 4)) s3 = some (.int (lk : Nat), s3) := z3
    have lk2 : lk ≤ 2 := by simp at hlk; omega
    obtain ⟨n4, s4, e4, d4, f4⟩ := draw (k := k + 3) (fuel := fuel) d3
    obtain ⟨m0, hm0, hm3⟩ := mod_nat n4 (m := 3) (by decide)
    have hm0 : n4 % 3 = (m0 : Int) := hm0
    have F4 : Fr (· = r) s s4 := (f2.trans (Fr.new.trans f3)).trans f4
    have w4 := rng_nat (n := 1 + m0) (s := s4) (by omega)
    have cast1 : (1 : Int) + (m0 : Int) = ((1 + m0 : Nat) : Int) := by omega
    simp only [fin_nx, fin_rt, fin_ex, ofO_some, ofO_none, asB_bl, asI_int, truR_bl, outS_some, outE_some, outO_some, R.bind_ok, R.bind_ex, R.bind_bad, R.to_ok, R.to_ex, R.to_bad, Out.seq_nx, Out.seq_rt, Out.seq_bk, Out.seq_ct, Out.seq_ex, Out.seq_bad, cond_true, cond_false, gam_gl, gam_ncls, gam_init, gam_kd, List.getElem?_cons_zero, List.getElem?_cons_succ, List.set_cons_zero, List.set_cons_succ, List.cons_append, List.nil_append, k2_ap, gBin_ap, gCmp_ap, gCmpT_ap, gNeg_ap, gCh3_ap, gCh2_ap, gCh_ap, gCh3T_ap, gCh2T_ap, gChT_ap, gAnd2_ap, gAnd_ap, gOr2_ap, gOr_ap, gNot2_ap, gNot_ap, gIte_ap, gIx_ap, gSl2_ap, gSl1_ap, gSl_ap, gRev_ap, gFld_ap, gMk2_ap, gMk_ap, gMt2_ap, gMt_ap, gBf_ap, gBm2_ap, gBm_ap, gIsi_ap, gLc_ap, gStr_ap, gKget_ap, gKin_ap, gCo2_ap, gCo_ap, gOs2_ap, gOs_ap, gRn1_ap, gRn3_ap, gRn2_ap, gRn_ap, gZp_ap, gAndT_ap, gOrT_ap, gNotT_ap, gJ_ap, sNx_ap, sSet_ap, sSetT_ap, sPar2_ap, sPar1_ap, sI3_ap, sI2_ap, sI1_ap, sF2_ap, sF1_ap, sN2_ap, sN1_ap, sA3_ap, sA2_ap, sA1_ap, sR_ap, sIff_ap, sFr_ap, e_var, e_cst, e_glob, e_bin, e_neg, e_cmp, e_chain, e_and, e_or, e_not, e_ite, e_ix, e_sl, e_rev, e_tup, e_lst, e_dnewK, e_dnewT, e_fld, e_call, e_make, e_meth, e_bf, e_bm, e_isi, e_lc, e_fst, e_fmt, e_kget, e_kin, gDk_ap, gDr_ap, gDv_ap, keyR_str, keyR_int, e_disp, d_nil, d_cons, d1_cons, e_nil, e_cons, j_nil, j_cons, o_none, o_some, c_none, c_some, i_seq, i_rng1, i_rng2, i_zp, i_enm, i_keys, t_cmp, t_chain, t_and, t_or, t_not, t_var, t_ix, t_call, t_meth, t_isi, t_kin, t_fld, t_bf, s_nil, s_cons, s_pass, s_doc, s_brk, s_cnt, s_retN, s_expr, s_asg, s_asgL, s_asgT, s_par, s_asgI, s_asgF, s_augN, s_augF, s_ret, s_iff, s_whl, s_for, s_tryN, strR_str, Option.getD_some, Option.getD_none, Option.isSome_some, Option.isSome_none, mVar, gJc_ap, opN, opB, and_self, true_and, and_true, if_true, if_false, Bool.true_or, Bool.not_true, Bool.not_false, eq_self, tup_lst g2, y2, e3, p4, z3, tup2, e4, p3, hm0, cast1, w4]
    generalize hX : lcLoop _ _ _ _ _ _ _ _ = o
    refine lc_dr hX (fun _ _ => rfl) (1 + m0) (fun x => ∃ c, x = eCode c ∧ c.length ≤ 12 ∧ ∀ i ∈ c, OkIns FM vs lk (1 + m0) (c.length + 1) i.1 i.2) d4 (by show 1 + m0 < 1 + m0 + 1; omega) (by omega) ?_ (fun _ => by simp [sItem]) ?_
    · intro j s' hj d' f'
      obtain ⟨cc, s5, q1, q2, q3, q4, q5⟩ := code (k := k) (fuel := fuel) (lk := lk) (nc := 1 + m0) (vars := vs) d' (by omega)
      refine ⟨.int (0 + j), [some (.ref r), some (.int 4), some (.ref s.n), c, some (.tup [.tup (vs.map eVar), .int lk]), some (.int ((1 + m0 : Nat) : Int)), none, none, some (.int (0 + j))], by simp [sItem, hj], rfl, ?_⟩
      simp only [fin_nx, fin_rt, fin_ex, ofO_some, ofO_none, asB_bl, asI_int, truR_bl, outS_some, outE_some, outO_some, R.bind_ok, R.bind_ex, R.bind_bad, R.to_ok, R.to_ex, R.to_bad, Out.seq_nx, Out.seq_rt, Out.seq_bk, Out.seq_ct, Out.seq_ex, Out.seq_bad, cond_true, cond_false, gam_gl, gam_ncls, gam_init, gam_kd, List.getElem?_cons_zero, List.getElem?_cons_succ, List.set_cons_zero, List.set_cons_succ, List.cons_append, List.nil_append, k2_ap, gBin_ap, gCmp_ap, gCmpT_ap, gNeg_ap, gCh3_ap, gCh2_ap, gCh_ap, gCh3T_ap, gCh2T_ap, gChT_ap, gAnd2_ap, gAnd_ap, gOr2_ap, gOr_ap, gNot2_ap, gNot_ap, gIte_ap, gIx_ap, gSl2_ap, gSl1_ap, gSl_ap, gRev_ap, gFld_ap, gMk2_ap, gMk_ap, gMt2_ap, gMt_ap, gBf_ap, gBm2_ap, gBm_ap, gIsi_ap, gLc_ap, gStr_ap, gKget_ap, gKin_ap, gCo2_ap, gCo_ap, gOs2_ap, gOs_ap, gRn1_ap, gRn3_ap, gRn2_ap, gRn_ap, gZp_ap, gAndT_ap, gOrT_ap, gNotT_ap, gJ_ap, sNx_ap, sSet_ap, sSetT_ap, sPar2_ap, sPar1_ap, sI3_ap, sI2_ap, sI1_ap, sF2_ap, sF1_ap, sN2_ap, sN1_ap, sA3_ap, sA2_ap, sA1_ap, sR_ap, sIff_ap, sFr_ap, e_var, e_cst, e_glob, e_bin, e_neg, e_cmp, e_chain, e_and, e_or, e_not, e_ite, e_ix, e_sl, e_rev, e_tup, e_lst, e_dnewK, e_dnewT, e_fld, e_call, e_make, e_meth, e_bf, e_bm, e_isi, e_lc, e_fst, e_fmt, e_kget, e_kin, gDk_ap, gDr_ap, gDv_ap, keyR_str, keyR_int, e_disp, d_nil, d_cons, d1_cons, e_nil, e_cons, j_nil, j_cons, o_none, o_some, c_none, c_some, i_seq, i_rng1, i_rng2, i_zp, i_enm, i_keys, t_cmp, t_chain, t_and, t_or, t_not, t_var, t_ix, t_call, t_meth, t_isi, t_kin, t_fld, t_bf, s_nil, s_cons, s_pass, s_doc, s_brk, s_cnt, s_retN, s_expr, s_asg, s_asgL, s_asgT, s_par, s_asgI, s_asgF, s_augN, s_augF, s_ret, s_iff, s_whl, s_for, s_tryN, strR_str, Option.getD_some, Option.getD_none, Option.isSome_some, Option.isSome_none, mVar, gJc_ap, opN, opB, and_self, true_and, and_true, if_true, if_false, Bool.true_or, Bool.not_true, Bool.not_false, eq_self, q1]
      exact ⟨_, _, rfl, ⟨cc, rfl, q2, q3⟩, q4, q5⟩
    · rintro xs s5 l5 ok5 g5 lt5 d5 f5 rfl
      obtain ⟨cs, rfl, okc⟩ := unmap ok5
      have y6 := lst_n (xs := [.int 2, .int 2, .int 3, .int 1]) s5 (by show 4 ≤ 100; decide)
      obtain ⟨n6, s6, e6, d6, f6⟩ := draw (k := k + 3) (fuel := fuel) (d5.new (o := .lst [.int 2, .int 2, .int 3, .int 1]))
      have g6 : s6.g s5.n = .lst [.int 2, .int 2, .int 3, .int 1] := (f6.eq s5.n (Nat.lt_succ_self _) (Nat.ne_of_gt d5.hr)).trans new_g
      obtain ⟨x, hx, z6⟩ := pick g6 (m := 4) rfl (by decide) n6
      obtain ⟨nt, hnt, rfl⟩ := nat_of (xs := [2, 2, 3, 1]) hx
      have z6 : ixO (.ref s5.n) (.int (n6 % 4)) s6 = some (.int (nt : Nat), s6) := z6
      have nt3 : 1 ≤ nt ∧ nt ≤ 3 := by simp at hnt; omega
      have w6 := rng_nat (n := nt) (s := s6) (by omega)
      simp only [fin_nx, fin_rt, fin_ex, ofO_some, ofO_none, asB_bl, asI_int, truR_bl, outS_some, outE_some, outO_some, R.bind_ok, R.bind_ex, R.bind_bad, R.to_ok, R.to_ex, R.to_bad, Out.seq_nx, Out.seq_rt, Out.seq_bk, Out.seq_ct, Out.seq_ex, Out.seq_bad, cond_true, cond_false, gam_gl, gam_ncls, gam_init, gam_kd, List.getElem?_cons_zero, List.getElem?_cons_succ, List.set_cons_zero, List.set_cons_succ, List.cons_append, List.nil_append, k2_ap, gBin_ap, gCmp_ap, gCmpT_ap, gNeg_ap, gCh3_ap, gCh2_ap, gCh_ap, gCh3T_ap, gCh2T_ap, gChT_ap, gAnd2_ap, gAnd_ap, gOr2_ap, gOr_ap, gNot2_ap, gNot_ap, gIte_ap, gIx_ap, gSl2_ap, gSl1_ap, gSl_ap, gRev_ap, gFld_ap, gMk2_ap, gMk_ap, gMt2_ap, gMt_ap, gBf_ap, gBm2_ap, gBm_ap, gIsi_ap, gLc_ap, gStr_ap, gKget_ap, gKin_ap, gCo2_ap, gCo_ap, gOs2_ap, gOs_ap, gRn1_ap, gRn3_ap, gRn2_ap, gRn_ap, gZp_ap, gAndT_ap, gOrT_ap, gNotT_ap, gJ_ap, sNx_ap, sSet_ap, sSetT_ap, sPar2_ap, sPar1_ap, sI3_ap, sI2_ap, sI1_ap, sF2_ap, sF1_ap, sN2_ap, sN1_ap, sA3_ap, sA2_ap, sA1_ap, sR_ap, sIff_ap, sFr_ap, e_var, e_cst, e_glob, e_bin, e_neg, e_cmp, e_chain, e_and, e_or, e_not, e_ite, e_ix, e_sl, e_rev, e_tup, e_lst, e_dnewK, e_dnewT, e_fld, e_call, e_make, e_meth, e_bf, e_bm, e_isi, e_lc, e_fst, e_fmt, e_kget, e_kin, gDk_ap, gDr_ap, gDv_ap, keyR_str, keyR_int, e_disp, d_nil, d_cons, d1_cons, e_nil, e_cons, j_nil, j_cons, o_none, o_some, c_none, c_some, i_seq, i_rng1, i_rng2, i_zp, i_enm, i_keys, t_cmp, t_chain, t_and, t_or, t_not, t_var, t_ix, t_call, t_meth, t_isi, t_kin, t_fld, t_bf, s_nil, s_cons, s_pass, s_doc, s_brk, s_cnt, s_retN, s_expr, s_asg, s_asgL, s_asgT, s_par, s_asgI, s_asgF, s_augN, s_augF, s_ret, s_iff, s_whl, s_for, s_tryN, strR_str, Option.getD_some, Option.getD_none, Option.isSome_some, Option.isSome_none, mVar, gJc_ap, opN, opB, and_self, true_and, and_true, if_true, if_false, Bool.true_or, Bool.not_true, Bool.not_false, eq_self, tup_lst g5, y6, e6, p4, z6, w6]
      generalize hX : lcLoop _ _ _ _ _ _ _ _ = o
      refine lc_dr hX (fun _ _ => rfl) nt (fun x => ∃ t, x = eThr t ∧ 0 ≤ t.1 ∧ t.1 < (1 + m0 : Nat) ∧ -999 ≤ t.2 ∧ t.2 ≤ 999) d6 (by show nt < nt + 1; omega) (by omega) ?_ (fun _ => by simp [sItem]) ?_
      · intro j s' hj d' f'
        obtain ⟨n7, s7, e7, d7, f7⟩ := draw (k := k + 3) (fuel := fuel) d'
        have y7 := lst_n (xs := [.int 0, .int 1, .int 2, .int 998, .int (-3)]) s7 (by show 5 ≤ 100; decide)
        obtain ⟨n8, s8, e8, d8, f8⟩ := draw (k := k + 3) (fuel := fuel) (d7.new (o := .lst [.int 0, .int 1, .int 2, .int 998, .int (-3)]))
        have g8 : s8.g s7.n = .lst [.int 0, .int 1, .int 2, .int 998, .int (-3)] := (f8.eq s7.n (Nat.lt_succ_self _) (Nat.ne_of_gt d7.hr)).trans new_g
        obtain ⟨x, hx, z8⟩ := pick g8 (m := 5) rfl (by decide) n8
        have z8 : ixO (.ref s7.n) (.int (n8 % 5)) s8 = some (x, s8) := z8
        obtain ⟨v, rfl, v0, v1⟩ : ∃ v : Int, x = .int v ∧ -999 ≤ v ∧ v ≤ 999 := by
          simp only [List.mem_cons, List.not_mem_nil, or_false] at hx
          rcases hx with rfl | rfl | rfl | rfl | rfl <;> exact ⟨_, rfl, by decide, by decide⟩
        have pm : (0 : Int) < ((1 + m0 : Nat) : Int) := by omega
        refine ⟨.int (0 + j), [some (.ref r), some (.int 4), some (.ref s.n), c, some (.tup [.tup (vs.map eVar), .int lk]), some (.int ((1 + m0 : Nat) : Int)), some (.tup (cs.map eCode)), none, some (.int (0 + j))], by simp [sItem, hj], rfl, ?_⟩
        simp only [fin_nx, fin_rt, fin_ex, ofO_some, ofO_none, asB_bl, asI_int, truR_bl, outS_some, outE_some, outO_some, R.bind_ok, R.bind_ex, R.bind_bad, R.to_ok, R.to_ex, R.to_bad, Out.seq_nx, Out.seq_rt, Out.seq_bk, Out.seq_ct, Out.seq_ex, Out.seq_bad, cond_true, cond_false, gam_gl, gam_ncls, gam_init, gam_kd, List.getElem?_cons_zero, List.getElem?_cons_succ, List.set_cons_zero, List.set_cons_succ, List.cons_append, List.nil_append, k2_ap, gBin_ap, gCmp_ap, gCmpT_ap, gNeg_ap, gCh3_ap, gCh2_ap, gCh_ap, gCh3T_ap, gCh2T_ap, gChT_ap, gAnd2_ap, gAnd_ap, gOr2_ap, gOr_ap, gNot2_ap, gNot_ap, gIte_ap, gIx_ap, gSl2_ap, gSl1_ap, gSl_ap, gRev_ap, gFld_ap, gMk2_ap, gMk_ap, gMt2_ap, gMt_ap, gBf_ap, gBm2_ap, gBm_ap, gIsi_ap, gLc_ap, gStr_ap, gKget_ap, gKin_ap, gCo2_ap, gCo_ap, gOs2_ap, gOs_ap, gRn1_ap, gRn3_ap, gRn2_ap, gRn_ap, gZp_ap, gAndT_ap, gOrT_ap, gNotT_ap, gJ_ap, sNx_ap, sSet_ap, sSetT_ap, sPar2_ap, sPar1_ap, sI3_ap, sI2_ap, sI1_ap, sF2_ap, sF1_ap, sN2_ap, sN1_ap, sA3_ap, sA2_ap, sA1_ap, sR_ap, sIff_ap, sFr_ap, e_var, e_cst, e_glob, e_bin, e_neg, e_cmp, e_chain, e_and, e_or, e_not, e_ite, e_ix, e_sl, e_rev, e_tup, e_lst, e_dnewK, e_dnewT, e_fld, e_call, e_make, e_meth, e_bf, e_bm, e_isi, e_lc, e_fst, e_fmt, e_kget, e_kin, gDk_ap, gDr_ap, gDv_ap, keyR_str, keyR_int, e_disp, d_nil, d_cons, d1_cons, e_nil, e_cons, j_nil, j_cons, o_none, o_some, c_none, c_some, i_seq, i_rng1, i_rng2, i_zp, i_enm, i_keys, t_cmp, t_chain, t_and, t_or, t_not, t_var, t_ix, t_call, t_meth, t_isi, t_kin, t_fld, t_bf, s_nil, s_cons, s_pass, s_doc, s_brk, s_cnt, s_retN, s_expr, s_asg, s_asgL, s_asgT, s_par, s_asgI, s_asgF, s_augN, s_augF, s_ret, s_iff, s_whl, s_for, s_tryN, strR_str, Option.getD_some, Option.getD_none, Option.isSome_some, Option.isSome_none, mVar, gJc_ap, opN, opB, and_self, true_and, and_true, if_true, if_false, Bool.true_or, Bool.not_true, Bool.not_false, eq_self, e7, pm, y7, e8, p5, z8, tup2]
        exact ⟨_, _, rfl, ⟨(n7 % ((1 + m0 : Nat) : Int), v), rfl, mod_nn n7 pm, mod_lt n7 pm, v0, v1⟩, d8, (f7.trans Fr.new).trans f8⟩
      · rintro xs s7 l7 ok7 g7 lt7 d7 f7 rfl
        obtain ⟨ts, rfl, okt⟩ := unmap ok7
        have x0 : ∀ s : Sto, ixO (.tup [.tup (vs.map eVar), .int lk]) (.int 0) s = some (.tup (vs.map eVar), s) := fun _ => rfl
        have x1 : ∀ s : Sto, ixO (.tup [.tup (vs.map eVar), .int lk]) (.int 1) s = some (.int lk, s) := fun _ => rfl
        simp only [fin_nx, fin_rt, fin_ex, ofO_some, ofO_none, asB_bl, asI_int, truR_bl, outS_some, outE_some, outO_some, R.bind_ok, R.bind_ex, R.bind_bad, R.to_ok, R.to_ex, R.to_bad, Out.seq_nx, Out.seq_rt, Out.seq_bk, Out.seq_ct, Out.seq_ex, Out.seq_bad, cond_true, cond_false, gam_gl, gam_ncls, gam_init, gam_kd, List.getElem?_cons_zero, List.getElem?_cons_succ, List.set_cons_zero, List.set_cons_succ, List.cons_append, List.nil_append, k2_ap, gBin_ap, gCmp_ap, gCmpT_ap, gNeg_ap, gCh3_ap, gCh2_ap, gCh_ap, gCh3T_ap, gCh2T_ap, gChT_ap, gAnd2_ap, gAnd_ap, gOr2_ap, gOr_ap, gNot2_ap, gNot_ap, gIte_ap, gIx_ap, gSl2_ap, gSl1_ap, gSl_ap, gRev_ap, gFld_ap, gMk2_ap, gMk_ap, gMt2_ap, gMt_ap, gBf_ap, gBm2_ap, gBm_ap, gIsi_ap, gLc_ap, gStr_ap, gKget_ap, gKin_ap, gCo2_ap, gCo_ap, gOs2_ap, gOs_ap, gRn1_ap, gRn3_ap, gRn2_ap, gRn_ap, gZp_ap, gAndT_ap, gOrT_ap, gNotT_ap, gJ_ap, sNx_ap, sSet_ap, sSetT_ap, sPar2_ap, sPar1_ap, sI3_ap, sI2_ap, sI1_ap, sF2_ap, sF1_ap, sN2_ap, sN1_ap, sA3_ap, sA2_ap, sA1_ap, sR_ap, sIff_ap, sFr_ap, e_var, e_cst, e_glob, e_bin, e_neg, e_cmp, e_chain, e_and, e_or, e_not, e_ite, e_ix, e_sl, e_rev, e_tup, e_lst, e_dnewK, e_dnewT, e_fld, e_call, e_make, e_meth, e_bf, e_bm, e_isi, e_lc, e_fst, e_fmt, e_kget, e_kin, gDk_ap, gDr_ap, gDv_ap, keyR_str, keyR_int, e_disp, d_nil, d_cons, d1_cons, e_nil, e_cons, j_nil, j_cons, o_none, o_some, c_none, c_some, i_seq, i_rng1, i_rng2, i_zp, i_enm, i_keys, t_cmp, t_chain, t_and, t_or, t_not, t_var, t_ix, t_call, t_meth, t_isi, t_kin, t_fld, t_bf, s_nil, s_cons, s_pass, s_doc, s_brk, s_cnt, s_retN, s_expr, s_asg, s_asgL, s_asgT, s_par, s_asgI, s_asgF, s_augN, s_augF, s_ret, s_iff, s_whl, s_for, s_tryN, strR_str, Option.getD_some, Option.getD_none, Option.isSome_some, Option.isSome_none, mVar, gJc_ap, opN, opB, and_self, true_and, and_true, if_true, if_false, Bool.true_or, Bool.not_true, Bool.not_false, eq_self, x0, x1, tup_lst g7, tup4]
        rw [List.length_map] at l5 l7
        refine ⟨⟨vs, lk, cs, ts⟩, s7, rfl, ⟨by show vs.length ≤ 4; omega, ok2, lk2, by show 1 ≤ cs.length; omega, by show cs.length ≤ 6; omega, fun cc hc => ?_, by show 1 ≤ ts.length; omega, by show ts.length ≤ 4; omega, fun t ht => ?_⟩, by show cs.length ≤ 3; omega, by show ts.length ≤ 3; omega, d7, (F4.trans f5).trans ((Fr.new.trans f6).trans f7)⟩
        · obtain ⟨h1, h2⟩ := okc cc hc
          refine ⟨by omega, fun i hi => ?_⟩
          show OkIns FM vs lk cs.length _ _ _
          rw [l5]
          exact h2 i hi
        · have := okt t ht
          show 0 ≤ t.1 ∧ t.1 < cs.length ∧ _
          rw [l5]
          exact this
end Lk61
set_option Elab.async false
set_option linter.all false
set_option maxRecDepth 100000
set_option maxHeartbeats 4000000
/-! Pd61: the generator of k61: more -/
namespace Lk61
open PySem L2 Ab
/-- the local rows -/
def rowsL : List (Str × List Int) := [("const", [0, -999]), ("copy", [1, 2]), ("sub", [1, 2, 3]), ("mul", [3, 3, 3]), ("less", [0, 1, 2]), ("jump", [0]), ("stop", [])]
theorem rows_ok {vars : List (Int × Bool)} {lk nc pl : Nat} (hp : 1 ≤ pl) : ∀ i ∈ rowsL, OkIns FM vars lk nc pl i.1 i.2 := by
  intro i hi
  have rg : ∀ {w : Str} (v : Int), 0 ≤ v → v < 4 → okP vars lk nc pl w "register" v := fun v h h' => p_reg h h'
  simp only [rowsL, List.mem_cons, List.not_mem_nil, or_false] at hi
  rcases hi with rfl | rfl | rfl | rfl | rfl | rfl | rfl
  · exact OkL.ok (fs := ["register", "value"]) ⟨rg 0 (by decide) (by decide), p_val (by decide) (by decide), trivial⟩ rfl (by decide)
  · exact OkL.ok (fs := ["register", "register"]) ⟨rg 1 (by decide) (by decide), rg 2 (by decide) (by decide), trivial⟩ rfl (by decide)
  · exact OkL.ok (fs := ["register", "register", "register"]) ⟨rg 1 (by decide) (by decide), rg 2 (by decide) (by decide), rg 3 (by decide) (by decide), trivial⟩ rfl (by decide)
  · exact OkL.ok (fs := ["register", "register", "register"]) ⟨rg 3 (by decide) (by decide), rg 3 (by decide) (by decide), rg 3 (by decide) (by decide), trivial⟩ rfl (by decide)
  · exact OkL.ok (fs := ["register", "register", "register"]) ⟨rg 0 (by decide) (by decide), rg 1 (by decide) (by decide), rg 2 (by decide) (by decide), trivial⟩ rfl (by decide)
  · exact OkL.ok (fs := ["place"]) ⟨p_place (by decide) (by omega), trivial⟩ rfl (by decide)
  · exact OkL.ok (fs := []) trivial rfl (by decide)
/-- the second code that is put behind -/
def twoC (j : Nat) : List (Str × List Int) := if j = 0 then [] else if j = 1 then [("branch", [2, 1])] else [("branch", [2, 1]), ("assert", [0])]
theorem two_ok {vars : List (Int × Bool)} {lk nc : Nat} (j : Nat) : ∀ i ∈ twoC j, OkIns FM vars lk nc ((twoC j).length + 1) i.1 i.2 := by
  have rg : ∀ {w : Str} {pl : Nat} (v : Int), 0 ≤ v → v < 4 → okP vars lk nc pl w "register" v := fun v h h' => p_reg h h'
  have br : ∀ pl, 2 ≤ pl → OkIns FM vars lk nc pl "branch" [2, 1] := fun pl h => OkL.ok (fs := ["register", "place"]) ⟨rg 2 (by decide) (by decide), p_place (by decide) (by omega), trivial⟩ rfl (by decide)
  unfold twoC
  by_cases h0 : j = 0
  · rw [if_pos h0]
    exact fun i hi => absurd hi List.not_mem_nil
  rw [if_neg h0]
  by_cases h1 : j = 1
  · rw [if_pos h1]
    intro i hi
    cases List.mem_singleton.mp hi
    exact br _ (by decide)
  rw [if_neg h1]
  intro i hi
  simp only [List.mem_cons, List.not_mem_nil, or_false] at hi
  rcases hi with rfl | rfl
  · exact br _ (by decide)
  · exact OkL.ok (fs := ["register"]) ⟨rg 0 (by decide) (by decide), trivial⟩ rfl (by decide)
theorem two_len (j : Nat) : (twoC j).length ≤ 2 := by
  unfold twoC
  split
  · decide
  · split <;> decide
theorem two_cut {j : Nat} (h : j < 3) : D.tup (List.take j [.tup [.str "branch", .int 2, .int 1], .tup [.str "assert", .int 0]]) = eCode (twoC j) := by
  match j, h with
  | 0, _ => rfl
  | 1, _ => rfl
  | 2, _ => rfl
/-- the rest of more, behind the codes -/
def b27t : Sts := .cons (.asg 4 (.bin .add (.ix (.var 1) (.cst (.int 3))) (.tup (.cons (.tup (.cons (.bin .sub (.bf .len (.cons (.var 2) (.nil))) (.cst (.int 1))) (.cons (.bin .mod (.neg (.call 18 (.cons (.var 0) (.nil)))) (.cst (.int 999))) (.nil)))) (.nil))))) (.cons (.asg 5 (.bin .add (.sl (.ix (.var 1) (.cst (.int 0))) .none (.some (.cst (.int 3)))) (.tup (.cons (.tup (.cons (.bin .sub (.bin .mod (.neg (.call 18 (.cons (.var 0) (.nil)))) (.cst (.int 999))) (.cst (.int 500))) (.cons (.cst (.bl true)) (.nil)))) (.nil))))) (.cons (.iff (.cmp .gt (.bf .len (.cons (.ix (.var 1) (.cst (.int 0))) (.nil))) (.cst (.int 3))) (.cons (.asg 5 (.ix (.var 1) (.cst (.int 0)))) (.nil)) (.nil)) (.cons (.ret (.tup (.cons (.var 5) (.cons (.ix (.var 1) (.cst (.int 1))) (.cons (.bf .tuple (.cons (.var 2) (.nil))) (.cons (.var 4) (.nil))))))) (.nil))))
theorem moreT {k fuel : Nat} {s : Sto} {r l q : Nat} {p : Pg} {cs : List (List (Str × List Int))} {x3 : Option D} (d : Dr s r l) (ok : OkPg FM p) (h3 : p.codes.length ≤ 3) (ht : p.ts.length ≤ 3) (hq : q < s.n) (qr : q ≠ r) (gq : s.g q = .lst ((p.codes ++ cs).map eCode)) (hc : cs.length = 2)
    (hcs : ∀ c ∈ cs, c.length ≤ 16 ∧ ∀ vars nc, ∀ i ∈ c, OkIns FM vars p.locks nc (c.length + 1) i.1 i.2) :
    Progs 5 4 r l s (svs (T.gam fuel (k + 4)) fuel b27t [some (.ref r), some p.enc, some (.ref q), x3, none, none, none] s).fin := by
  have t0 : tupOf p.enc = some [.tup (p.vars.map eVar), .int p.locks, .tup (p.codes.map eCode), .tup (p.ts.map eThr)] := rfl
  have i0 : ∀ s, ixO p.enc (.int 0) s = some (.tup (p.vars.map eVar), s) := fun s => rfl
  have i1 : ∀ s, ixO p.enc (.int 1) s = some (.int p.locks, s) := fun s => rfl
  have i3 : ∀ s, ixO p.enc (.int 3) s = some (.tup (p.ts.map eThr), s) := fun s => rfl
  have p999 : (0 : Int) < 999 := by decide
  obtain ⟨n1, s1, e1, d1, f1⟩ := draw (k := k + 2) (fuel := fuel) d
  obtain ⟨n2, s2, e2, d2, f2⟩ := draw (k := k + 2) (fuel := fuel) d1
  have gq2 : s2.g q = .lst ((p.codes ++ cs).map eCode) := ((f1.trans f2).eq q hq qr).trans gq
  have L : (p.codes ++ cs).length = p.codes.length + 2 := by rw [List.length_append, hc]
  have len0 : fO .len [.ref q] s = some (.int ((p.codes.length + 2 : Nat) : Int), s) := by rw [len_lst gq, List.length_map, L]
  have c1 : ((p.codes.length + 2 : Nat) : Int) - 1 = ((p.codes.length + 1 : Nat) : Int) := by omega
  have at1 : (p.ts.map eThr).length + [D.tup [.int ((p.codes.length + 1 : Nat) : Int), .int (-n1 % 999)]].length ≤ sizeLine := sz_ge (by simp; omega)
  have sl1 := sl_tup (s := s1) (j := 3) (xs := p.vars.map eVar)
  have sl1 : slO (.tup (p.vars.map eVar)) none (some 3) s1 = _ := sl1
  have at2 : ((p.vars.map eVar).take 3).length + [D.tup [.int (-n2 % 999 - 500), .bl true]].length ≤ sizeLine := sz_ge (by simp; omega)
  have l0 : ∀ s : Sto, fO .len [.tup (p.vars.map eVar)] s = some (.int ((p.vars.length : Nat) : Int), s) := fun s => by rw [len_tup rfl, List.length_map]
  have m1 := mod_nn (-n1) p999
  have m1' := mod_lt (-n1) p999
  have m2 := mod_nn (-n2) p999
  have m2' := mod_lt (-n2) p999
  have fin_ : ∀ vs : List (Int × Bool), vs.length ≤ 4 → (∀ v ∈ vs, -999 ≤ v.1 ∧ v.1 ≤ 999) → (∀ (j : Nat) x, p.vars[j]? = some x → vs[j]? = some x) →
      Progs 5 4 r l s (.ok (.tup [.tup (vs.map eVar), .int p.locks, .tup ((p.codes ++ cs).map eCode), .tup (p.ts.map eThr ++ [.tup [.int ((p.codes.length + 1 : Nat) : Int), .int (-n1 % 999)]])]) s2) := by
    intro vs h4 hv hm
    have e : p.ts.map eThr ++ [.tup [.int ((p.codes.length + 1 : Nat) : Int), .int (-n1 % 999)]] = (p.ts ++ [(((p.codes.length + 1 : Nat) : Int), -n1 % 999)]).map eThr := by simp [eThr]
    rw [e]
    refine ⟨⟨vs, p.locks, p.codes ++ cs, p.ts ++ [(((p.codes.length + 1 : Nat) : Int), -n1 % 999)]⟩, s2, rfl, ⟨h4, hv, ok.lk, by show 1 ≤ (p.codes ++ cs).length; omega, by show (p.codes ++ cs).length ≤ 6; omega, fun c hcc => ?_, by simp, by simp; omega, fun t htt => ?_⟩, by show (p.codes ++ cs).length ≤ 5; omega, by simp; omega, d2, f1.trans f2⟩
    · rcases List.mem_append.mp hcc with h | h
      · obtain ⟨k1, k2⟩ := ok.c3 c h
        exact ⟨k1, fun i hi => (k2 i hi).mono hm (by show p.codes.length ≤ (p.codes ++ cs).length; omega) (Nat.le_refl _)⟩
      · obtain ⟨k1, k2⟩ := hcs c h
        exact ⟨k1, fun i hi => k2 _ _ i hi⟩
    · show 0 ≤ t.1 ∧ t.1 < ((p.codes ++ cs).length : Nat) ∧ _
      rw [L]
      rcases List.mem_append.mp htt with h | h
      · obtain ⟨a, b, c⟩ := ok.t3 t h
        exact ⟨a, by omega, c⟩
      · cases List.mem_singleton.mp h
        exact ⟨by show (0 : Int) ≤ ((p.codes.length + 1 : Nat) : Int); omega, by show ((p.codes.length + 1 : Nat) : Int) < _; omega, by show -999 ≤ -n1 % 999; omega, by show -n1 % 999 ≤ 999; omega⟩
  unfold b27t
  simp only [fin_nx, fin_rt, fin_ex, ofO_some, ofO_none, asB_bl, asI_int, truR_bl, outS_some, outE_some, outO_some, R.bind_ok, R.bind_ex, R.bind_bad, R.to_ok, R.to_ex, R.to_bad, Out.seq_nx, Out.seq_rt, Out.seq_bk, Out.seq_ct, Out.seq_ex, Out.seq_bad, cond_true, cond_false, gam_gl, gam_ncls, gam_init, gam_kd, List.getElem?_cons_zero, List.getElem?_cons_succ, List.set_cons_zero, List.set_cons_succ, List.cons_append, List.nil_append, k2_ap, gBin_ap, gCmp_ap, gCmpT_ap, gNeg_ap, gCh3_ap, gCh2_ap, gCh_ap, gCh3T_ap, gCh2T_ap, gChT_ap, gAnd2_ap, gAnd_ap, gOr2_ap, gOr_ap, gNot2_ap, gNot_ap, gIte_ap, gIx_ap, gSl2_ap, gSl1_ap, gSl_ap, gRev_ap, gFld_ap, gMk2_ap, gMk_ap, gMt2_ap, gMt_ap, gBf_ap, gBm2_ap, gBm_ap, gIsi_ap, gLc_ap, gStr_ap, gKget_ap, gKin_ap, gCo2_ap, gCo_ap, gOs2_ap, gOs_ap, gRn1_ap, gRn3_ap, gRn2_ap, gRn_ap, gZp_ap, gAndT_ap, gOrT_ap, gNotT_ap, gJ_ap, sNx_ap, sSet_ap, sSetT_ap, sPar2_ap, sPar1_ap, sI3_ap, sI2_ap, sI1_ap, sF2_ap, sF1_ap, sN2_ap, sN1_ap, sA3_ap, sA2_ap, sA1_ap, sR_ap, sIff_ap, sFr_ap, e_var, e_cst, e_glob, e_bin, e_neg, e_cmp, e_chain, e_and, e_or, e_not, e_ite, e_ix, e_sl, e_rev, e_tup, e_lst, e_dnewK, e_dnewT, e_fld, e_call, e_make, e_meth, e_bf, e_bm, e_isi, e_lc, e_fst, e_fmt, e_kget, e_kin, gDk_ap, gDr_ap, gDv_ap, keyR_str, keyR_int, e_disp, d_nil, d_cons, d1_cons, e_nil, e_cons, j_nil, j_cons, o_none, o_some, c_none, c_some, i_seq, i_rng1, i_rng2, i_zp, i_enm, i_keys, t_cmp, t_chain, t_and, t_or, t_not, t_var, t_ix, t_call, t_meth, t_isi, t_kin, t_fld, t_bf, s_nil, s_cons, s_pass, s_doc, s_brk, s_cnt, s_retN, s_expr, s_asg, s_asgL, s_asgT, s_par, s_asgI, s_asgF, s_augN, s_augF, s_ret, s_iff, s_whl, s_for, s_tryN, strR_str, Option.getD_some, Option.getD_none, Option.isSome_some, Option.isSome_none, mVar, gJc_ap, opN, opB, and_self, true_and, and_true, if_true, if_false, Bool.true_or, Bool.not_true, Bool.not_false, eq_self, i3, len0, c1, e1, p999, tup2, tup1, at1, i0, sl1, e2, at2, l0, gt_int]
  by_cases hv : (3 : Int) < (p.vars.length : Nat)
  · rw [decide_eq_true hv]
    simp only [fin_nx, fin_rt, fin_ex, ofO_some, ofO_none, asB_bl, asI_int, truR_bl, outS_some, outE_some, outO_some, R.bind_ok, R.bind_ex, R.bind_bad, R.to_ok, R.to_ex, R.to_bad, Out.seq_nx, Out.seq_rt, Out.seq_bk, Out.seq_ct, Out.seq_ex, Out.seq_bad, cond_true, cond_false, gam_gl, gam_ncls, gam_init, gam_kd, List.getElem?_cons_zero, List.getElem?_cons_succ, List.set_cons_zero, List.set_cons_succ, List.cons_append, List.nil_append, k2_ap, gBin_ap, gCmp_ap, gCmpT_ap, gNeg_ap, gCh3_ap, gCh2_ap, gCh_ap, gCh3T_ap, gCh2T_ap, gChT_ap, gAnd2_ap, gAnd_ap, gOr2_ap, gOr_ap, gNot2_ap, gNot_ap, gIte_ap, gIx_ap, gSl2_ap, gSl1_ap, gSl_ap, gRev_ap, gFld_ap, gMk2_ap, gMk_ap, gMt2_ap, gMt_ap, gBf_ap, gBm2_ap, gBm_ap, gIsi_ap, gLc_ap, gStr_ap, gKget_ap, gKin_ap, gCo2_ap, gCo_ap, gOs2_ap, gOs_ap, gRn1_ap, gRn3_ap, gRn2_ap, gRn_ap, gZp_ap, gAndT_ap, gOrT_ap, gNotT_ap, gJ_ap, sNx_ap, sSet_ap, sSetT_ap, sPar2_ap, sPar1_ap, sI3_ap, sI2_ap, sI1_ap, sF2_ap, sF1_ap, sN2_ap, sN1_ap, sA3_ap, sA2_ap, sA1_ap, sR_ap, sIff_ap, sFr_ap, e_var, e_cst, e_glob, e_bin, e_neg, e_cmp, e_chain, e_and, e_or, e_not, e_ite, e_ix, e_sl, e_rev, e_tup, e_lst, e_dnewK, e_dnewT, e_fld, e_call, e_make, e_meth, e_bf, e_bm, e_isi, e_lc, e_fst, e_fmt, e_kget, e_kin, gDk_ap, gDr_ap, gDv_ap, keyR_str, keyR_int, e_disp, d_nil, d_cons, d1_cons, e_nil, e_cons, j_nil, j_cons, o_none, o_some, c_none, c_some, i_seq, i_rng1, i_rng2, i_zp, i_enm, i_keys, t_cmp, t_chain, t_and, t_or, t_not, t_var, t_ix, t_call, t_meth, t_isi, t_kin, t_fld, t_bf, s_nil, s_cons, s_pass, s_doc, s_brk, s_cnt, s_retN, s_expr, s_asg, s_asgL, s_asgT, s_par, s_asgI, s_asgF, s_augN, s_augF, s_ret, s_iff, s_whl, s_for, s_tryN, strR_str, Option.getD_some, Option.getD_none, Option.isSome_some, Option.isSome_none, mVar, gJc_ap, opN, opB, and_self, true_and, and_true, if_true, if_false, Bool.true_or, Bool.not_true, Bool.not_false, eq_self, i0, i1, tup_lst gq2, tup4]
    exact fin_ p.vars ok.v1 ok.v2 fun _ _ h => h
  · rw [decide_eq_false hv]
    simp only [fin_nx, fin_rt, fin_ex, ofO_some, ofO_none, asB_bl, asI_int, truR_bl, outS_some, outE_some, outO_some, R.bind_ok, R.bind_ex, R.bind_bad, R.to_ok, R.to_ex, R.to_bad, Out.seq_nx, Out.seq_rt, Out.seq_bk, Out.seq_ct, Out.seq_ex, Out.seq_bad, cond_true, cond_false, gam_gl, gam_ncls, gam_init, gam_kd, List.getElem?_cons_zero, List.getElem?_cons_succ, List.set_cons_zero, List.set_cons_succ, List.cons_append, List.nil_append, k2_ap, gBin_ap, gCmp_ap, gCmpT_ap, gNeg_ap, gCh3_ap, gCh2_ap, gCh_ap, gCh3T_ap, gCh2T_ap, gChT_ap, gAnd2_ap, gAnd_ap, gOr2_ap, gOr_ap, gNot2_ap, gNot_ap, gIte_ap, gIx_ap, gSl2_ap, gSl1_ap, gSl_ap, gRev_ap, gFld_ap, gMk2_ap, gMk_ap, gMt2_ap, gMt_ap, gBf_ap, gBm2_ap, gBm_ap, gIsi_ap, gLc_ap, gStr_ap, gKget_ap, gKin_ap, gCo2_ap, gCo_ap, gOs2_ap, gOs_ap, gRn1_ap, gRn3_ap, gRn2_ap, gRn_ap, gZp_ap, gAndT_ap, gOrT_ap, gNotT_ap, gJ_ap, sNx_ap, sSet_ap, sSetT_ap, sPar2_ap, sPar1_ap, sI3_ap, sI2_ap, sI1_ap, sF2_ap, sF1_ap, sN2_ap, sN1_ap, sA3_ap, sA2_ap, sA1_ap, sR_ap, sIff_ap, sFr_ap, e_var, e_cst, e_glob, e_bin, e_neg, e_cmp, e_chain, e_and, e_or, e_not, e_ite, e_ix, e_sl, e_rev, e_tup, e_lst, e_dnewK, e_dnewT, e_fld, e_call, e_make, e_meth, e_bf, e_bm, e_isi, e_lc, e_fst, e_fmt, e_kget, e_kin, gDk_ap, gDr_ap, gDv_ap, keyR_str, keyR_int, e_disp, d_nil, d_cons, d1_cons, e_nil, e_cons, j_nil, j_cons, o_none, o_some, c_none, c_some, i_seq, i_rng1, i_rng2, i_zp, i_enm, i_keys, t_cmp, t_chain, t_and, t_or, t_not, t_var, t_ix, t_call, t_meth, t_isi, t_kin, t_fld, t_bf, s_nil, s_cons, s_pass, s_doc, s_brk, s_cnt, s_retN, s_expr, s_asg, s_asgL, s_asgT, s_par, s_asgI, s_asgF, s_augN, s_augF, s_ret, s_iff, s_whl, s_for, s_tryN, strR_str, Option.getD_some, Option.getD_none, Option.isSome_some, Option.isSome_none, mVar, gJc_ap, opN, opB, and_self, true_and, and_true, if_true, if_false, Bool.true_or, Bool.not_true, Bool.not_false, eq_self, i0, i1, tup_lst gq2, tup4]
    have e : (p.vars.map eVar).take 3 ++ [.tup [.int (-n2 % 999 - 500), .bl true]] = (p.vars ++ [(-n2 % 999 - 500, true)]).map eVar := by
      rw [List.take_of_length_le (by rw [List.length_map]; omega)]
      simp [eVar]
    rw [e]
    refine fin_ _ (by simp; omega) (fun v hv' => ?_) fun j x h => ?_
    · rcases List.mem_append.mp hv' with h | h
      · exact ok.v2 v h
      · cases List.mem_singleton.mp h
        exact ⟨by show -999 ≤ -n2 % 999 - 500; omega, by show -n2 % 999 - 500 ≤ 999; omega⟩
    · rw [List.getElem?_append_left (List.getElem?_eq_some_iff.mp h).1]
      exact h
theorem more {k fuel : Nat} {s : Sto} {r l : Nat} {p : Pg} (d : Dr s r l) (ok : OkPg FM p) (h3 : p.codes.length ≤ 3) (ht : p.ts.length ≤ 3) : Progs 5 4 r l s ((T.gam fuel (k + 5)).fn 27 [.ref r, p.enc] s) := by
  rw [i27.call rfl]
  show Progs 5 4 r l s (svs _ _ b27 [some (.ref r), some p.enc, none, none, none, none, none] s).fin
  have hr := d.hr
  have hl := d.hl
  have i2 : ∀ s, ixO p.enc (.int 2) s = some (.tup (p.codes.map eCode), s) := fun s => rfl
  have ls : fO .list [.tup (p.codes.map eCode)] s = some (.ref s.n, s.new (.lst (p.codes.map eCode))) := rfl
  have y1 := lst_n (xs := [.tup [.str "const", .int 0, .int (-999)], .tup [.str "copy", .int 1, .int 2], .tup [.str "sub", .int 1, .int 2, .int 3], .tup [.str "mul", .int 3, .int 3, .int 3], .tup [.str "less", .int 0, .int 1, .int 2], .tup [.str "jump", .int 0], .tup [.str "stop"]]) (s.new (.lst (p.codes.map eCode))) (by show 7 ≤ 100; decide)
  generalize hS : (s.new (.lst (p.codes.map eCode))).new (.lst [.tup [.str "const", .int 0, .int (-999)], .tup [.str "copy", .int 1, .int 2], .tup [.str "sub", .int 1, .int 2, .int 3], .tup [.str "mul", .int 3, .int 3, .int 3], .tup [.str "less", .int 0, .int 1, .int 2], .tup [.str "jump", .int 0], .tup [.str "stop"]]) = sA at y1
  have dA : Dr sA r l := hS ▸ d.new.new
  have fA : Fr (· = r) s sA := hS ▸ Fr.new.trans Fr.new
  have nA : sA.n = s.n + 2 := by rw [← hS]; rfl
  have gA : sA.g s.n = .lst (p.codes.map eCode) := by rw [← hS]; exact new_at (Nat.lt_succ_self _) new_g
  have hA : sA.g (s.n + 1) = .lst (rowsL.map eI) := by rw [← hS]; exact new_g
  obtain ⟨n1, s1, e1, d1, f1⟩ := draw (k := k + 2) (fuel := fuel) dA
  obtain ⟨m0, hm0, hm4⟩ := mod_nat n1 (m := 4) (by decide)
  have hm0 : n1 % 4 = (m0 : Int) := hm0
  have p4 : (0 : Int) < 4 := by decide
  have p7 : (0 : Int) < 7 := by decide
  have p3 : (0 : Int) < 3 := by decide
  have w1 := rng_nat (n := m0) (s := s1) (by omega)
  have a1 : tyO .append (.ref s.n) sA = true := app_ty gA
  have g1 : s1.g (s.n + 1) = .lst (rowsL.map eI) := (f1.eq (s.n + 1) (by omega) (by omega)).trans hA
  have g1' : s1.g s.n = .lst (p.codes.map eCode) := (f1.eq s.n (by omega) (by omega)).trans gA
  have n1' := f1.le
  unfold b27
  simp only [fin_nx, fin_rt, fin_ex, ofO_some, ofO_none, asB_bl, asI_int, truR_bl, outS_some, outE_some, outO_some, R.bind_ok, R.bind_ex, R.bind_bad, R.to_ok, R.to_ex, R.to_bad, Out.seq_nx, Out.seq_rt, Out.seq_bk, Out.seq_ct, Out.seq_ex, Out.seq_bad, cond_true, cond_false, gam_gl, gam_ncls, gam_init, gam_kd, List.getElem?_cons_zero, List.getElem?_cons_succ, List.set_cons_zero, List.set_cons_succ, List.cons_append, List.nil_append, k2_ap, gBin_ap, gCmp_ap, gCmpT_ap, gNeg_ap, gCh3_ap, gCh2_ap, gCh_ap, gCh3T_ap, gCh2T_ap, gChT_ap, gAnd2_ap, gAnd_ap, gOr2_ap, gOr_ap, gNot2_ap, gNot_ap, gIte_ap, gIx_ap, gSl2_ap, gSl1_ap, gSl_ap, gRev_ap, gFld_ap, gMk2_ap, gMk_ap, gMt2_ap, gMt_ap, gBf_ap, gBm2_ap, gBm_ap, gIsi_ap, gLc_ap, gStr_ap, gKget_ap, gKin_ap, gCo2_ap, gCo_ap, gOs2_ap, gOs_ap, gRn1_ap, gRn3_ap, gRn2_ap, gRn_ap, gZp_ap, gAndT_ap, gOrT_ap, gNotT_ap, gJ_ap, sNx_ap, sSet_ap, sSetT_ap, sPar2_ap, sPar1_ap, sI3_ap, sI2_ap, sI1_ap, sF2_ap, sF1_ap, sN2_ap, sN1_ap, sA3_ap, sA2_ap, sA1_ap, sR_ap, sIff_ap, sFr_ap, e_var, e_cst, e_glob, e_bin, e_neg, e_cmp, e_chain, e_and, e_or, e_not, e_ite, e_ix, e_sl, e_rev, e_tup, e_lst, e_dnewK, e_dnewT, e_fld, e_call, e_make, e_meth, e_bf, e_bm, e_isi, e_lc, e_fst, e_fmt, e_kget, e_kin, gDk_ap, gDr_ap, gDv_ap, keyR_str, keyR_int, e_disp, d_nil, d_cons, d1_cons, e_nil, e_cons, j_nil, j_cons, o_none, o_some, c_none, c_some, i_seq, i_rng1, i_rng2, i_zp, i_enm, i_keys, t_cmp, t_chain, t_and, t_or, t_not, t_var, t_ix, t_call, t_meth, t_isi, t_kin, t_fld, t_bf, s_nil, s_cons, s_pass, s_doc, s_brk, s_cnt, s_retN, s_expr, s_asg, s_asgL, s_asgT, s_par, s_asgI, s_asgF, s_augN, s_augF, s_ret, s_iff, s_whl, s_for, s_tryN, strR_str, Option.getD_some, Option.getD_none, Option.isSome_some, Option.isSome_none, mVar, gJc_ap, opN, opB, and_self, true_and, and_true, if_true, if_false, Bool.true_or, Bool.not_true, Bool.not_false, eq_self, i2, ls, tup3, tup2, tup1, tup4, y1]
  rw [show (s.new (.lst (p.codes.map eCode))).n = s.n + 1 from rfl]
  simp only [fin_nx, fin_rt, fin_ex, ofO_some, ofO_none, asB_bl, asI_int, truR_bl, outS_some, outE_some, outO_some, R.bind_ok, R.bind_ex, R.bind_bad, R.to_ok, R.to_ex, R.to_bad, Out.seq_nx, Out.seq_rt, Out.seq_bk, Out.seq_ct, Out.seq_ex, Out.seq_bad, cond_true, cond_false, gam_gl, gam_ncls, gam_init, gam_kd, List.getElem?_cons_zero, List.getElem?_cons_succ, List.set_cons_zero, List.set_cons_succ, List.cons_append, List.nil_append, k2_ap, gBin_ap, gCmp_ap, gCmpT_ap, gNeg_ap, gCh3_ap, gCh2_ap, gCh_ap, gCh3T_ap, gCh2T_ap, gChT_ap, gAnd2_ap, gAnd_ap, gOr2_ap, gOr_ap, gNot2_ap, gNot_ap, gIte_ap, gIx_ap, gSl2_ap, gSl1_ap, gSl_ap, gRev_ap, gFld_ap, gMk2_ap, gMk_ap, gMt2_ap, gMt_ap, gBf_ap, gBm2_ap, gBm_ap, gIsi_ap, gLc_ap, gStr_ap, gKget_ap, gKin_ap, gCo2_ap, gCo_ap, gOs2_ap, gOs_ap, gRn1_ap, gRn3_ap, gRn2_ap, gRn_ap, gZp_ap, gAndT_ap, gOrT_ap, gNotT_ap, gJ_ap, sNx_ap, sSet_ap, sSetT_ap, sPar2_ap, sPar1_ap, sI3_ap, sI2_ap, sI1_ap, sF2_ap, sF1_ap, sN2_ap, sN1_ap, sA3_ap, sA2_ap, sA1_ap, sR_ap, sIff_ap, sFr_ap, e_var, e_cst, e_glob, e_bin, e_neg, e_cmp, e_chain, e_and, e_or, e_not, e_ite, e_ix, e_sl, e_rev, e_tup, e_lst, e_dnewK, e_dnewT, e_fld, e_call, e_make, e_meth, e_bf, e_bm, e_isi, e_lc, e_fst, e_fmt, e_kget, e_kin, gDk_ap, gDr_ap, gDv_ap, keyR_str, keyR_int, e_disp, d_nil, d_cons, d1_cons, e_nil, e_cons, j_nil, j_cons, o_none, o_some, c_none, c_some, i_seq, i_rng1, i_rng2, i_zp, i_enm, i_keys, t_cmp, t_chain, t_and, t_or, t_not, t_var, t_ix, t_call, t_meth, t_isi, t_kin, t_fld, t_bf, s_nil, s_cons, s_pass, s_doc, s_brk, s_cnt, s_retN, s_expr, s_asg, s_asgL, s_asgT, s_par, s_asgI, s_asgF, s_augN, s_augF, s_ret, s_iff, s_whl, s_for, s_tryN, strR_str, Option.getD_some, Option.getD_none, Option.isSome_some, Option.isSome_none, mVar, gJc_ap, opN, opB, and_self, true_and, and_true, if_true, if_false, Bool.true_or, Bool.not_true, Bool.not_false, eq_self, a1, e1, p4, hm0, w1]
  generalize hX : lcLoop _ _ _ _ _ _ _ _ = o
  refine lc_dr hX (fun _ _ => rfl) m0 (fun x => ∃ i, x = eI i ∧ i ∈ rowsL) d1 (by show m0 < m0 + 1; omega) (by omega) ?_ (fun _ => by simp [sItem]) ?_
  · intro j s' hj d' f'
    obtain ⟨n7, s7, e7, d7, f7⟩ := draw (k := k + 2) (fuel := fuel) d'
    have g7 : s7.g (s.n + 1) = .lst (rowsL.map eI) := ((f'.trans f7).eq (s.n + 1) (by omega) (by omega)).trans g1
    obtain ⟨x, hx, z7⟩ := pick g7 (m := 7) rfl (by decide) n7
    have z7 : ixO (.ref (s.n + 1)) (.int (n7 % 7)) s7 = some (x, s7) := z7
    refine ⟨.int (0 + j), [some (.ref r), some p.enc, some (.ref s.n), some (.ref (s.n + 1)), none, none, some (.int (0 + j))], by simp [sItem, hj], rfl, ?_⟩
    simp only [fin_nx, fin_rt, fin_ex, ofO_some, ofO_none, asB_bl, asI_int, truR_bl, outS_some, outE_some, outO_some, R.bind_ok, R.bind_ex, R.bind_bad, R.to_ok, R.to_ex, R.to_bad, Out.seq_nx, Out.seq_rt, Out.seq_bk, Out.seq_ct, Out.seq_ex, Out.seq_bad, cond_true, cond_false, gam_gl, gam_ncls, gam_init, gam_kd, List.getElem?_cons_zero, List.getElem?_cons_succ, List.set_cons_zero, List.set_cons_succ, List.cons_append, List.nil_append, k2_ap, gBin_ap, gCmp_ap, gCmpT_ap, gNeg_ap, gCh3_ap, gCh2_ap, gCh_ap, gCh3T_ap, gCh2T_ap, gChT_ap, gAnd2_ap, gAnd_ap, gOr2_ap, gOr_ap, gNot2_ap, gNot_ap, gIte_ap, gIx_ap, gSl2_ap, gSl1_ap, gSl_ap, gRev_ap, gFld_ap, gMk2_ap, gMk_ap, gMt2_ap, gMt_ap, gBf_ap, gBm2_ap, gBm_ap, gIsi_ap, gLc_ap, gStr_ap, gKget_ap, gKin_ap, gCo2_ap, gCo_ap, gOs2_ap, gOs_ap, gRn1_ap, gRn3_ap, gRn2_ap, gRn_ap, gZp_ap, gAndT_ap, gOrT_ap, gNotT_ap, gJ_ap, sNx_ap, sSet_ap, sSetT_ap, sPar2_ap, sPar1_ap, sI3_ap, sI2_ap, sI1_ap, sF2_ap, sF1_ap, sN2_ap, sN1_ap, sA3_ap, sA2_ap, sA1_ap, sR_ap, sIff_ap, sFr_ap, e_var, e_cst, e_glob, e_bin, e_neg, e_cmp, e_chain, e_and, e_or, e_not, e_ite, e_ix, e_sl, e_rev, e_tup, e_lst, e_dnewK, e_dnewT, e_fld, e_call, e_make, e_meth, e_bf, e_bm, e_isi, e_lc, e_fst, e_fmt, e_kget, e_kin, gDk_ap, gDr_ap, gDv_ap, keyR_str, keyR_int, e_disp, d_nil, d_cons, d1_cons, e_nil, e_cons, j_nil, j_cons, o_none, o_some, c_none, c_some, i_seq, i_rng1, i_rng2, i_zp, i_enm, i_keys, t_cmp, t_chain, t_and, t_or, t_not, t_var, t_ix, t_call, t_meth, t_isi, t_kin, t_fld, t_bf, s_nil, s_cons, s_pass, s_doc, s_brk, s_cnt, s_retN, s_expr, s_asg, s_asgL, s_asgT, s_par, s_asgI, s_asgF, s_augN, s_augF, s_ret, s_iff, s_whl, s_for, s_tryN, strR_str, Option.getD_some, Option.getD_none, Option.isSome_some, Option.isSome_none, mVar, gJc_ap, opN, opB, and_self, true_and, and_true, if_true, if_false, Bool.true_or, Bool.not_true, Bool.not_false, eq_self, e7, p7, z7]
    obtain ⟨i, h1, h2⟩ := List.mem_map.mp hx
    exact ⟨_, _, rfl, ⟨i, h2.symm, h1⟩, d7, f7⟩
  · rintro xs s2 l2 ok2 g2 lt2 d2 f2 rfl
    obtain ⟨cA, rfl, okA⟩ := unmap ok2
    have cl : cA.length = m0 := by rw [List.length_map] at l2; exact l2
    have g2' : s2.g s.n = .lst (p.codes.map eCode) := (f2.eq s.n (by omega) (by omega)).trans g1'
    have a2 := app_is (x := .tup (cA.map eI)) g2' (by rw [List.length_map]; have := sz_ge (Nat.le_refl 100); omega)
    have e3' : p.codes.map eCode ++ [.tup (cA.map eI)] = (p.codes ++ [cA]).map eCode := by simp [eCode]
    rw [e3'] at a2
    have d3 : Dr (s2.put s.n (.lst ((p.codes ++ [cA]).map eCode))) r l := d2.keep (Fr.put (X := (· = s.n)) rfl) (by omega) (by omega)
    have g3 : (s2.put s.n (.lst ((p.codes ++ [cA]).map eCode))).g s.n = .lst ((p.codes ++ [cA]).map eCode) := put_g
    have a3 := app_ty g3
    obtain ⟨n4, s4, e4, d4, f4⟩ := draw (k := k + 2) (fuel := fuel) d3
    have ns4 : s2.n ≤ s4.n := f4.le
    have g4 : s4.g s.n = .lst ((p.codes ++ [cA]).map eCode) := (f4.eq s.n (by show s.n < s2.n; omega) (by omega)).trans g3
    obtain ⟨j4, hj4, hj3⟩ := mod_nat n4 (m := 3) (by decide)
    have hj4 : n4 % 3 = (j4 : Int) := hj4
    have sl4 := sl_tup (s := s4) (j := j4) (xs := [.tup [.str "branch", .int 2, .int 1], .tup [.str "assert", .int 0]])
    rw [two_cut hj3] at sl4
    have a4 := app_is (x := eCode (twoC j4)) g4 (by rw [List.length_map, List.length_append, List.length_singleton]; have := sz_ge (Nat.le_refl 100); omega)
    have e5' : (p.codes ++ [cA]).map eCode ++ [eCode (twoC j4)] = (p.codes ++ [cA, twoC j4]).map eCode := by simp
    rw [e5'] at a4
    generalize hS5 : s4.put s.n (.lst ((p.codes ++ [cA, twoC j4]).map eCode)) = s5 at a4
    have g5 : s5.g s.n = .lst ((p.codes ++ [cA, twoC j4]).map eCode) := by rw [← hS5]; exact put_g
    have d5 : Dr s5 r l := hS5 ▸ d4.keep (Fr.put (X := (· = s.n)) rfl) (by omega) (by omega)
    have n5 : s5.n = s4.n := by rw [← hS5]; rfl
    have F5 : Fr (· = r) s s5 := by
      rw [← hS5]
      refine ⟨by show s.n ≤ s4.n; omega, fun q hq hx => (put_ne (Nat.ne_of_lt hq)).trans ?_⟩
      exact (f4.eq q (by show q < s2.n; omega) hx).trans ((put_ne (Nat.ne_of_lt hq)).trans (((fA.trans f1).trans f2).eq q hq hx))
    have len5 : fO .len [.ref s.n] s5 = some (.int ((p.codes.length + 2 : Nat) : Int), s5) := by rw [len_lst g5, List.length_map, List.length_append]; rfl
    have c1 : ((p.codes.length + 2 : Nat) : Int) - 1 = ((p.codes.length + 1 : Nat) : Int) := by omega
    have x5 : ixO (.ref s.n) (.int ((p.codes.length + 1 : Nat) : Int)) s5 = some (eCode (twoC j4), s5) := ixO_lst g5 (Ab.atI_nat (by rw [List.getElem?_map, List.getElem?_append_right (by omega)]; simp))
    have l5 : fO .len [eCode (twoC j4)] s5 = some (.int ((twoC j4).length : Nat), s5) := by rw [len_tup (xs := (twoC j4).map eI) rfl, List.length_map]
    have hcs : ∀ c ∈ [cA, twoC j4], c.length ≤ 16 ∧ ∀ vars nc, ∀ i ∈ c, OkIns FM vars p.locks nc (c.length + 1) i.1 i.2 := by
      intro c hc
      simp only [List.mem_cons, List.not_mem_nil, or_false] at hc
      rcases hc with rfl | rfl
      · exact ⟨by omega, fun vars nc i hi => rows_ok (by omega) i (okA i hi)⟩
      · exact ⟨Nat.le_trans (two_len _) (by decide), fun vars nc => two_ok j4⟩
    have fin_ : ∀ s6, Dr s6 r l → Fr (· = r) s s6 → s.n < s6.n → s6.g s.n = .lst ((p.codes ++ [cA, twoC j4]).map eCode) → Progs 5 4 r l s (svs (T.gam fuel (k + 4)) fuel b27t [some (.ref r), some p.enc, some (.ref s.n), some (.ref (s.n + 1)), none, none, none] s6).fin := by
      intro s6 d6 f6 n6 g6
      obtain ⟨p', s', h1, h2, h3, h4, h5, h6⟩ := moreT (k := k) (fuel := fuel) (x3 := some (.ref (s.n + 1))) d6 ok h3 ht n6 (by omega) g6 rfl hcs
      exact ⟨p', s', h1, h2, h3, h4, h5, f6.trans h6⟩
    simp only [fin_nx, fin_rt, fin_ex, ofO_some, ofO_none, asB_bl, asI_int, truR_bl, outS_some, outE_some, outO_some, R.bind_ok, R.bind_ex, R.bind_bad, R.to_ok, R.to_ex, R.to_bad, Out.seq_nx, Out.seq_rt, Out.seq_bk, Out.seq_ct, Out.seq_ex, Out.seq_bad, cond_true, cond_false, gam_gl, gam_ncls, gam_init, gam_kd, List.getElem?_cons_zero, List.getElem?_cons_succ, List.set_cons_zero, List.set_cons_succ, List.cons_append, List.nil_append, k2_ap, gBin_ap, gCmp_ap, gCmpT_ap, gNeg_ap, gCh3_ap, gCh2_ap, gCh_ap, gCh3T_ap, gCh2T_ap, gChT_ap, gAnd2_ap, gAnd_ap, gOr2_ap, gOr_ap, gNot2_ap, gNot_ap, gIte_ap, gIx_ap, gSl2_ap, gSl1_ap, gSl_ap, gRev_ap, gFld_ap, gMk2_ap, gMk_ap, gMt2_ap, gMt_ap, gBf_ap, gBm2_ap, gBm_ap, gIsi_ap, gLc_ap, gStr_ap, gKget_ap, gKin_ap, gCo2_ap, gCo_ap, gOs2_ap, gOs_ap, gRn1_ap, gRn3_ap, gRn2_ap, gRn_ap, gZp_ap, gAndT_ap, gOrT_ap, gNotT_ap, gJ_ap, sNx_ap, sSet_ap, sSetT_ap, sPar2_ap, sPar1_ap, sI3_ap, sI2_ap, sI1_ap, sF2_ap, sF1_ap, sN2_ap, sN1_ap, sA3_ap, sA2_ap, sA1_ap, sR_ap, sIff_ap, sFr_ap, e_var, e_cst, e_glob, e_bin, e_neg, e_cmp, e_chain, e_and, e_or, e_not, e_ite, e_ix, e_sl, e_rev, e_tup, e_lst, e_dnewK, e_dnewT, e_fld, e_call, e_make, e_meth, e_bf, e_bm, e_isi, e_lc, e_fst, e_fmt, e_kget, e_kin, gDk_ap, gDr_ap, gDv_ap, keyR_str, keyR_int, e_disp, d_nil, d_cons, d1_cons, e_nil, e_cons, j_nil, j_cons, o_none, o_some, c_none, c_some, i_seq, i_rng1, i_rng2, i_zp, i_enm, i_keys, t_cmp, t_chain, t_and, t_or, t_not, t_var, t_ix, t_call, t_meth, t_isi, t_kin, t_fld, t_bf, s_nil, s_cons, s_pass, s_doc, s_brk, s_cnt, s_retN, s_expr, s_asg, s_asgL, s_asgT, s_par, s_asgI, s_asgF, s_augN, s_augF, s_ret, s_iff, s_whl, s_for, s_tryN, strR_str, Option.getD_some, Option.getD_none, Option.isSome_some, Option.isSome_none, mVar, gJc_ap, opN, opB, and_self, true_and, and_true, if_true, if_false, Bool.true_or, Bool.not_true, Bool.not_false, eq_self, tup_lst g2, a2, a3, tup3, tup2, e4, p3, hj4, sl4, a4, len5, c1, x5, l5, int_eq]
    cases hc : (((twoC j4).length : Int) == 1) with
    | false =>
      simp only [fin_nx, fin_rt, fin_ex, ofO_some, ofO_none, asB_bl, asI_int, truR_bl, outS_some, outE_some, outO_some, R.bind_ok, R.bind_ex, R.bind_bad, R.to_ok, R.to_ex, R.to_bad, Out.seq_nx, Out.seq_rt, Out.seq_bk, Out.seq_ct, Out.seq_ex, Out.seq_bad, cond_true, cond_false, gam_gl, gam_ncls, gam_init, gam_kd, List.getElem?_cons_zero, List.getElem?_cons_succ, List.set_cons_zero, List.set_cons_succ, List.cons_append, List.nil_append, k2_ap, gBin_ap, gCmp_ap, gCmpT_ap, gNeg_ap, gCh3_ap, gCh2_ap, gCh_ap, gCh3T_ap, gCh2T_ap, gChT_ap, gAnd2_ap, gAnd_ap, gOr2_ap, gOr_ap, gNot2_ap, gNot_ap, gIte_ap, gIx_ap, gSl2_ap, gSl1_ap, gSl_ap, gRev_ap, gFld_ap, gMk2_ap, gMk_ap, gMt2_ap, gMt_ap, gBf_ap, gBm2_ap, gBm_ap, gIsi_ap, gLc_ap, gStr_ap, gKget_ap, gKin_ap, gCo2_ap, gCo_ap, gOs2_ap, gOs_ap, gRn1_ap, gRn3_ap, gRn2_ap, gRn_ap, gZp_ap, gAndT_ap, gOrT_ap, gNotT_ap, gJ_ap, sNx_ap, sSet_ap, sSetT_ap, sPar2_ap, sPar1_ap, sI3_ap, sI2_ap, sI1_ap, sF2_ap, sF1_ap, sN2_ap, sN1_ap, sA3_ap, sA2_ap, sA1_ap, sR_ap, sIff_ap, sFr_ap, e_var, e_cst, e_glob, e_bin, e_neg, e_cmp, e_chain, e_and, e_or, e_not, e_ite, e_ix, e_sl, e_rev, e_tup, e_lst, e_dnewK, e_dnewT, e_fld, e_call, e_make, e_meth, e_bf, e_bm, e_isi, e_lc, e_fst, e_fmt, e_kget, e_kin, gDk_ap, gDr_ap, gDv_ap, keyR_str, keyR_int, e_disp, d_nil, d_cons, d1_cons, e_nil, e_cons, j_nil, j_cons, o_none, o_some, c_none, c_some, i_seq, i_rng1, i_rng2, i_zp, i_enm, i_keys, t_cmp, t_chain, t_and, t_or, t_not, t_var, t_ix, t_call, t_meth, t_isi, t_kin, t_fld, t_bf, s_nil, s_cons, s_pass, s_doc, s_brk, s_cnt, s_retN, s_expr, s_asg, s_asgL, s_asgT, s_par, s_asgI, s_asgF, s_augN, s_augF, s_ret, s_iff, s_whl, s_for, s_tryN, strR_str, Option.getD_some, Option.getD_none, Option.isSome_some, Option.isSome_none, mVar, gJc_ap, opN, opB, and_self, true_and, and_true, if_true, if_false, Bool.true_or, Bool.not_true, Bool.not_false, eq_self]
      exact fin_ s5 d5 F5 (by omega) g5
    | true =>
      have e1' : j4 = 1 := by
        have : (twoC j4).length = 1 := by
          have := beq_iff_eq.mp hc
          omega
        match j4, hj3, this with
        | 0, _, h => exact absurd h (by decide)
        | 1, _, _ => rfl
        | 2, _, h => exact absurd h (by decide)
      have st5 := setO_lst (i := ((p.codes.length + 1 : Nat) : Int)) (j := p.codes.length + 1) (v := .tup [.tup [.str "branch", .int 2, .int 1]]) g5 (ixN_nat (by rw [List.length_map, List.length_append]; show _ < p.codes.length + 2; omega))
      have e6 : ((p.codes ++ [cA, twoC j4]).map eCode).set (p.codes.length + 1) (.tup [.tup [.str "branch", .int 2, .int 1]]) = (p.codes ++ [cA, twoC j4]).map eCode := by
        rw [e1', List.map_append, List.set_append_right _ _ (by rw [List.length_map]; omega), List.length_map, show p.codes.length + 1 - p.codes.length = 1 from by omega]
        rfl
      rw [e6] at st5
      simp only [fin_nx, fin_rt, fin_ex, ofO_some, ofO_none, asB_bl, asI_int, truR_bl, outS_some, outE_some, outO_some, R.bind_ok, R.bind_ex, R.bind_bad, R.to_ok, R.to_ex, R.to_bad, Out.seq_nx, Out.seq_rt, Out.seq_bk, Out.seq_ct, Out.seq_ex, Out.seq_bad, cond_true, cond_false, gam_gl, gam_ncls, gam_init, gam_kd, List.getElem?_cons_zero, List.getElem?_cons_succ, List.set_cons_zero, List.set_cons_succ, List.cons_append, List.nil_append, k2_ap, gBin_ap, gCmp_ap, gCmpT_ap, gNeg_ap, gCh3_ap, gCh2_ap, gCh_ap, gCh3T_ap, gCh2T_ap, gChT_ap, gAnd2_ap, gAnd_ap, gOr2_ap, gOr_ap, gNot2_ap, gNot_ap, gIte_ap, gIx_ap, gSl2_ap, gSl1_ap, gSl_ap, gRev_ap, gFld_ap, gMk2_ap, gMk_ap, gMt2_ap, gMt_ap, gBf_ap, gBm2_ap, gBm_ap, gIsi_ap, gLc_ap, gStr_ap, gKget_ap, gKin_ap, gCo2_ap, gCo_ap, gOs2_ap, gOs_ap, gRn1_ap, gRn3_ap, gRn2_ap, gRn_ap, gZp_ap, gAndT_ap, gOrT_ap, gNotT_ap, gJ_ap, sNx_ap, sSet_ap, sSetT_ap, sPar2_ap, sPar1_ap, sI3_ap, sI2_ap, sI1_ap, sF2_ap, sF1_ap, sN2_ap, sN1_ap, sA3_ap, sA2_ap, sA1_ap, sR_ap, sIff_ap, sFr_ap, e_var, e_cst, e_glob, e_bin, e_neg, e_cmp, e_chain, e_and, e_or, e_not, e_ite, e_ix, e_sl, e_rev, e_tup, e_lst, e_dnewK, e_dnewT, e_fld, e_call, e_make, e_meth, e_bf, e_bm, e_isi, e_lc, e_fst, e_fmt, e_kget, e_kin, gDk_ap, gDr_ap, gDv_ap, keyR_str, keyR_int, e_disp, d_nil, d_cons, d1_cons, e_nil, e_cons, j_nil, j_cons, o_none, o_some, c_none, c_some, i_seq, i_rng1, i_rng2, i_zp, i_enm, i_keys, t_cmp, t_chain, t_and, t_or, t_not, t_var, t_ix, t_call, t_meth, t_isi, t_kin, t_fld, t_bf, s_nil, s_cons, s_pass, s_doc, s_brk, s_cnt, s_retN, s_expr, s_asg, s_asgL, s_asgT, s_par, s_asgI, s_asgF, s_augN, s_augF, s_ret, s_iff, s_whl, s_for, s_tryN, strR_str, Option.getD_some, Option.getD_none, Option.isSome_some, Option.isSome_none, mVar, gJc_ap, opN, opB, and_self, true_and, and_true, if_true, if_false, Bool.true_or, Bool.not_true, Bool.not_false, eq_self, tup3, tup1, len5, c1, st5]
      exact fin_ _ (d5.keep (Fr.put (X := (· = s.n)) rfl) (by omega) (by omega)) ⟨F5.le, fun q hq hx => (put_ne (Nat.ne_of_lt hq)).trans (F5.eq q hq hx)⟩ (by show s.n < s5.n; omega) put_g
end Lk61
set_option Elab.async false
set_option linter.all false
set_option maxRecDepth 100000
set_option maxHeartbeats 4000000
/-! Pe61: the texts of k61, written -/
namespace Lk61
open PySem L2 Ab
theorem i8 : Is T 8 2 1 b8 := ⟨d8, rfl, rfl, rfl, rfl⟩
theorem i9 : Is T 9 13 1 b9 := ⟨d9, rfl, rfl, rfl, rfl⟩
theorem i26 : Is T 26 6 1 b26 := ⟨d26, rfl, rfl, rfl, rfl⟩
theorem chk : Chk T 0 1 2 3 4 5 6 7 where
  int := ⟨d0, rfl, rfl, rfl, rfl⟩
  below := ⟨d1, rfl, rfl, rfl, rfl⟩
  value := ⟨d2, rfl, rfl, rfl, rfl⟩
  part := ⟨d3, rfl, rfl, rfl, rfl⟩
  ins := ⟨d4, rfl, rfl, rfl, rfl⟩
  vars := ⟨d5, rfl, rfl, rfl, rfl⟩
  thr := ⟨d6, rfl, rfl, rfl, rfl⟩
  prog := ⟨d7, rfl, rfl, rfl, rfl⟩
  g := by intro i; match i with | 0 => rfl | 1 => rfl | 2 => rfl | 3 => rfl | 4 => rfl | 5 => rfl | 6 => rfl
theorem fins {k fuel : Nat} {s : Sto} {i : Str × List Int} (it : InsT i) : ∃ s', (T.gam fuel (k + 1)).fn 8 [eI i] s = .ok (.str (tIns i)) s' ∧ Fr (fun _ => False) s s' := by
  rw [i8.call rfl]
  show ∃ s', (svs _ _ b8 [some (eI i), none] s).fin = _ ∧ _
  obtain ⟨s', h1, h2⟩ := insJ (Γ := T.gam fuel k) (ρ := [some (eI i), none]) (s := s) (x := 1) (y := 0) rfl (by show 1 < 2; decide) it
  refine ⟨s', ?_, h2⟩
  unfold b8
  rw [s_cons, s_ret, h1]
  rfl
theorem l1 : (" " : Str).length = 1 := rfl
theorem l2 : ("p" : Str).length = 1 := rfl
theorem l3 : ("; locks " : Str).length = 8 := rfl
theorem l4 : ("; code" : Str).length = 6 := rfl
theorem l5 : ("; threads" : Str).length = 9 := rfl
theorem l6 : (":" : Str).length = 1 := rfl
theorem l7 : ("; " : Str).length = 2 := rfl
theorem l8 : ("vars" : Str).length = 4 := rfl
theorem e_locks : ("; locks " : Str) = "; " ++ "locks " := by decide +kernel
theorem e_code : ("; code" : Str) = "; " ++ "code" := by decide +kernel
theorem e_code2 : ("code " : Str) = "code" ++ " " := by decide +kernel
theorem e_thr : ("; threads" : Str) = "; " ++ "threads" := by decide +kernel
/-- _law_text -/
theorem text_is {k fuel : Nat} {s : Sto} {p : Pg} (tx : TxOk p) : ∃ s', (T.gam fuel (k + 1)).fn 26 [p.enc] s = .ok (.str p.text) s' ∧ Fr (fun _ => False) s s' := by
  rw [i26.call rfl]
  show ∃ s', (svs _ _ b26 [some p.enc, none, none, none, none, none] s).fin = _ ∧ _
  have i0 : ∀ s, ixO p.enc (.int 0) s = some (.tup (p.vars.map eVar), s) := fun s => rfl
  have i1 : ∀ s, ixO p.enc (.int 1) s = some (.int p.locks, s) := fun s => rfl
  have i2 : ∀ s, ixO p.enc (.int 2) s = some (.tup (p.codes.map eCode), s) := fun s => rfl
  have i3 : ∀ s, ixO p.enc (.int 3) s = some (.tup (p.ts.map eThr), s) := fun s => rfl
  have q0 : ∀ s, srcR (.tup (p.vars.map eVar)) s = .ok (.fix (p.vars.map eVar)) s := fun _ => rfl
  have q2 : ∀ s, srcR (.tup (p.codes.map eCode)) s = .ok (.fix (p.codes.map eCode)) s := fun _ => rfl
  have q3 : ∀ s, srcR (.tup (p.ts.map eThr)) s = .ok (.fix (p.ts.map eThr)) s := fun _ => rfl
  unfold b26
  simp only [fin_nx, fin_rt, fin_ex, ofO_some, ofO_none, asB_bl, asI_int, truR_bl, outS_some, outE_some, outO_some, R.bind_ok, R.bind_ex, R.bind_bad, R.to_ok, R.to_ex, R.to_bad, Out.seq_nx, Out.seq_rt, Out.seq_bk, Out.seq_ct, Out.seq_ex, Out.seq_bad, cond_true, cond_false, gam_gl, gam_ncls, gam_init, gam_kd, List.getElem?_cons_zero, List.getElem?_cons_succ, List.set_cons_zero, List.set_cons_succ, List.cons_append, List.nil_append, k2_ap, gBin_ap, gCmp_ap, gCmpT_ap, gNeg_ap, gCh3_ap, gCh2_ap, gCh_ap, gCh3T_ap, gCh2T_ap, gChT_ap, gAnd2_ap, gAnd_ap, gOr2_ap, gOr_ap, gNot2_ap, gNot_ap, gIte_ap, gIx_ap, gSl2_ap, gSl1_ap, gSl_ap, gRev_ap, gFld_ap, gMk2_ap, gMk_ap, gMt2_ap, gMt_ap, gBf_ap, gBm2_ap, gBm_ap, gIsi_ap, gLc_ap, gStr_ap, gKget_ap, gKin_ap, gCo2_ap, gCo_ap, gOs2_ap, gOs_ap, gRn1_ap, gRn3_ap, gRn2_ap, gRn_ap, gZp_ap, gAndT_ap, gOrT_ap, gNotT_ap, gJ_ap, sNx_ap, sSet_ap, sSetT_ap, sPar2_ap, sPar1_ap, sI3_ap, sI2_ap, sI1_ap, sF2_ap, sF1_ap, sN2_ap, sN1_ap, sA3_ap, sA2_ap, sA1_ap, sR_ap, sIff_ap, sFr_ap, e_var, e_cst, e_glob, e_bin, e_neg, e_cmp, e_chain, e_and, e_or, e_not, e_ite, e_ix, e_sl, e_rev, e_tup, e_lst, e_dnewK, e_dnewT, e_fld, e_call, e_make, e_meth, e_bf, e_bm, e_isi, e_lc, e_fst, e_fmt, e_kget, e_kin, gDk_ap, gDr_ap, gDv_ap, keyR_str, keyR_int, e_disp, d_nil, d_cons, d1_cons, e_nil, e_cons, j_nil, j_cons, o_none, o_some, c_none, c_some, i_seq, i_rng1, i_rng2, i_zp, i_enm, i_keys, t_cmp, t_chain, t_and, t_or, t_not, t_var, t_ix, t_call, t_meth, t_isi, t_kin, t_fld, t_bf, s_nil, s_cons, s_pass, s_doc, s_brk, s_cnt, s_retN, s_expr, s_asg, s_asgL, s_asgT, s_par, s_asgI, s_asgF, s_augN, s_augF, s_ret, s_iff, s_whl, s_for, s_tryN, strR_str, Option.getD_some, Option.getD_none, Option.isSome_some, Option.isSome_none, mVar, gJc_ap, opN, opB, and_self, true_and, and_true, if_true, if_false, Bool.true_or, Bool.not_true, Bool.not_false, eq_self, i0, q0]
  generalize hX : fLoop _ _ _ _ _ _ _ = o
  have hd : ∀ j, j ≤ p.vars.length → (Str.join " " (("vars" : Str) :: (p.vars.take j).map Ab.tVar)).length ≤ 100 := by
    intro j hj
    have a := join_len (y := " ") (m := 9) (ps := ("vars" : Str) :: (p.vars.take j).map Ab.tVar) fun z hz => heads_part tx z (by
      rcases List.mem_cons.mp hz with rfl | hz
      · exact List.mem_cons_self ..
      · obtain ⟨v, hv, rfl⟩ := List.mem_map.mp hz
        exact List.mem_cons_of_mem _ (List.mem_map_of_mem (List.mem_of_mem_take hv)))
    have b := tx.v1
    rw [l1, List.length_cons, List.length_map, List.length_take, Nat.min_eq_left hj] at a
    exact Nat.le_trans a (by omega)
  refine for_c hX p.vars.length (fun j ρ s1 => s1 = s ∧ ∃ c, ρ = [some p.enc, some (.str (Str.join " " ("vars" :: (p.vars.take j).map Ab.tVar))), c, none, none, none]) ⟨rfl, none, rfl⟩ (Nat.zero_le _) ?_ ?_ ?_ ?_
  · show p.vars.length - 0 < (p.vars.map eVar).length + 1
    simp
  · rintro j ρ s1 hj ⟨rfl, c, rfl⟩
    refine ⟨eVar p.vars[j], _, by simp [sItem, hj], rfl, ?_⟩
    generalize hA : Str.join " " ("vars" :: (p.vars.take j).map Ab.tVar) = A
    show ∃ ρ2 s3, (svs _ _ _ [some p.enc, some (.str A), some (eVar p.vars[j]), none, none, none] s1 = .nx ρ2 s3 ∨ svs _ _ _ [some p.enc, some (.str A), some (eVar p.vars[j]), none, none, none] s1 = .ct ρ2 s3) ∧ _
    have hA2 := hd j (by omega)
    rw [hA] at hA2
    have v2 := tx.v2 p.vars[j] (List.getElem_mem hj)
    have nl := num_len v2
    have x0 : ixO (eVar p.vars[j]) (.int 0) s1 = some (.int p.vars[j].1, s1) := rfl
    have x1 : ixO (eVar p.vars[j]) (.int 1) s1 = some (.bl p.vars[j].2, s1) := rfl
    have a1 : A.length + (" " : Str).length ≤ sizeLine := sz_big (by rw [l1]; omega)
    have a2 : (A ++ " ").length + (num p.vars[j].1).length ≤ sizeLine := sz_big (by rw [Str.length_append, l1]; omega)
    have a3 : (A ++ " " ++ num p.vars[j].1).length + ("p" : Str).length ≤ sizeLine := sz_big (by rw [Str.length_append, Str.length_append, l1, l2]; omega)
    have tk : Str.join " " ("vars" :: (p.vars.take (j + 1)).map Ab.tVar) = A ++ " " ++ Ab.tVar p.vars[j] := by
      rw [List.take_add_one, List.getElem?_eq_getElem hj, Option.toList_some, List.map_append, ← List.cons_append]
      rw [show [p.vars[j]].map Ab.tVar = [Ab.tVar p.vars[j]] from rfl, join_snoc (by simp), hA]
    simp only [fin_nx, fin_rt, fin_ex, ofO_some, ofO_none, asB_bl, asI_int, truR_bl, outS_some, outE_some, outO_some, R.bind_ok, R.bind_ex, R.bind_bad, R.to_ok, R.to_ex, R.to_bad, Out.seq_nx, Out.seq_rt, Out.seq_bk, Out.seq_ct, Out.seq_ex, Out.seq_bad, cond_true, cond_false, gam_gl, gam_ncls, gam_init, gam_kd, List.getElem?_cons_zero, List.getElem?_cons_succ, List.set_cons_zero, List.set_cons_succ, List.cons_append, List.nil_append, k2_ap, gBin_ap, gCmp_ap, gCmpT_ap, gNeg_ap, gCh3_ap, gCh2_ap, gCh_ap, gCh3T_ap, gCh2T_ap, gChT_ap, gAnd2_ap, gAnd_ap, gOr2_ap, gOr_ap, gNot2_ap, gNot_ap, gIte_ap, gIx_ap, gSl2_ap, gSl1_ap, gSl_ap, gRev_ap, gFld_ap, gMk2_ap, gMk_ap, gMt2_ap, gMt_ap, gBf_ap, gBm2_ap, gBm_ap, gIsi_ap, gLc_ap, gStr_ap, gKget_ap, gKin_ap, gCo2_ap, gCo_ap, gOs2_ap, gOs_ap, gRn1_ap, gRn3_ap, gRn2_ap, gRn_ap, gZp_ap, gAndT_ap, gOrT_ap, gNotT_ap, gJ_ap, sNx_ap, sSet_ap, sSetT_ap, sPar2_ap, sPar1_ap, sI3_ap, sI2_ap, sI1_ap, sF2_ap, sF1_ap, sN2_ap, sN1_ap, sA3_ap, sA2_ap, sA1_ap, sR_ap, sIff_ap, sFr_ap, e_var, e_cst, e_glob, e_bin, e_neg, e_cmp, e_chain, e_and, e_or, e_not, e_ite, e_ix, e_sl, e_rev, e_tup, e_lst, e_dnewK, e_dnewT, e_fld, e_call, e_make, e_meth, e_bf, e_bm, e_isi, e_lc, e_fst, e_fmt, e_kget, e_kin, gDk_ap, gDr_ap, gDv_ap, keyR_str, keyR_int, e_disp, d_nil, d_cons, d1_cons, e_nil, e_cons, j_nil, j_cons, o_none, o_some, c_none, c_some, i_seq, i_rng1, i_rng2, i_zp, i_enm, i_keys, t_cmp, t_chain, t_and, t_or, t_not, t_var, t_ix, t_call, t_meth, t_isi, t_kin, t_fld, t_bf, s_nil, s_cons, s_pass, s_doc, s_brk, s_cnt, s_retN, s_expr, s_asg, s_asgL, s_asgT, s_par, s_asgI, s_asgF, s_augN, s_augF, s_ret, s_iff, s_whl, s_for, s_tryN, strR_str, Option.getD_some, Option.getD_none, Option.isSome_some, Option.isSome_none, mVar, gJc_ap, opN, opB, and_self, true_and, and_true, if_true, if_false, Bool.true_or, Bool.not_true, Bool.not_false, eq_self, x0, x1, str_int v2, a1, a2]
    cases hb : p.vars[j].2 with
    | true =>
      simp only [fin_nx, fin_rt, fin_ex, ofO_some, ofO_none, asB_bl, asI_int, truR_bl, outS_some, outE_some, outO_some, R.bind_ok, R.bind_ex, R.bind_bad, R.to_ok, R.to_ex, R.to_bad, Out.seq_nx, Out.seq_rt, Out.seq_bk, Out.seq_ct, Out.seq_ex, Out.seq_bad, cond_true, cond_false, gam_gl, gam_ncls, gam_init, gam_kd, List.getElem?_cons_zero, List.getElem?_cons_succ, List.set_cons_zero, List.set_cons_succ, List.cons_append, List.nil_append, k2_ap, gBin_ap, gCmp_ap, gCmpT_ap, gNeg_ap, gCh3_ap, gCh2_ap, gCh_ap, gCh3T_ap, gCh2T_ap, gChT_ap, gAnd2_ap, gAnd_ap, gOr2_ap, gOr_ap, gNot2_ap, gNot_ap, gIte_ap, gIx_ap, gSl2_ap, gSl1_ap, gSl_ap, gRev_ap, gFld_ap, gMk2_ap, gMk_ap, gMt2_ap, gMt_ap, gBf_ap, gBm2_ap, gBm_ap, gIsi_ap, gLc_ap, gStr_ap, gKget_ap, gKin_ap, gCo2_ap, gCo_ap, gOs2_ap, gOs_ap, gRn1_ap, gRn3_ap, gRn2_ap, gRn_ap, gZp_ap, gAndT_ap, gOrT_ap, gNotT_ap, gJ_ap, sNx_ap, sSet_ap, sSetT_ap, sPar2_ap, sPar1_ap, sI3_ap, sI2_ap, sI1_ap, sF2_ap, sF1_ap, sN2_ap, sN1_ap, sA3_ap, sA2_ap, sA1_ap, sR_ap, sIff_ap, sFr_ap, e_var, e_cst, e_glob, e_bin, e_neg, e_cmp, e_chain, e_and, e_or, e_not, e_ite, e_ix, e_sl, e_rev, e_tup, e_lst, e_dnewK, e_dnewT, e_fld, e_call, e_make, e_meth, e_bf, e_bm, e_isi, e_lc, e_fst, e_fmt, e_kget, e_kin, gDk_ap, gDr_ap, gDv_ap, keyR_str, keyR_int, e_disp, d_nil, d_cons, d1_cons, e_nil, e_cons, j_nil, j_cons, o_none, o_some, c_none, c_some, i_seq, i_rng1, i_rng2, i_zp, i_enm, i_keys, t_cmp, t_chain, t_and, t_or, t_not, t_var, t_ix, t_call, t_meth, t_isi, t_kin, t_fld, t_bf, s_nil, s_cons, s_pass, s_doc, s_brk, s_cnt, s_retN, s_expr, s_asg, s_asgL, s_asgT, s_par, s_asgI, s_asgF, s_augN, s_augF, s_ret, s_iff, s_whl, s_for, s_tryN, strR_str, Option.getD_some, Option.getD_none, Option.isSome_some, Option.isSome_none, mVar, gJc_ap, opN, opB, and_self, true_and, and_true, if_true, if_false, Bool.true_or, Bool.not_true, Bool.not_false, eq_self, a3]
      refine ⟨_, _, .inl rfl, rfl, some (eVar p.vars[j]), ?_⟩
      rw [tk, show Ab.tVar p.vars[j] = num p.vars[j].1 ++ "p" from by unfold Ab.tVar; rw [hb]; rfl, ← Str.append_assoc]
    | false =>
      simp only [fin_nx, fin_rt, fin_ex, ofO_some, ofO_none, asB_bl, asI_int, truR_bl, outS_some, outE_some, outO_some, R.bind_ok, R.bind_ex, R.bind_bad, R.to_ok, R.to_ex, R.to_bad, Out.seq_nx, Out.seq_rt, Out.seq_bk, Out.seq_ct, Out.seq_ex, Out.seq_bad, cond_true, cond_false, gam_gl, gam_ncls, gam_init, gam_kd, List.getElem?_cons_zero, List.getElem?_cons_succ, List.set_cons_zero, List.set_cons_succ, List.cons_append, List.nil_append, k2_ap, gBin_ap, gCmp_ap, gCmpT_ap, gNeg_ap, gCh3_ap, gCh2_ap, gCh_ap, gCh3T_ap, gCh2T_ap, gChT_ap, gAnd2_ap, gAnd_ap, gOr2_ap, gOr_ap, gNot2_ap, gNot_ap, gIte_ap, gIx_ap, gSl2_ap, gSl1_ap, gSl_ap, gRev_ap, gFld_ap, gMk2_ap, gMk_ap, gMt2_ap, gMt_ap, gBf_ap, gBm2_ap, gBm_ap, gIsi_ap, gLc_ap, gStr_ap, gKget_ap, gKin_ap, gCo2_ap, gCo_ap, gOs2_ap, gOs_ap, gRn1_ap, gRn3_ap, gRn2_ap, gRn_ap, gZp_ap, gAndT_ap, gOrT_ap, gNotT_ap, gJ_ap, sNx_ap, sSet_ap, sSetT_ap, sPar2_ap, sPar1_ap, sI3_ap, sI2_ap, sI1_ap, sF2_ap, sF1_ap, sN2_ap, sN1_ap, sA3_ap, sA2_ap, sA1_ap, sR_ap, sIff_ap, sFr_ap, e_var, e_cst, e_glob, e_bin, e_neg, e_cmp, e_chain, e_and, e_or, e_not, e_ite, e_ix, e_sl, e_rev, e_tup, e_lst, e_dnewK, e_dnewT, e_fld, e_call, e_make, e_meth, e_bf, e_bm, e_isi, e_lc, e_fst, e_fmt, e_kget, e_kin, gDk_ap, gDr_ap, gDv_ap, keyR_str, keyR_int, e_disp, d_nil, d_cons, d1_cons, e_nil, e_cons, j_nil, j_cons, o_none, o_some, c_none, c_some, i_seq, i_rng1, i_rng2, i_zp, i_enm, i_keys, t_cmp, t_chain, t_and, t_or, t_not, t_var, t_ix, t_call, t_meth, t_isi, t_kin, t_fld, t_bf, s_nil, s_cons, s_pass, s_doc, s_brk, s_cnt, s_retN, s_expr, s_asg, s_asgL, s_asgT, s_par, s_asgI, s_asgF, s_augN, s_augF, s_ret, s_iff, s_whl, s_for, s_tryN, strR_str, Option.getD_some, Option.getD_none, Option.isSome_some, Option.isSome_none, mVar, gJc_ap, opN, opB, and_self, true_and, and_true, if_true, if_false, Bool.true_or, Bool.not_true, Bool.not_false, eq_self]
      refine ⟨_, _, .inl rfl, rfl, some (eVar p.vars[j]), ?_⟩
      rw [tk, show Ab.tVar p.vars[j] = num p.vars[j].1 from by unfold Ab.tVar; rw [hb]; rfl]
  · rintro ρ s1 _
    simp [sItem]
  rintro ρ' sX ⟨hs, c, rfl⟩ hO
  rw [hO, hs]
  clear hX hO hs sX
  have lkn : (p.locks : Int).natAbs < 1000 := by have := tx.lk; omega
  have lkl := num_len lkn
  have hl := heads_len tx
  rw [show Str.join " " ("vars" :: (p.vars.take p.vars.length).map Ab.tVar) = p.heads from by rw [List.take_length]; rfl]
  have a1 : p.heads.length + ("; locks " : Str).length ≤ sizeLine := sz_big (by rw [l3]; omega)
  have a2 : (p.heads ++ "; locks ").length + (num p.locks).length ≤ sizeLine := sz_big (by rw [Str.length_append, l3]; omega)
  simp only [fin_nx, fin_rt, fin_ex, ofO_some, ofO_none, asB_bl, asI_int, truR_bl, outS_some, outE_some, outO_some, R.bind_ok, R.bind_ex, R.bind_bad, R.to_ok, R.to_ex, R.to_bad, Out.seq_nx, Out.seq_rt, Out.seq_bk, Out.seq_ct, Out.seq_ex, Out.seq_bad, cond_true, cond_false, gam_gl, gam_ncls, gam_init, gam_kd, List.getElem?_cons_zero, List.getElem?_cons_succ, List.set_cons_zero, List.set_cons_succ, List.cons_append, List.nil_append, k2_ap, gBin_ap, gCmp_ap, gCmpT_ap, gNeg_ap, gCh3_ap, gCh2_ap, gCh_ap, gCh3T_ap, gCh2T_ap, gChT_ap, gAnd2_ap, gAnd_ap, gOr2_ap, gOr_ap, gNot2_ap, gNot_ap, gIte_ap, gIx_ap, gSl2_ap, gSl1_ap, gSl_ap, gRev_ap, gFld_ap, gMk2_ap, gMk_ap, gMt2_ap, gMt_ap, gBf_ap, gBm2_ap, gBm_ap, gIsi_ap, gLc_ap, gStr_ap, gKget_ap, gKin_ap, gCo2_ap, gCo_ap, gOs2_ap, gOs_ap, gRn1_ap, gRn3_ap, gRn2_ap, gRn_ap, gZp_ap, gAndT_ap, gOrT_ap, gNotT_ap, gJ_ap, sNx_ap, sSet_ap, sSetT_ap, sPar2_ap, sPar1_ap, sI3_ap, sI2_ap, sI1_ap, sF2_ap, sF1_ap, sN2_ap, sN1_ap, sA3_ap, sA2_ap, sA1_ap, sR_ap, sIff_ap, sFr_ap, e_var, e_cst, e_glob, e_bin, e_neg, e_cmp, e_chain, e_and, e_or, e_not, e_ite, e_ix, e_sl, e_rev, e_tup, e_lst, e_dnewK, e_dnewT, e_fld, e_call, e_make, e_meth, e_bf, e_bm, e_isi, e_lc, e_fst, e_fmt, e_kget, e_kin, gDk_ap, gDr_ap, gDv_ap, keyR_str, keyR_int, e_disp, d_nil, d_cons, d1_cons, e_nil, e_cons, j_nil, j_cons, o_none, o_some, c_none, c_some, i_seq, i_rng1, i_rng2, i_zp, i_enm, i_keys, t_cmp, t_chain, t_and, t_or, t_not, t_var, t_ix, t_call, t_meth, t_isi, t_kin, t_fld, t_bf, s_nil, s_cons, s_pass, s_doc, s_brk, s_cnt, s_retN, s_expr, s_asg, s_asgL, s_asgT, s_par, s_asgI, s_asgF, s_augN, s_augF, s_ret, s_iff, s_whl, s_for, s_tryN, strR_str, Option.getD_some, Option.getD_none, Option.isSome_some, Option.isSome_none, mVar, gJc_ap, opN, opB, and_self, true_and, and_true, if_true, if_false, Bool.true_or, Bool.not_true, Bool.not_false, eq_self, a1, a2, i1, str_int lkn, i2, q2]
  generalize hX : fLoop _ _ _ _ _ _ _ = o
  have hd2 : ∀ j, j ≤ p.codes.length → (Str.join "; " (p.heads :: ("locks " ++ num p.locks) :: (p.codes.take j).map tCode)).length ≤ 10000 := by
    intro j hj
    have a := join_len (y := "; ") (m := 600) (ps := p.heads :: ("locks " ++ num p.locks) :: (p.codes.take j).map tCode) fun z hz => parts_part tx z (by
      rcases List.mem_cons.mp hz with rfl | hz
      · exact List.mem_cons_self ..
      refine List.mem_cons_of_mem _ ?_
      rcases List.mem_cons.mp hz with rfl | hz
      · exact List.mem_cons_self ..
      · obtain ⟨v, hv, rfl⟩ := List.mem_map.mp hz
        exact List.mem_cons_of_mem _ (List.mem_append_left _ (List.mem_map_of_mem (List.mem_of_mem_take hv))))
    have b := tx.c2
    rw [l7, List.length_cons, List.length_cons, List.length_map, List.length_take, Nat.min_eq_left hj] at a
    exact Nat.le_trans a (by omega)
  have st0 : p.heads ++ "; locks " ++ num p.locks = Str.join "; " (p.heads :: ("locks " ++ num p.locks) :: (p.codes.take 0).map tCode) := by
    show _ = p.heads ++ "; " ++ ("locks " ++ num p.locks)
    rw [e_locks]
    simp only [Str.append_assoc]
  refine for_c hX p.codes.length (fun j ρ s1 => Fr (fun _ => False) s s1 ∧ ∃ c d e, ρ = [some p.enc, some (.str (Str.join "; " (p.heads :: ("locks " ++ num p.locks) :: (p.codes.take j).map tCode))), c, d, e, none]) ⟨Fr.refl, _, none, none, by rw [st0]⟩ (Nat.zero_le _) ?_ ?_ ?_ ?_
  · show p.codes.length - 0 < (p.codes.map eCode).length + 1
    simp
  · rintro j ρ s1 hj ⟨f1, c, d, e, rfl⟩
    refine ⟨eCode p.codes[j], _, by simp [sItem, hj], rfl, ?_⟩
    generalize hA : Str.join "; " (p.heads :: ("locks " ++ num p.locks) :: (p.codes.take j).map tCode) = A
    show ∃ ρ2 s3, (svs _ _ _ [some p.enc, some (.str A), c, some (eCode p.codes[j]), e, none] s1 = .nx ρ2 s3 ∨ svs _ _ _ [some p.enc, some (.str A), c, some (eCode p.codes[j]), e, none] s1 = .ct ρ2 s3) ∧ _
    have hA2 := hd2 j (by omega)
    rw [hA] at hA2
    obtain ⟨c16, cit⟩ := tx.c3 p.codes[j] (List.getElem_mem hj)
    have a1 : A.length + ("; code" : Str).length ≤ sizeLine := sz_big (by rw [l4]; omega)
    have a2 : (A ++ "; code").length + (" " : Str).length ≤ sizeLine := sz_big (by rw [Str.length_append, l4, l1]; omega)
    have jl := codeJ_len c16 cit
    have a3 : (A ++ "; code" ++ " ").length + (Str.join ", " (p.codes[j].map tIns)).length ≤ sizeLine := sz_big (by rw [Str.length_append, Str.length_append, l4, l1]; omega)
    have lc : fO .len [eCode p.codes[j]] s1 = some (.int (p.codes[j].length : Nat), s1) := by rw [len_tup (xs := p.codes[j].map eI) rfl, List.length_map]
    have sc : srcR (eCode p.codes[j]) s1 = .ok (.fix (p.codes[j].map eI)) s1 := rfl
    have tk : Str.join "; " (p.heads :: ("locks " ++ num p.locks) :: (p.codes.take (j + 1)).map tCode) = A ++ "; " ++ tCode p.codes[j] := by
      rw [List.take_add_one, List.getElem?_eq_getElem hj, Option.toList_some, List.map_append, ← List.cons_append, ← List.cons_append]
      rw [show [p.codes[j]].map tCode = [tCode p.codes[j]] from rfl, join_snoc (by simp), hA]
    simp only [fin_nx, fin_rt, fin_ex, ofO_some, ofO_none, asB_bl, asI_int, truR_bl, outS_some, outE_some, outO_some, R.bind_ok, R.bind_ex, R.bind_bad, R.to_ok, R.to_ex, R.to_bad, Out.seq_nx, Out.seq_rt, Out.seq_bk, Out.seq_ct, Out.seq_ex, Out.seq_bad, cond_true, cond_false, gam_gl, gam_ncls, gam_init, gam_kd, List.getElem?_cons_zero, List.getElem?_cons_succ, List.set_cons_zero, List.set_cons_succ, List.cons_append, List.nil_append, k2_ap, gBin_ap, gCmp_ap, gCmpT_ap, gNeg_ap, gCh3_ap, gCh2_ap, gCh_ap, gCh3T_ap, gCh2T_ap, gChT_ap, gAnd2_ap, gAnd_ap, gOr2_ap, gOr_ap, gNot2_ap, gNot_ap, gIte_ap, gIx_ap, gSl2_ap, gSl1_ap, gSl_ap, gRev_ap, gFld_ap, gMk2_ap, gMk_ap, gMt2_ap, gMt_ap, gBf_ap, gBm2_ap, gBm_ap, gIsi_ap, gLc_ap, gStr_ap, gKget_ap, gKin_ap, gCo2_ap, gCo_ap, gOs2_ap, gOs_ap, gRn1_ap, gRn3_ap, gRn2_ap, gRn_ap, gZp_ap, gAndT_ap, gOrT_ap, gNotT_ap, gJ_ap, sNx_ap, sSet_ap, sSetT_ap, sPar2_ap, sPar1_ap, sI3_ap, sI2_ap, sI1_ap, sF2_ap, sF1_ap, sN2_ap, sN1_ap, sA3_ap, sA2_ap, sA1_ap, sR_ap, sIff_ap, sFr_ap, e_var, e_cst, e_glob, e_bin, e_neg, e_cmp, e_chain, e_and, e_or, e_not, e_ite, e_ix, e_sl, e_rev, e_tup, e_lst, e_dnewK, e_dnewT, e_fld, e_call, e_make, e_meth, e_bf, e_bm, e_isi, e_lc, e_fst, e_fmt, e_kget, e_kin, gDk_ap, gDr_ap, gDv_ap, keyR_str, keyR_int, e_disp, d_nil, d_cons, d1_cons, e_nil, e_cons, j_nil, j_cons, o_none, o_some, c_none, c_some, i_seq, i_rng1, i_rng2, i_zp, i_enm, i_keys, t_cmp, t_chain, t_and, t_or, t_not, t_var, t_ix, t_call, t_meth, t_isi, t_kin, t_fld, t_bf, s_nil, s_cons, s_pass, s_doc, s_brk, s_cnt, s_retN, s_expr, s_asg, s_asgL, s_asgT, s_par, s_asgI, s_asgF, s_augN, s_augF, s_ret, s_iff, s_whl, s_for, s_tryN, strR_str, Option.getD_some, Option.getD_none, Option.isSome_some, Option.isSome_none, mVar, gJc_ap, opN, opB, and_self, true_and, and_true, if_true, if_false, Bool.true_or, Bool.not_true, Bool.not_false, eq_self, a1, lc, gt_int]
    by_cases hc : (0 : Int) < (p.codes[j].length : Nat)
    · rw [decide_eq_true hc]
      simp only [fin_nx, fin_rt, fin_ex, ofO_some, ofO_none, asB_bl, asI_int, truR_bl, outS_some, outE_some, outO_some, R.bind_ok, R.bind_ex, R.bind_bad, R.to_ok, R.to_ex, R.to_bad, Out.seq_nx, Out.seq_rt, Out.seq_bk, Out.seq_ct, Out.seq_ex, Out.seq_bad, cond_true, cond_false, gam_gl, gam_ncls, gam_init, gam_kd, List.getElem?_cons_zero, List.getElem?_cons_succ, List.set_cons_zero, List.set_cons_succ, List.cons_append, List.nil_append, k2_ap, gBin_ap, gCmp_ap, gCmpT_ap, gNeg_ap, gCh3_ap, gCh2_ap, gCh_ap, gCh3T_ap, gCh2T_ap, gChT_ap, gAnd2_ap, gAnd_ap, gOr2_ap, gOr_ap, gNot2_ap, gNot_ap, gIte_ap, gIx_ap, gSl2_ap, gSl1_ap, gSl_ap, gRev_ap, gFld_ap, gMk2_ap, gMk_ap, gMt2_ap, gMt_ap, gBf_ap, gBm2_ap, gBm_ap, gIsi_ap, gLc_ap, gStr_ap, gKget_ap, gKin_ap, gCo2_ap, gCo_ap, gOs2_ap, gOs_ap, gRn1_ap, gRn3_ap, gRn2_ap, gRn_ap, gZp_ap, gAndT_ap, gOrT_ap, gNotT_ap, gJ_ap, sNx_ap, sSet_ap, sSetT_ap, sPar2_ap, sPar1_ap, sI3_ap, sI2_ap, sI1_ap, sF2_ap, sF1_ap, sN2_ap, sN1_ap, sA3_ap, sA2_ap, sA1_ap, sR_ap, sIff_ap, sFr_ap, e_var, e_cst, e_glob, e_bin, e_neg, e_cmp, e_chain, e_and, e_or, e_not, e_ite, e_ix, e_sl, e_rev, e_tup, e_lst, e_dnewK, e_dnewT, e_fld, e_call, e_make, e_meth, e_bf, e_bm, e_isi, e_lc, e_fst, e_fmt, e_kget, e_kin, gDk_ap, gDr_ap, gDv_ap, keyR_str, keyR_int, e_disp, d_nil, d_cons, d1_cons, e_nil, e_cons, j_nil, j_cons, o_none, o_some, c_none, c_some, i_seq, i_rng1, i_rng2, i_zp, i_enm, i_keys, t_cmp, t_chain, t_and, t_or, t_not, t_var, t_ix, t_call, t_meth, t_isi, t_kin, t_fld, t_bf, s_nil, s_cons, s_pass, s_doc, s_brk, s_cnt, s_retN, s_expr, s_asg, s_asgL, s_asgT, s_par, s_asgI, s_asgF, s_augN, s_augF, s_ret, s_iff, s_whl, s_for, s_tryN, strR_str, Option.getD_some, Option.getD_none, Option.isSome_some, Option.isSome_none, mVar, gJc_ap, opN, opB, and_self, true_and, and_true, if_true, if_false, Bool.true_or, Bool.not_true, Bool.not_false, eq_self, a2, tyJ, sc]
      generalize hY : lcLoop _ _ _ _ _ _ _ _ = o2
      refine lc_map hY (fun _ _ => rfl) ((p.codes[j].map tIns).map .str) ?_ ?_ ?_ ?_ ?_
      · show _ < (p.codes[j].map eI).length + 1
        simp
      · rw [List.length_map, List.length_map]; exact sz_ge (by omega)
      · intro i hi s' _ _
        rw [List.length_map, List.length_map] at hi
        obtain ⟨s2, k1, k2⟩ := insJ (Γ := T.gam fuel k) (ρ := [some p.enc, some (.str (A ++ "; code")), c, some (eCode p.codes[j]), some (eI p.codes[j][i]), none]) (s := s') (x := 5) (y := 4) (i := p.codes[j][i]) rfl (by show 5 < 6; decide) (cit _ (List.getElem_mem hi))
        refine ⟨eI p.codes[j][i], _, by simp [sItem, hi], rfl, s2, ?_, k2⟩
        have : ((p.codes[j].map tIns).map D.str)[i]'(by simpa using hi) = .str (tIns p.codes[j][i]) := by simp
        rw [this]
        exact k1
      · intro s' _
        simp [sItem]
      · rintro s' g1 g2 g3 rfl
        have jn := join_is (s := s') (e := .ref s1.n) (a := ", ") (zs := p.codes[j].map tIns) (m := 35) (sq_lst g1) (fun z hz => by
          obtain ⟨i, h1, rfl⟩ := List.mem_map.mp hz
          exact tIns_len (cit i h1)) (by rw [List.length_map, show (", " : Str).length = 2 from rfl]; omega)
        simp only [fin_nx, fin_rt, fin_ex, ofO_some, ofO_none, asB_bl, asI_int, truR_bl, outS_some, outE_some, outO_some, R.bind_ok, R.bind_ex, R.bind_bad, R.to_ok, R.to_ex, R.to_bad, Out.seq_nx, Out.seq_rt, Out.seq_bk, Out.seq_ct, Out.seq_ex, Out.seq_bad, cond_true, cond_false, gam_gl, gam_ncls, gam_init, gam_kd, List.getElem?_cons_zero, List.getElem?_cons_succ, List.set_cons_zero, List.set_cons_succ, List.cons_append, List.nil_append, k2_ap, gBin_ap, gCmp_ap, gCmpT_ap, gNeg_ap, gCh3_ap, gCh2_ap, gCh_ap, gCh3T_ap, gCh2T_ap, gChT_ap, gAnd2_ap, gAnd_ap, gOr2_ap, gOr_ap, gNot2_ap, gNot_ap, gIte_ap, gIx_ap, gSl2_ap, gSl1_ap, gSl_ap, gRev_ap, gFld_ap, gMk2_ap, gMk_ap, gMt2_ap, gMt_ap, gBf_ap, gBm2_ap, gBm_ap, gIsi_ap, gLc_ap, gStr_ap, gKget_ap, gKin_ap, gCo2_ap, gCo_ap, gOs2_ap, gOs_ap, gRn1_ap, gRn3_ap, gRn2_ap, gRn_ap, gZp_ap, gAndT_ap, gOrT_ap, gNotT_ap, gJ_ap, sNx_ap, sSet_ap, sSetT_ap, sPar2_ap, sPar1_ap, sI3_ap, sI2_ap, sI1_ap, sF2_ap, sF1_ap, sN2_ap, sN1_ap, sA3_ap, sA2_ap, sA1_ap, sR_ap, sIff_ap, sFr_ap, e_var, e_cst, e_glob, e_bin, e_neg, e_cmp, e_chain, e_and, e_or, e_not, e_ite, e_ix, e_sl, e_rev, e_tup, e_lst, e_dnewK, e_dnewT, e_fld, e_call, e_make, e_meth, e_bf, e_bm, e_isi, e_lc, e_fst, e_fmt, e_kget, e_kin, gDk_ap, gDr_ap, gDv_ap, keyR_str, keyR_int, e_disp, d_nil, d_cons, d1_cons, e_nil, e_cons, j_nil, j_cons, o_none, o_some, c_none, c_some, i_seq, i_rng1, i_rng2, i_zp, i_enm, i_keys, t_cmp, t_chain, t_and, t_or, t_not, t_var, t_ix, t_call, t_meth, t_isi, t_kin, t_fld, t_bf, s_nil, s_cons, s_pass, s_doc, s_brk, s_cnt, s_retN, s_expr, s_asg, s_asgL, s_asgT, s_par, s_asgI, s_asgF, s_augN, s_augF, s_ret, s_iff, s_whl, s_for, s_tryN, strR_str, Option.getD_some, Option.getD_none, Option.isSome_some, Option.isSome_none, mVar, gJc_ap, opN, opB, and_self, true_and, and_true, if_true, if_false, Bool.true_or, Bool.not_true, Bool.not_false, eq_self, jn, a3]
        refine ⟨_, _, .inl rfl, f1.trans g3, c, some (eCode p.codes[j]), e, ?_⟩
        rw [tk]
        cases hcc : p.codes[j] with
        | nil => rw [hcc] at hc; simp at hc
        | cons i0 cr =>
          show _ = [some p.enc, some (D.str (A ++ "; " ++ ("code " ++ Str.join ", " ((i0 :: cr).map tIns)))), _, _, _, _]
          rw [e_code, e_code2]
          simp only [Str.append_assoc]
    · rw [decide_eq_false hc]
      simp only [fin_nx, fin_rt, fin_ex, ofO_some, ofO_none, asB_bl, asI_int, truR_bl, outS_some, outE_some, outO_some, R.bind_ok, R.bind_ex, R.bind_bad, R.to_ok, R.to_ex, R.to_bad, Out.seq_nx, Out.seq_rt, Out.seq_bk, Out.seq_ct, Out.seq_ex, Out.seq_bad, cond_true, cond_false, gam_gl, gam_ncls, gam_init, gam_kd, List.getElem?_cons_zero, List.getElem?_cons_succ, List.set_cons_zero, List.set_cons_succ, List.cons_append, List.nil_append, k2_ap, gBin_ap, gCmp_ap, gCmpT_ap, gNeg_ap, gCh3_ap, gCh2_ap, gCh_ap, gCh3T_ap, gCh2T_ap, gChT_ap, gAnd2_ap, gAnd_ap, gOr2_ap, gOr_ap, gNot2_ap, gNot_ap, gIte_ap, gIx_ap, gSl2_ap, gSl1_ap, gSl_ap, gRev_ap, gFld_ap, gMk2_ap, gMk_ap, gMt2_ap, gMt_ap, gBf_ap, gBm2_ap, gBm_ap, gIsi_ap, gLc_ap, gStr_ap, gKget_ap, gKin_ap, gCo2_ap, gCo_ap, gOs2_ap, gOs_ap, gRn1_ap, gRn3_ap, gRn2_ap, gRn_ap, gZp_ap, gAndT_ap, gOrT_ap, gNotT_ap, gJ_ap, sNx_ap, sSet_ap, sSetT_ap, sPar2_ap, sPar1_ap, sI3_ap, sI2_ap, sI1_ap, sF2_ap, sF1_ap, sN2_ap, sN1_ap, sA3_ap, sA2_ap, sA1_ap, sR_ap, sIff_ap, sFr_ap, e_var, e_cst, e_glob, e_bin, e_neg, e_cmp, e_chain, e_and, e_or, e_not, e_ite, e_ix, e_sl, e_rev, e_tup, e_lst, e_dnewK, e_dnewT, e_fld, e_call, e_make, e_meth, e_bf, e_bm, e_isi, e_lc, e_fst, e_fmt, e_kget, e_kin, gDk_ap, gDr_ap, gDv_ap, keyR_str, keyR_int, e_disp, d_nil, d_cons, d1_cons, e_nil, e_cons, j_nil, j_cons, o_none, o_some, c_none, c_some, i_seq, i_rng1, i_rng2, i_zp, i_enm, i_keys, t_cmp, t_chain, t_and, t_or, t_not, t_var, t_ix, t_call, t_meth, t_isi, t_kin, t_fld, t_bf, s_nil, s_cons, s_pass, s_doc, s_brk, s_cnt, s_retN, s_expr, s_asg, s_asgL, s_asgT, s_par, s_asgI, s_asgF, s_augN, s_augF, s_ret, s_iff, s_whl, s_for, s_tryN, strR_str, Option.getD_some, Option.getD_none, Option.isSome_some, Option.isSome_none, mVar, gJc_ap, opN, opB, and_self, true_and, and_true, if_true, if_false, Bool.true_or, Bool.not_true, Bool.not_false, eq_self]
      refine ⟨_, _, .inl rfl, f1, c, some (eCode p.codes[j]), e, ?_⟩
      rw [tk]
      cases hcc : p.codes[j] with
      | nil =>
        show _ = [some p.enc, some (D.str (A ++ "; " ++ "code")), _, _, _, _]
        rw [e_code]
        simp only [Str.append_assoc]
      | cons i0 cr => rw [hcc] at hc; exact absurd (by simp) hc
  · rintro ρ s1 _
    simp [sItem]
  rintro ρ' s2 ⟨f2, c, d, e, rfl⟩ rfl
  rw [List.take_length]
  have hB := hd2 p.codes.length (Nat.le_refl _)
  rw [List.take_length] at hB
  generalize hB' : Str.join "; " (p.heads :: ("locks " ++ num p.locks) :: p.codes.map tCode) = B at hB
  have a1 : B.length + ("; threads" : Str).length ≤ sizeLine := sz_big (by rw [l5]; omega)
  simp only [fin_nx, fin_rt, fin_ex, ofO_some, ofO_none, asB_bl, asI_int, truR_bl, outS_some, outE_some, outO_some, R.bind_ok, R.bind_ex, R.bind_bad, R.to_ok, R.to_ex, R.to_bad, Out.seq_nx, Out.seq_rt, Out.seq_bk, Out.seq_ct, Out.seq_ex, Out.seq_bad, cond_true, cond_false, gam_gl, gam_ncls, gam_init, gam_kd, List.getElem?_cons_zero, List.getElem?_cons_succ, List.set_cons_zero, List.set_cons_succ, List.cons_append, List.nil_append, k2_ap, gBin_ap, gCmp_ap, gCmpT_ap, gNeg_ap, gCh3_ap, gCh2_ap, gCh_ap, gCh3T_ap, gCh2T_ap, gChT_ap, gAnd2_ap, gAnd_ap, gOr2_ap, gOr_ap, gNot2_ap, gNot_ap, gIte_ap, gIx_ap, gSl2_ap, gSl1_ap, gSl_ap, gRev_ap, gFld_ap, gMk2_ap, gMk_ap, gMt2_ap, gMt_ap, gBf_ap, gBm2_ap, gBm_ap, gIsi_ap, gLc_ap, gStr_ap, gKget_ap, gKin_ap, gCo2_ap, gCo_ap, gOs2_ap, gOs_ap, gRn1_ap, gRn3_ap, gRn2_ap, gRn_ap, gZp_ap, gAndT_ap, gOrT_ap, gNotT_ap, gJ_ap, sNx_ap, sSet_ap, sSetT_ap, sPar2_ap, sPar1_ap, sI3_ap, sI2_ap, sI1_ap, sF2_ap, sF1_ap, sN2_ap, sN1_ap, sA3_ap, sA2_ap, sA1_ap, sR_ap, sIff_ap, sFr_ap, e_var, e_cst, e_glob, e_bin, e_neg, e_cmp, e_chain, e_and, e_or, e_not, e_ite, e_ix, e_sl, e_rev, e_tup, e_lst, e_dnewK, e_dnewT, e_fld, e_call, e_make, e_meth, e_bf, e_bm, e_isi, e_lc, e_fst, e_fmt, e_kget, e_kin, gDk_ap, gDr_ap, gDv_ap, keyR_str, keyR_int, e_disp, d_nil, d_cons, d1_cons, e_nil, e_cons, j_nil, j_cons, o_none, o_some, c_none, c_some, i_seq, i_rng1, i_rng2, i_zp, i_enm, i_keys, t_cmp, t_chain, t_and, t_or, t_not, t_var, t_ix, t_call, t_meth, t_isi, t_kin, t_fld, t_bf, s_nil, s_cons, s_pass, s_doc, s_brk, s_cnt, s_retN, s_expr, s_asg, s_asgL, s_asgT, s_par, s_asgI, s_asgF, s_augN, s_augF, s_ret, s_iff, s_whl, s_for, s_tryN, strR_str, Option.getD_some, Option.getD_none, Option.isSome_some, Option.isSome_none, mVar, gJc_ap, opN, opB, and_self, true_and, and_true, if_true, if_false, Bool.true_or, Bool.not_true, Bool.not_false, eq_self, a1, i3, q3]
  generalize hX : fLoop _ _ _ _ _ _ _ = o
  have hd3 : ∀ j, j ≤ p.ts.length → (Str.join " " (("threads" : Str) :: (p.ts.take j).map tThr)).length ≤ 100 := by
    intro j hj
    have a := join_len (y := " ") (m := 9) (ps := ("threads" : Str) :: (p.ts.take j).map tThr) fun z hz => tails_part tx z (by
      rcases List.mem_cons.mp hz with rfl | hz
      · exact List.mem_cons_self ..
      · obtain ⟨v, hv, rfl⟩ := List.mem_map.mp hz
        exact List.mem_cons_of_mem _ (List.mem_map_of_mem (List.mem_of_mem_take hv)))
    have b := tx.t2
    rw [l1, List.length_cons, List.length_map, List.length_take, Nat.min_eq_left hj] at a
    exact Nat.le_trans a (by omega)
  have st0 : B ++ "; threads" = B ++ "; " ++ Str.join " " (("threads" : Str) :: (p.ts.take 0).map tThr) := by
    show _ = B ++ "; " ++ "threads"
    rw [e_thr]
    simp only [Str.append_assoc]
  refine for_c hX p.ts.length (fun j ρ s1 => s1 = s2 ∧ ∃ e, ρ = [some p.enc, some (.str (B ++ "; " ++ Str.join " " ("threads" :: (p.ts.take j).map tThr))), c, d, e, none]) ⟨rfl, e, by rw [st0]⟩ (Nat.zero_le _) ?_ ?_ ?_ ?_
  · show p.ts.length - 0 < (p.ts.map eThr).length + 1
    simp
  · rintro j ρ s1 hj ⟨rfl, e, rfl⟩
    refine ⟨eThr p.ts[j], _, by simp [sItem, hj], rfl, ?_⟩
    generalize hA : Str.join " " ("threads" :: (p.ts.take j).map tThr) = A
    have hA2 := hd3 j (by omega)
    rw [hA] at hA2
    show ∃ ρ2 s3, (svs _ _ _ [some p.enc, some (.str (B ++ "; " ++ A)), c, d, some (eThr p.ts[j]), none] s1 = .nx ρ2 s3 ∨ svs _ _ _ [some p.enc, some (.str (B ++ "; " ++ A)), c, d, some (eThr p.ts[j]), none] s1 = .ct ρ2 s3) ∧ _
    obtain ⟨t1, t2⟩ := tx.t3 p.ts[j] (List.getElem_mem hj)
    have n1 := num_len t1
    have n2 := num_len t2
    have x0 : ixO (eThr p.ts[j]) (.int 0) s1 = some (.int p.ts[j].1, s1) := rfl
    have x1 : ixO (eThr p.ts[j]) (.int 1) s1 = some (.int p.ts[j].2, s1) := rfl
    have a1 : (B ++ "; " ++ A).length + (" " : Str).length ≤ sizeLine := sz_big (by simp only [Str.length_append, l1, l7]; omega)
    have a2 : (B ++ "; " ++ A ++ " ").length + (num p.ts[j].1).length ≤ sizeLine := sz_big (by simp only [Str.length_append, l1, l7]; omega)
    have a3 : (B ++ "; " ++ A ++ " " ++ num p.ts[j].1).length + (":" : Str).length ≤ sizeLine := sz_big (by simp only [Str.length_append, l1, l7, l6]; omega)
    have a4 : (B ++ "; " ++ A ++ " " ++ num p.ts[j].1 ++ ":").length + (num p.ts[j].2).length ≤ sizeLine := sz_big (by simp only [Str.length_append, l1, l7, l6]; omega)
    have tk : Str.join " " ("threads" :: (p.ts.take (j + 1)).map tThr) = A ++ " " ++ tThr p.ts[j] := by
      rw [List.take_add_one, List.getElem?_eq_getElem hj, Option.toList_some, List.map_append, ← List.cons_append]
      rw [show [p.ts[j]].map tThr = [tThr p.ts[j]] from rfl, join_snoc (by simp), hA]
    simp only [fin_nx, fin_rt, fin_ex, ofO_some, ofO_none, asB_bl, asI_int, truR_bl, outS_some, outE_some, outO_some, R.bind_ok, R.bind_ex, R.bind_bad, R.to_ok, R.to_ex, R.to_bad, Out.seq_nx, Out.seq_rt, Out.seq_bk, Out.seq_ct, Out.seq_ex, Out.seq_bad, cond_true, cond_false, gam_gl, gam_ncls, gam_init, gam_kd, List.getElem?_cons_zero, List.getElem?_cons_succ, List.set_cons_zero, List.set_cons_succ, List.cons_append, List.nil_append, k2_ap, gBin_ap, gCmp_ap, gCmpT_ap, gNeg_ap, gCh3_ap, gCh2_ap, gCh_ap, gCh3T_ap, gCh2T_ap, gChT_ap, gAnd2_ap, gAnd_ap, gOr2_ap, gOr_ap, gNot2_ap, gNot_ap, gIte_ap, gIx_ap, gSl2_ap, gSl1_ap, gSl_ap, gRev_ap, gFld_ap, gMk2_ap, gMk_ap, gMt2_ap, gMt_ap, gBf_ap, gBm2_ap, gBm_ap, gIsi_ap, gLc_ap, gStr_ap, gKget_ap, gKin_ap, gCo2_ap, gCo_ap, gOs2_ap, gOs_ap, gRn1_ap, gRn3_ap, gRn2_ap, gRn_ap, gZp_ap, gAndT_ap, gOrT_ap, gNotT_ap, gJ_ap, sNx_ap, sSet_ap, sSetT_ap, sPar2_ap, sPar1_ap, sI3_ap, sI2_ap, sI1_ap, sF2_ap, sF1_ap, sN2_ap, sN1_ap, sA3_ap, sA2_ap, sA1_ap, sR_ap, sIff_ap, sFr_ap, e_var, e_cst, e_glob, e_bin, e_neg, e_cmp, e_chain, e_and, e_or, e_not, e_ite, e_ix, e_sl, e_rev, e_tup, e_lst, e_dnewK, e_dnewT, e_fld, e_call, e_make, e_meth, e_bf, e_bm, e_isi, e_lc, e_fst, e_fmt, e_kget, e_kin, gDk_ap, gDr_ap, gDv_ap, keyR_str, keyR_int, e_disp, d_nil, d_cons, d1_cons, e_nil, e_cons, j_nil, j_cons, o_none, o_some, c_none, c_some, i_seq, i_rng1, i_rng2, i_zp, i_enm, i_keys, t_cmp, t_chain, t_and, t_or, t_not, t_var, t_ix, t_call, t_meth, t_isi, t_kin, t_fld, t_bf, s_nil, s_cons, s_pass, s_doc, s_brk, s_cnt, s_retN, s_expr, s_asg, s_asgL, s_asgT, s_par, s_asgI, s_asgF, s_augN, s_augF, s_ret, s_iff, s_whl, s_for, s_tryN, strR_str, Option.getD_some, Option.getD_none, Option.isSome_some, Option.isSome_none, mVar, gJc_ap, opN, opB, and_self, true_and, and_true, if_true, if_false, Bool.true_or, Bool.not_true, Bool.not_false, eq_self, x0, x1, str_int t1, str_int t2, a1, a2, a3, a4]
    refine ⟨_, _, .inl rfl, rfl, some (eThr p.ts[j]), ?_⟩
    rw [tk]
    unfold tThr
    simp only [Str.append_assoc]
  · rintro ρ s1 _
    simp [sItem]
  rintro ρ' s3 ⟨rfl, e', rfl⟩ rfl
  simp only [fin_nx, fin_rt, fin_ex, ofO_some, ofO_none, asB_bl, asI_int, truR_bl, outS_some, outE_some, outO_some, R.bind_ok, R.bind_ex, R.bind_bad, R.to_ok, R.to_ex, R.to_bad, Out.seq_nx, Out.seq_rt, Out.seq_bk, Out.seq_ct, Out.seq_ex, Out.seq_bad, cond_true, cond_false, gam_gl, gam_ncls, gam_init, gam_kd, List.getElem?_cons_zero, List.getElem?_cons_succ, List.set_cons_zero, List.set_cons_succ, List.cons_append, List.nil_append, k2_ap, gBin_ap, gCmp_ap, gCmpT_ap, gNeg_ap, gCh3_ap, gCh2_ap, gCh_ap, gCh3T_ap, gCh2T_ap, gChT_ap, gAnd2_ap, gAnd_ap, gOr2_ap, gOr_ap, gNot2_ap, gNot_ap, gIte_ap, gIx_ap, gSl2_ap, gSl1_ap, gSl_ap, gRev_ap, gFld_ap, gMk2_ap, gMk_ap, gMt2_ap, gMt_ap, gBf_ap, gBm2_ap, gBm_ap, gIsi_ap, gLc_ap, gStr_ap, gKget_ap, gKin_ap, gCo2_ap, gCo_ap, gOs2_ap, gOs_ap, gRn1_ap, gRn3_ap, gRn2_ap, gRn_ap, gZp_ap, gAndT_ap, gOrT_ap, gNotT_ap, gJ_ap, sNx_ap, sSet_ap, sSetT_ap, sPar2_ap, sPar1_ap, sI3_ap, sI2_ap, sI1_ap, sF2_ap, sF1_ap, sN2_ap, sN1_ap, sA3_ap, sA2_ap, sA1_ap, sR_ap, sIff_ap, sFr_ap, e_var, e_cst, e_glob, e_bin, e_neg, e_cmp, e_chain, e_and, e_or, e_not, e_ite, e_ix, e_sl, e_rev, e_tup, e_lst, e_dnewK, e_dnewT, e_fld, e_call, e_make, e_meth, e_bf, e_bm, e_isi, e_lc, e_fst, e_fmt, e_kget, e_kin, gDk_ap, gDr_ap, gDv_ap, keyR_str, keyR_int, e_disp, d_nil, d_cons, d1_cons, e_nil, e_cons, j_nil, j_cons, o_none, o_some, c_none, c_some, i_seq, i_rng1, i_rng2, i_zp, i_enm, i_keys, t_cmp, t_chain, t_and, t_or, t_not, t_var, t_ix, t_call, t_meth, t_isi, t_kin, t_fld, t_bf, s_nil, s_cons, s_pass, s_doc, s_brk, s_cnt, s_retN, s_expr, s_asg, s_asgL, s_asgT, s_par, s_asgI, s_asgF, s_augN, s_augF, s_ret, s_iff, s_whl, s_for, s_tryN, strR_str, Option.getD_some, Option.getD_none, Option.isSome_some, Option.isSome_none, mVar, gJc_ap, opN, opB, and_self, true_and, and_true, if_true, if_false, Bool.true_or, Bool.not_true, Bool.not_false, eq_self]
  refine ⟨s3, ?_, f2⟩
  have : p.text = B ++ "; " ++ Str.join " " ("threads" :: (p.ts.take p.ts.length).map tThr) := by
    rw [List.take_length, ← hB']
    show Str.join "; " (p.heads :: ("locks " ++ num p.locks) :: (p.codes.map tCode ++ [p.tails])) = _
    rw [← List.cons_append, ← List.cons_append, join_snoc (by simp)]
    rfl
  rw [this]
end Lk61
set_option Elab.async false
set_option linter.all false
set_option maxRecDepth 100000
set_option maxHeartbeats 4000000
/-! Pf61: format_program -/
namespace Lk61
open PySem L2 Ab
theorem Fr.put_new {s s' : Sto} (f : Fr (fun _ => False) s s') {q : Nat} (h : s.n ≤ q) {o : Ob} : Fr (fun _ => False) s (s'.put q o) :=
  ⟨f.le, fun r hr hx => (put_ne (by omega)).trans (f.eq r hr hx)⟩
theorem l9 : ("locks " : Str).length = 6 := rfl
theorem l10 : ("threads" : Str).length = 7 := rfl
theorem l11 : ("code " : Str).length = 5 := rfl
theorem lo_new {s : Sto} {xs : List D} : lstOf (s.new (.lst xs)) s.n = some xs := lo new_g
theorem format_is {k fuel : Nat} {s : Sto} {p : Pg} (ok : OkPg FM p) : ∃ s', (T.gam fuel (k + 6)).fn 9 [p.enc] s = .ok (.str p.text) s' ∧ Fr (fun _ => False) s s' := by
  have tx := ok.tx
  rw [i9.call rfl]
  show ∃ s', (svs _ _ b9 [some p.enc, none, none, none, none, none, none, none, none, none, none, none, none] s).fin = _ ∧ _
  obtain ⟨s0, e0, f0⟩ := prog_is chk (k := k) (fuel := fuel) (s := s) (p := p) ok
  have bd : bindT (.tp (.cons (.nm 1) (.cons (.nm 2) (.cons (.nm 3) (.cons (.nm 4) (.nil)))))) p.enc [some p.enc, none, none, none, none, none, none, none, none, none, none, none, none] = some [some p.enc, some (.tup (p.vars.map eVar)), some (.int p.locks), some (.tup (p.codes.map eCode)), some (.tup (p.ts.map eThr)), none, none, none, none, none, none, none, none] := rfl
  have q0 : ∀ s, srcR (.tup (p.vars.map eVar)) s = .ok (.fix (p.vars.map eVar)) s := fun _ => rfl
  have q2 : ∀ s, srcR (.tup (p.codes.map eCode)) s = .ok (.fix (p.codes.map eCode)) s := fun _ => rfl
  have q3 : ∀ s, srcR (.tup (p.ts.map eThr)) s = .ok (.fix (p.ts.map eThr)) s := fun _ => rfl
  have y0 := lst_n (xs := [.str "vars"]) s0 (by show 1 ≤ 100; decide)
  unfold b9
  simp only [fin_nx, fin_rt, fin_ex, ofO_some, ofO_none, asB_bl, asI_int, truR_bl, outS_some, outE_some, outO_some, R.bind_ok, R.bind_ex, R.bind_bad, R.to_ok, R.to_ex, R.to_bad, Out.seq_nx, Out.seq_rt, Out.seq_bk, Out.seq_ct, Out.seq_ex, Out.seq_bad, cond_true, cond_false, gam_gl, gam_ncls, gam_init, gam_kd, List.getElem?_cons_zero, List.getElem?_cons_succ, List.set_cons_zero, List.set_cons_succ, List.cons_append, List.nil_append, k2_ap, gBin_ap, gCmp_ap, gCmpT_ap, gNeg_ap, gCh3_ap, gCh2_ap, gCh_ap, gCh3T_ap, gCh2T_ap, gChT_ap, gAnd2_ap, gAnd_ap, gOr2_ap, gOr_ap, gNot2_ap, gNot_ap, gIte_ap, gIx_ap, gSl2_ap, gSl1_ap, gSl_ap, gRev_ap, gFld_ap, gMk2_ap, gMk_ap, gMt2_ap, gMt_ap, gBf_ap, gBm2_ap, gBm_ap, gIsi_ap, gLc_ap, gStr_ap, gKget_ap, gKin_ap, gCo2_ap, gCo_ap, gOs2_ap, gOs_ap, gRn1_ap, gRn3_ap, gRn2_ap, gRn_ap, gZp_ap, gAndT_ap, gOrT_ap, gNotT_ap, gJ_ap, sNx_ap, sSet_ap, sSetT_ap, sPar2_ap, sPar1_ap, sI3_ap, sI2_ap, sI1_ap, sF2_ap, sF1_ap, sN2_ap, sN1_ap, sA3_ap, sA2_ap, sA1_ap, sR_ap, sIff_ap, sFr_ap, e_var, e_cst, e_glob, e_bin, e_neg, e_cmp, e_chain, e_and, e_or, e_not, e_ite, e_ix, e_sl, e_rev, e_tup, e_lst, e_dnewK, e_dnewT, e_fld, e_call, e_make, e_meth, e_bf, e_bm, e_isi, e_lc, e_fst, e_fmt, e_kget, e_kin, gDk_ap, gDr_ap, gDv_ap, keyR_str, keyR_int, e_disp, d_nil, d_cons, d1_cons, e_nil, e_cons, j_nil, j_cons, o_none, o_some, c_none, c_some, i_seq, i_rng1, i_rng2, i_zp, i_enm, i_keys, t_cmp, t_chain, t_and, t_or, t_not, t_var, t_ix, t_call, t_meth, t_isi, t_kin, t_fld, t_bf, s_nil, s_cons, s_pass, s_doc, s_brk, s_cnt, s_retN, s_expr, s_asg, s_asgL, s_asgT, s_par, s_asgI, s_asgF, s_augN, s_augF, s_ret, s_iff, s_whl, s_for, s_tryN, strR_str, Option.getD_some, Option.getD_none, Option.isSome_some, Option.isSome_none, mVar, gJc_ap, opN, opB, and_self, true_and, and_true, if_true, if_false, Bool.true_or, Bool.not_true, Bool.not_false, eq_self, e0, bd, y0, q0]
  obtain ⟨s1, hs1⟩ : ∃ s1, s1 = s0.new (.lst [.str "vars"]) := ⟨_, rfl⟩
  rw [← hs1]
  have g1 : s1.g s0.n = .lst [.str "vars"] := by rw [hs1]; exact new_g
  have n1 : s1.n = s0.n + 1 := by rw [hs1]; rfl
  have f1 : Fr (fun _ => False) s0 s1 := by rw [hs1]; exact Fr.new
  generalize hX : lcLoop _ _ _ _ _ _ _ _ = o
  have v4 := tx.v1
  refine lc_map hX (fun _ _ => rfl) ((p.vars.map Ab.tVar).map .str) ?_ ?_ ?_ ?_ ?_
  · show _ < (p.vars.map eVar).length + 1
    simp
  · rw [List.length_map, List.length_map]; exact sz_ge (by omega)
  · intro j hj s' _ _
    rw [List.length_map, List.length_map] at hj
    have v2 := tx.v2 p.vars[j] (List.getElem_mem hj)
    have nl := num_len v2
    refine ⟨eVar p.vars[j], [some p.enc, some (.tup (p.vars.map eVar)), some (.int p.locks), some (.tup (p.codes.map eCode)), some (.tup (p.ts.map eThr)), none, none, none, none, some (.int p.vars[j].1), some (.bl p.vars[j].2), none, none], by simp [sItem, hj], rfl, s', ?_, Fr.refl⟩
    have : ((p.vars.map Ab.tVar).map D.str)[j]'(by simpa using hj) = .str (Ab.tVar p.vars[j]) := by simp
    rw [this]
    unfold Ab.tVar
    cases hb : p.vars[j].2 with
    | true =>
      simp only [fin_nx, fin_rt, fin_ex, ofO_some, ofO_none, asB_bl, asI_int, truR_bl, outS_some, outE_some, outO_some, R.bind_ok, R.bind_ex, R.bind_bad, R.to_ok, R.to_ex, R.to_bad, Out.seq_nx, Out.seq_rt, Out.seq_bk, Out.seq_ct, Out.seq_ex, Out.seq_bad, cond_true, cond_false, gam_gl, gam_ncls, gam_init, gam_kd, List.getElem?_cons_zero, List.getElem?_cons_succ, List.set_cons_zero, List.set_cons_succ, List.cons_append, List.nil_append, k2_ap, gBin_ap, gCmp_ap, gCmpT_ap, gNeg_ap, gCh3_ap, gCh2_ap, gCh_ap, gCh3T_ap, gCh2T_ap, gChT_ap, gAnd2_ap, gAnd_ap, gOr2_ap, gOr_ap, gNot2_ap, gNot_ap, gIte_ap, gIx_ap, gSl2_ap, gSl1_ap, gSl_ap, gRev_ap, gFld_ap, gMk2_ap, gMk_ap, gMt2_ap, gMt_ap, gBf_ap, gBm2_ap, gBm_ap, gIsi_ap, gLc_ap, gStr_ap, gKget_ap, gKin_ap, gCo2_ap, gCo_ap, gOs2_ap, gOs_ap, gRn1_ap, gRn3_ap, gRn2_ap, gRn_ap, gZp_ap, gAndT_ap, gOrT_ap, gNotT_ap, gJ_ap, sNx_ap, sSet_ap, sSetT_ap, sPar2_ap, sPar1_ap, sI3_ap, sI2_ap, sI1_ap, sF2_ap, sF1_ap, sN2_ap, sN1_ap, sA3_ap, sA2_ap, sA1_ap, sR_ap, sIff_ap, sFr_ap, e_var, e_cst, e_glob, e_bin, e_neg, e_cmp, e_chain, e_and, e_or, e_not, e_ite, e_ix, e_sl, e_rev, e_tup, e_lst, e_dnewK, e_dnewT, e_fld, e_call, e_make, e_meth, e_bf, e_bm, e_isi, e_lc, e_fst, e_fmt, e_kget, e_kin, gDk_ap, gDr_ap, gDv_ap, keyR_str, keyR_int, e_disp, d_nil, d_cons, d1_cons, e_nil, e_cons, j_nil, j_cons, o_none, o_some, c_none, c_some, i_seq, i_rng1, i_rng2, i_zp, i_enm, i_keys, t_cmp, t_chain, t_and, t_or, t_not, t_var, t_ix, t_call, t_meth, t_isi, t_kin, t_fld, t_bf, s_nil, s_cons, s_pass, s_doc, s_brk, s_cnt, s_retN, s_expr, s_asg, s_asgL, s_asgT, s_par, s_asgI, s_asgF, s_augN, s_augF, s_ret, s_iff, s_whl, s_for, s_tryN, strR_str, Option.getD_some, Option.getD_none, Option.isSome_some, Option.isSome_none, mVar, gJc_ap, opN, opB, and_self, true_and, and_true, if_true, if_false, Bool.true_or, Bool.not_true, Bool.not_false, eq_self, fmt_int v2, joinR_e, joinR_s, (show (num p.vars[j].1).length ≤ sizeLine from sz_big (by omega)), (show (num p.vars[j].1 ++ "p").length ≤ sizeLine from sz_big (by rw [Str.length_append, l2]; omega))]
    | false =>
      simp only [fin_nx, fin_rt, fin_ex, ofO_some, ofO_none, asB_bl, asI_int, truR_bl, outS_some, outE_some, outO_some, R.bind_ok, R.bind_ex, R.bind_bad, R.to_ok, R.to_ex, R.to_bad, Out.seq_nx, Out.seq_rt, Out.seq_bk, Out.seq_ct, Out.seq_ex, Out.seq_bad, cond_true, cond_false, gam_gl, gam_ncls, gam_init, gam_kd, List.getElem?_cons_zero, List.getElem?_cons_succ, List.set_cons_zero, List.set_cons_succ, List.cons_append, List.nil_append, k2_ap, gBin_ap, gCmp_ap, gCmpT_ap, gNeg_ap, gCh3_ap, gCh2_ap, gCh_ap, gCh3T_ap, gCh2T_ap, gChT_ap, gAnd2_ap, gAnd_ap, gOr2_ap, gOr_ap, gNot2_ap, gNot_ap, gIte_ap, gIx_ap, gSl2_ap, gSl1_ap, gSl_ap, gRev_ap, gFld_ap, gMk2_ap, gMk_ap, gMt2_ap, gMt_ap, gBf_ap, gBm2_ap, gBm_ap, gIsi_ap, gLc_ap, gStr_ap, gKget_ap, gKin_ap, gCo2_ap, gCo_ap, gOs2_ap, gOs_ap, gRn1_ap, gRn3_ap, gRn2_ap, gRn_ap, gZp_ap, gAndT_ap, gOrT_ap, gNotT_ap, gJ_ap, sNx_ap, sSet_ap, sSetT_ap, sPar2_ap, sPar1_ap, sI3_ap, sI2_ap, sI1_ap, sF2_ap, sF1_ap, sN2_ap, sN1_ap, sA3_ap, sA2_ap, sA1_ap, sR_ap, sIff_ap, sFr_ap, e_var, e_cst, e_glob, e_bin, e_neg, e_cmp, e_chain, e_and, e_or, e_not, e_ite, e_ix, e_sl, e_rev, e_tup, e_lst, e_dnewK, e_dnewT, e_fld, e_call, e_make, e_meth, e_bf, e_bm, e_isi, e_lc, e_fst, e_fmt, e_kget, e_kin, gDk_ap, gDr_ap, gDv_ap, keyR_str, keyR_int, e_disp, d_nil, d_cons, d1_cons, e_nil, e_cons, j_nil, j_cons, o_none, o_some, c_none, c_some, i_seq, i_rng1, i_rng2, i_zp, i_enm, i_keys, t_cmp, t_chain, t_and, t_or, t_not, t_var, t_ix, t_call, t_meth, t_isi, t_kin, t_fld, t_bf, s_nil, s_cons, s_pass, s_doc, s_brk, s_cnt, s_retN, s_expr, s_asg, s_asgL, s_asgT, s_par, s_asgI, s_asgF, s_augN, s_augF, s_ret, s_iff, s_whl, s_for, s_tryN, strR_str, Option.getD_some, Option.getD_none, Option.isSome_some, Option.isSome_none, mVar, gJc_ap, opN, opB, and_self, true_and, and_true, if_true, if_false, Bool.true_or, Bool.not_true, Bool.not_false, eq_self, str_int v2]
      rfl
  · intro s' _
    simp [sItem]
  rintro s2 g2 m2 f2 rfl
  have g2' : s2.g s0.n = .lst [.str "vars"] := (f2.eq _ (by omega) id).trans g1
  have le2 := f2.le
  have z2 : [D.str "vars"].length + ((p.vars.map Ab.tVar).map D.str).length ≤ sizeLine := sz_ge (by simp; omega)
  obtain ⟨s3, hs3⟩ : ∃ s3, s3 = s2.new (.lst (.str "vars" :: (p.vars.map Ab.tVar).map .str)) := ⟨_, rfl⟩
  have f3 : Fr (fun _ => False) s2 s3 := by rw [hs3]; exact Fr.new
  have n3 : s3.n = s2.n + 1 := by rw [hs3]; rfl
  have j3 : mO .join (.str " ") [.ref s2.n] s3 = some (.str p.heads, s3) := join_is (m := 9) (sq_lst (xs := ((("vars" : Str) :: p.vars.map Ab.tVar).map .str)) (by rw [hs3]; exact new_g)) (heads_part tx) (by rw [l1]; simp; omega)
  have lkn : (p.locks : Int).natAbs < 1000 := by have := tx.lk; omega
  have lkl := num_len lkn
  have y3 := lst_n (xs := [.str p.heads, .str ("locks " ++ num p.locks)]) s3 (by show 2 ≤ 100; decide)
  obtain ⟨s4, hs4⟩ : ∃ s4, s4 = s3.new (.lst [.str p.heads, .str ("locks " ++ num p.locks)]) := ⟨_, rfl⟩
  rw [← hs4] at y3
  have g4 : s4.g s3.n = .lst [.str p.heads, .str ("locks " ++ num p.locks)] := by rw [hs4]; exact new_g
  have n4 : s4.n = s3.n + 1 := by rw [hs4]; rfl
  simp only [fin_nx, fin_rt, fin_ex, ofO_some, ofO_none, asB_bl, asI_int, truR_bl, outS_some, outE_some, outO_some, R.bind_ok, R.bind_ex, R.bind_bad, R.to_ok, R.to_ex, R.to_bad, Out.seq_nx, Out.seq_rt, Out.seq_bk, Out.seq_ct, Out.seq_ex, Out.seq_bad, cond_true, cond_false, gam_gl, gam_ncls, gam_init, gam_kd, List.getElem?_cons_zero, List.getElem?_cons_succ, List.set_cons_zero, List.set_cons_succ, List.cons_append, List.nil_append, k2_ap, gBin_ap, gCmp_ap, gCmpT_ap, gNeg_ap, gCh3_ap, gCh2_ap, gCh_ap, gCh3T_ap, gCh2T_ap, gChT_ap, gAnd2_ap, gAnd_ap, gOr2_ap, gOr_ap, gNot2_ap, gNot_ap, gIte_ap, gIx_ap, gSl2_ap, gSl1_ap, gSl_ap, gRev_ap, gFld_ap, gMk2_ap, gMk_ap, gMt2_ap, gMt_ap, gBf_ap, gBm2_ap, gBm_ap, gIsi_ap, gLc_ap, gStr_ap, gKget_ap, gKin_ap, gCo2_ap, gCo_ap, gOs2_ap, gOs_ap, gRn1_ap, gRn3_ap, gRn2_ap, gRn_ap, gZp_ap, gAndT_ap, gOrT_ap, gNotT_ap, gJ_ap, sNx_ap, sSet_ap, sSetT_ap, sPar2_ap, sPar1_ap, sI3_ap, sI2_ap, sI1_ap, sF2_ap, sF1_ap, sN2_ap, sN1_ap, sA3_ap, sA2_ap, sA1_ap, sR_ap, sIff_ap, sFr_ap, e_var, e_cst, e_glob, e_bin, e_neg, e_cmp, e_chain, e_and, e_or, e_not, e_ite, e_ix, e_sl, e_rev, e_tup, e_lst, e_dnewK, e_dnewT, e_fld, e_call, e_make, e_meth, e_bf, e_bm, e_isi, e_lc, e_fst, e_fmt, e_kget, e_kin, gDk_ap, gDr_ap, gDv_ap, keyR_str, keyR_int, e_disp, d_nil, d_cons, d1_cons, e_nil, e_cons, j_nil, j_cons, o_none, o_some, c_none, c_some, i_seq, i_rng1, i_rng2, i_zp, i_enm, i_keys, t_cmp, t_chain, t_and, t_or, t_not, t_var, t_ix, t_call, t_meth, t_isi, t_kin, t_fld, t_bf, s_nil, s_cons, s_pass, s_doc, s_brk, s_cnt, s_retN, s_expr, s_asg, s_asgL, s_asgT, s_par, s_asgI, s_asgF, s_augN, s_augF, s_ret, s_iff, s_whl, s_for, s_tryN, strR_str, Option.getD_some, Option.getD_none, Option.isSome_some, Option.isSome_none, mVar, gJc_ap, opN, opB, and_self, true_and, and_true, if_true, if_false, Bool.true_or, Bool.not_true, Bool.not_false, eq_self, lo g2, lo g2', z2, Option.bind_some]
  rw [← hs3]
  simp only [fin_nx, fin_rt, fin_ex, ofO_some, ofO_none, asB_bl, asI_int, truR_bl, outS_some, outE_some, outO_some, R.bind_ok, R.bind_ex, R.bind_bad, R.to_ok, R.to_ex, R.to_bad, Out.seq_nx, Out.seq_rt, Out.seq_bk, Out.seq_ct, Out.seq_ex, Out.seq_bad, cond_true, cond_false, gam_gl, gam_ncls, gam_init, gam_kd, List.getElem?_cons_zero, List.getElem?_cons_succ, List.set_cons_zero, List.set_cons_succ, List.cons_append, List.nil_append, k2_ap, gBin_ap, gCmp_ap, gCmpT_ap, gNeg_ap, gCh3_ap, gCh2_ap, gCh_ap, gCh3T_ap, gCh2T_ap, gChT_ap, gAnd2_ap, gAnd_ap, gOr2_ap, gOr_ap, gNot2_ap, gNot_ap, gIte_ap, gIx_ap, gSl2_ap, gSl1_ap, gSl_ap, gRev_ap, gFld_ap, gMk2_ap, gMk_ap, gMt2_ap, gMt_ap, gBf_ap, gBm2_ap, gBm_ap, gIsi_ap, gLc_ap, gStr_ap, gKget_ap, gKin_ap, gCo2_ap, gCo_ap, gOs2_ap, gOs_ap, gRn1_ap, gRn3_ap, gRn2_ap, gRn_ap, gZp_ap, gAndT_ap, gOrT_ap, gNotT_ap, gJ_ap, sNx_ap, sSet_ap, sSetT_ap, sPar2_ap, sPar1_ap, sI3_ap, sI2_ap, sI1_ap, sF2_ap, sF1_ap, sN2_ap, sN1_ap, sA3_ap, sA2_ap, sA1_ap, sR_ap, sIff_ap, sFr_ap, e_var, e_cst, e_glob, e_bin, e_neg, e_cmp, e_chain, e_and, e_or, e_not, e_ite, e_ix, e_sl, e_rev, e_tup, e_lst, e_dnewK, e_dnewT, e_fld, e_call, e_make, e_meth, e_bf, e_bm, e_isi, e_lc, e_fst, e_fmt, e_kget, e_kin, gDk_ap, gDr_ap, gDv_ap, keyR_str, keyR_int, e_disp, d_nil, d_cons, d1_cons, e_nil, e_cons, j_nil, j_cons, o_none, o_some, c_none, c_some, i_seq, i_rng1, i_rng2, i_zp, i_enm, i_keys, t_cmp, t_chain, t_and, t_or, t_not, t_var, t_ix, t_call, t_meth, t_isi, t_kin, t_fld, t_bf, s_nil, s_cons, s_pass, s_doc, s_brk, s_cnt, s_retN, s_expr, s_asg, s_asgL, s_asgT, s_par, s_asgI, s_asgF, s_augN, s_augF, s_ret, s_iff, s_whl, s_for, s_tryN, strR_str, Option.getD_some, Option.getD_none, Option.isSome_some, Option.isSome_none, mVar, gJc_ap, opN, opB, and_self, true_and, and_true, if_true, if_false, Bool.true_or, Bool.not_true, Bool.not_false, eq_self, j3, tyJ, fmt_int lkn, joinR_e, joinR_s, (show ("locks " : Str).length ≤ sizeLine from sz_big (by rw [l9]; omega)), (show (("locks " : Str) ++ num p.locks).length ≤ sizeLine from sz_big (by rw [Str.length_append, l9]; omega)), y3, q2]
  generalize hX : fLoop _ _ _ _ _ _ _ = o
  have F4 : Fr (fun _ => False) s s4 := (((f0.trans f1).trans f2).trans f3).trans (by rw [hs4]; exact Fr.new)
  have le0 := f0.le
  refine for_c hX p.codes.length (fun j ρ s' => Fr (fun _ => False) s s' ∧ s3.n < s'.n ∧ s'.g s3.n = .lst ((p.heads :: ("locks " ++ num p.locks) :: (p.codes.take j).map tCode).map .str) ∧ ∃ c d, ρ = [some p.enc, some (.tup (p.vars.map eVar)), some (.int p.locks), some (.tup (p.codes.map eCode)), some (.tup (p.ts.map eThr)), some (.ref s2.n), some (.ref s3.n), c, d, none, none, none, none]) ⟨F4, by omega, g4, none, none, rfl⟩ (Nat.zero_le _) ?_ ?_ ?_ ?_
  · show p.codes.length - 0 < (p.codes.map eCode).length + 1
    simp
  · rintro j ρ s' hj ⟨f5, lt5, g5, c, d, rfl⟩
    refine ⟨eCode p.codes[j], _, by simp [sItem, hj], rfl, ?_⟩
    show ∃ ρ2 s3', (svs _ _ _ [some p.enc, some (.tup (p.vars.map eVar)), some (.int p.locks), some (.tup (p.codes.map eCode)), some (.tup (p.ts.map eThr)), some (.ref s2.n), some (.ref s3.n), some (eCode p.codes[j]), d, none, none, none, none] s' = .nx ρ2 s3' ∨ svs _ _ _ [some p.enc, some (.tup (p.vars.map eVar)), some (.int p.locks), some (.tup (p.codes.map eCode)), some (.tup (p.ts.map eThr)), some (.ref s2.n), some (.ref s3.n), some (eCode p.codes[j]), d, none, none, none, none] s' = .ct ρ2 s3') ∧ _
    obtain ⟨c16, cit⟩ := tx.c3 p.codes[j] (List.getElem_mem hj)
    have jl := codeJ_len c16 cit
    have c6 := tx.c2
    have sc : srcR (eCode p.codes[j]) s' = .ok (.fix (p.codes[j].map eI)) s' := rfl
    simp only [fin_nx, fin_rt, fin_ex, ofO_some, ofO_none, asB_bl, asI_int, truR_bl, outS_some, outE_some, outO_some, R.bind_ok, R.bind_ex, R.bind_bad, R.to_ok, R.to_ex, R.to_bad, Out.seq_nx, Out.seq_rt, Out.seq_bk, Out.seq_ct, Out.seq_ex, Out.seq_bad, cond_true, cond_false, gam_gl, gam_ncls, gam_init, gam_kd, List.getElem?_cons_zero, List.getElem?_cons_succ, List.set_cons_zero, List.set_cons_succ, List.cons_append, List.nil_append, k2_ap, gBin_ap, gCmp_ap, gCmpT_ap, gNeg_ap, gCh3_ap, gCh2_ap, gCh_ap, gCh3T_ap, gCh2T_ap, gChT_ap, gAnd2_ap, gAnd_ap, gOr2_ap, gOr_ap, gNot2_ap, gNot_ap, gIte_ap, gIx_ap, gSl2_ap, gSl1_ap, gSl_ap, gRev_ap, gFld_ap, gMk2_ap, gMk_ap, gMt2_ap, gMt_ap, gBf_ap, gBm2_ap, gBm_ap, gIsi_ap, gLc_ap, gStr_ap, gKget_ap, gKin_ap, gCo2_ap, gCo_ap, gOs2_ap, gOs_ap, gRn1_ap, gRn3_ap, gRn2_ap, gRn_ap, gZp_ap, gAndT_ap, gOrT_ap, gNotT_ap, gJ_ap, sNx_ap, sSet_ap, sSetT_ap, sPar2_ap, sPar1_ap, sI3_ap, sI2_ap, sI1_ap, sF2_ap, sF1_ap, sN2_ap, sN1_ap, sA3_ap, sA2_ap, sA1_ap, sR_ap, sIff_ap, sFr_ap, e_var, e_cst, e_glob, e_bin, e_neg, e_cmp, e_chain, e_and, e_or, e_not, e_ite, e_ix, e_sl, e_rev, e_tup, e_lst, e_dnewK, e_dnewT, e_fld, e_call, e_make, e_meth, e_bf, e_bm, e_isi, e_lc, e_fst, e_fmt, e_kget, e_kin, gDk_ap, gDr_ap, gDv_ap, keyR_str, keyR_int, e_disp, d_nil, d_cons, d1_cons, e_nil, e_cons, j_nil, j_cons, o_none, o_some, c_none, c_some, i_seq, i_rng1, i_rng2, i_zp, i_enm, i_keys, t_cmp, t_chain, t_and, t_or, t_not, t_var, t_ix, t_call, t_meth, t_isi, t_kin, t_fld, t_bf, s_nil, s_cons, s_pass, s_doc, s_brk, s_cnt, s_retN, s_expr, s_asg, s_asgL, s_asgT, s_par, s_asgI, s_asgF, s_augN, s_augF, s_ret, s_iff, s_whl, s_for, s_tryN, strR_str, Option.getD_some, Option.getD_none, Option.isSome_some, Option.isSome_none, mVar, gJc_ap, opN, opB, and_self, true_and, and_true, if_true, if_false, Bool.true_or, Bool.not_true, Bool.not_false, eq_self, tyJ, sc]
    generalize hY : lcLoop _ _ _ _ _ _ _ _ = o2
    refine lc_map hY (fun _ _ => rfl) ((p.codes[j].map tIns).map .str) ?_ ?_ ?_ ?_ ?_
    · show _ < (p.codes[j].map eI).length + 1
      simp
    · rw [List.length_map, List.length_map]; exact sz_ge (by omega)
    · intro i hi s6 _ _
      rw [List.length_map, List.length_map] at hi
      obtain ⟨s7, k1, k2⟩ := fins (k := k + 4) (fuel := fuel) (s := s6) (cit _ (List.getElem_mem hi))
      refine ⟨eI p.codes[j][i], [some p.enc, some (.tup (p.vars.map eVar)), some (.int p.locks), some (.tup (p.codes.map eCode)), some (.tup (p.ts.map eThr)), some (.ref s2.n), some (.ref s3.n), some (eCode p.codes[j]), d, none, none, some (eI p.codes[j][i]), none], by simp [sItem, hi], rfl, s7, ?_, k2⟩
      have : ((p.codes[j].map tIns).map D.str)[i]'(by simpa using hi) = .str (tIns p.codes[j][i]) := by simp
      rw [this]
      simp only [fin_nx, fin_rt, fin_ex, ofO_some, ofO_none, asB_bl, asI_int, truR_bl, outS_some, outE_some, outO_some, R.bind_ok, R.bind_ex, R.bind_bad, R.to_ok, R.to_ex, R.to_bad, Out.seq_nx, Out.seq_rt, Out.seq_bk, Out.seq_ct, Out.seq_ex, Out.seq_bad, cond_true, cond_false, gam_gl, gam_ncls, gam_init, gam_kd, List.getElem?_cons_zero, List.getElem?_cons_succ, List.set_cons_zero, List.set_cons_succ, List.cons_append, List.nil_append, k2_ap, gBin_ap, gCmp_ap, gCmpT_ap, gNeg_ap, gCh3_ap, gCh2_ap, gCh_ap, gCh3T_ap, gCh2T_ap, gChT_ap, gAnd2_ap, gAnd_ap, gOr2_ap, gOr_ap, gNot2_ap, gNot_ap, gIte_ap, gIx_ap, gSl2_ap, gSl1_ap, gSl_ap, gRev_ap, gFld_ap, gMk2_ap, gMk_ap, gMt2_ap, gMt_ap, gBf_ap, gBm2_ap, gBm_ap, gIsi_ap, gLc_ap, gStr_ap, gKget_ap, gKin_ap, gCo2_ap, gCo_ap, gOs2_ap, gOs_ap, gRn1_ap, gRn3_ap, gRn2_ap, gRn_ap, gZp_ap, gAndT_ap, gOrT_ap, gNotT_ap, gJ_ap, sNx_ap, sSet_ap, sSetT_ap, sPar2_ap, sPar1_ap, sI3_ap, sI2_ap, sI1_ap, sF2_ap, sF1_ap, sN2_ap, sN1_ap, sA3_ap, sA2_ap, sA1_ap, sR_ap, sIff_ap, sFr_ap, e_var, e_cst, e_glob, e_bin, e_neg, e_cmp, e_chain, e_and, e_or, e_not, e_ite, e_ix, e_sl, e_rev, e_tup, e_lst, e_dnewK, e_dnewT, e_fld, e_call, e_make, e_meth, e_bf, e_bm, e_isi, e_lc, e_fst, e_fmt, e_kget, e_kin, gDk_ap, gDr_ap, gDv_ap, keyR_str, keyR_int, e_disp, d_nil, d_cons, d1_cons, e_nil, e_cons, j_nil, j_cons, o_none, o_some, c_none, c_some, i_seq, i_rng1, i_rng2, i_zp, i_enm, i_keys, t_cmp, t_chain, t_and, t_or, t_not, t_var, t_ix, t_call, t_meth, t_isi, t_kin, t_fld, t_bf, s_nil, s_cons, s_pass, s_doc, s_brk, s_cnt, s_retN, s_expr, s_asg, s_asgL, s_asgT, s_par, s_asgI, s_asgF, s_augN, s_augF, s_ret, s_iff, s_whl, s_for, s_tryN, strR_str, Option.getD_some, Option.getD_none, Option.isSome_some, Option.isSome_none, mVar, gJc_ap, opN, opB, and_self, true_and, and_true, if_true, if_false, Bool.true_or, Bool.not_true, Bool.not_false, eq_self, k1]
    · intro s' _
      simp [sItem]
    · rintro s8 g8 m8 f8 rfl
      have jn := join_is (s := s8) (e := .ref s'.n) (a := ", ") (zs := p.codes[j].map tIns) (m := 35) (sq_lst g8) (fun z hz => by
          obtain ⟨i, h1, rfl⟩ := List.mem_map.mp hz
          exact tIns_len (cit i h1)) (by rw [List.length_map, show (", " : Str).length = 2 from rfl]; omega)
      have g8' : s8.g s3.n = .lst ((p.heads :: ("locks " ++ num p.locks) :: (p.codes.take j).map tCode).map .str) := (f8.eq _ lt5 id).trans g5
      have le8 := f8.le
      have a8 := app_ty g8'
      have ap := app_is (x := .str (tCode p.codes[j])) g8' (by
        have : ((p.heads :: ("locks " ++ num p.locks) :: (p.codes.take j).map tCode).map D.str).length ≤ 99 := by simp; omega
        have := sz_ge (Nat.le_refl 100)
        omega)
      have tk : (p.heads :: ("locks " ++ num p.locks) :: (p.codes.take j).map tCode).map D.str ++ [.str (tCode p.codes[j])] = (p.heads :: ("locks " ++ num p.locks) :: (p.codes.take (j + 1)).map tCode).map .str := by
        rw [List.take_add_one, List.getElem?_eq_getElem hj, Option.toList_some]
        simp only [List.map_cons, List.map_append, List.map_nil, List.cons_append]
      rw [tk] at ap
      have fin_ : ∀ d, ∃ (ρ2 : Ab.Env) (s3' : Sto), (Out.nx [some p.enc, some (.tup (p.vars.map eVar)), some (.int p.locks), some (.tup (p.codes.map eCode)), some (.tup (p.ts.map eThr)), some (.ref s2.n), some (.ref s3.n), some (eCode p.codes[j]), d, none, none, none, none] (s8.put s3.n (.lst ((p.heads :: ("locks " ++ num p.locks) :: (p.codes.take (j + 1)).map tCode).map .str))) = .nx ρ2 s3' ∨ Out.nx [some p.enc, some (.tup (p.vars.map eVar)), some (.int p.locks), some (.tup (p.codes.map eCode)), some (.tup (p.ts.map eThr)), some (.ref s2.n), some (.ref s3.n), some (eCode p.codes[j]), d, none, none, none, none] (s8.put s3.n (.lst ((p.heads :: ("locks " ++ num p.locks) :: (p.codes.take (j + 1)).map tCode).map .str))) = .ct ρ2 s3') ∧ (Fr (fun _ => False) s s3' ∧ s3.n < s3'.n ∧ s3'.g s3.n = .lst ((p.heads :: ("locks " ++ num p.locks) :: (p.codes.take (j + 1)).map tCode).map .str) ∧ ∃ c d, ρ2 = [some p.enc, some (.tup (p.vars.map eVar)), some (.int p.locks), some (.tup (p.codes.map eCode)), some (.tup (p.ts.map eThr)), some (.ref s2.n), some (.ref s3.n), c, d, none, none, none, none]) := fun d =>
        ⟨_, _, .inl rfl, Fr.put_new (f5.trans f8) (by omega), by show s3.n < s8.n; omega, put_g, _, d, rfl⟩
      have tr : truR (eCode p.codes[j]) s8 = .ok (!(p.codes[j].map eI).isEmpty) s8 := rfl
      cases hcc : p.codes[j] with
      | nil =>
        rw [hcc] at tr jn ap fin_
        simp only [fin_nx, fin_rt, fin_ex, ofO_some, ofO_none, asB_bl, asI_int, truR_bl, outS_some, outE_some, outO_some, R.bind_ok, R.bind_ex, R.bind_bad, R.to_ok, R.to_ex, R.to_bad, Out.seq_nx, Out.seq_rt, Out.seq_bk, Out.seq_ct, Out.seq_ex, Out.seq_bad, cond_true, cond_false, gam_gl, gam_ncls, gam_init, gam_kd, List.getElem?_cons_zero, List.getElem?_cons_succ, List.set_cons_zero, List.set_cons_succ, List.cons_append, List.nil_append, k2_ap, gBin_ap, gCmp_ap, gCmpT_ap, gNeg_ap, gCh3_ap, gCh2_ap, gCh_ap, gCh3T_ap, gCh2T_ap, gChT_ap, gAnd2_ap, gAnd_ap, gOr2_ap, gOr_ap, gNot2_ap, gNot_ap, gIte_ap, gIx_ap, gSl2_ap, gSl1_ap, gSl_ap, gRev_ap, gFld_ap, gMk2_ap, gMk_ap, gMt2_ap, gMt_ap, gBf_ap, gBm2_ap, gBm_ap, gIsi_ap, gLc_ap, gStr_ap, gKget_ap, gKin_ap, gCo2_ap, gCo_ap, gOs2_ap, gOs_ap, gRn1_ap, gRn3_ap, gRn2_ap, gRn_ap, gZp_ap, gAndT_ap, gOrT_ap, gNotT_ap, gJ_ap, sNx_ap, sSet_ap, sSetT_ap, sPar2_ap, sPar1_ap, sI3_ap, sI2_ap, sI1_ap, sF2_ap, sF1_ap, sN2_ap, sN1_ap, sA3_ap, sA2_ap, sA1_ap, sR_ap, sIff_ap, sFr_ap, e_var, e_cst, e_glob, e_bin, e_neg, e_cmp, e_chain, e_and, e_or, e_not, e_ite, e_ix, e_sl, e_rev, e_tup, e_lst, e_dnewK, e_dnewT, e_fld, e_call, e_make, e_meth, e_bf, e_bm, e_isi, e_lc, e_fst, e_fmt, e_kget, e_kin, gDk_ap, gDr_ap, gDv_ap, keyR_str, keyR_int, e_disp, d_nil, d_cons, d1_cons, e_nil, e_cons, j_nil, j_cons, o_none, o_some, c_none, c_some, i_seq, i_rng1, i_rng2, i_zp, i_enm, i_keys, t_cmp, t_chain, t_and, t_or, t_not, t_var, t_ix, t_call, t_meth, t_isi, t_kin, t_fld, t_bf, s_nil, s_cons, s_pass, s_doc, s_brk, s_cnt, s_retN, s_expr, s_asg, s_asgL, s_asgT, s_par, s_asgI, s_asgF, s_augN, s_augF, s_ret, s_iff, s_whl, s_for, s_tryN, strR_str, Option.getD_some, Option.getD_none, Option.isSome_some, Option.isSome_none, mVar, gJc_ap, opN, opB, and_self, true_and, and_true, if_true, if_false, Bool.true_or, Bool.not_true, Bool.not_false, eq_self, jn, a8, tr, List.map_nil, List.isEmpty_nil]
        rw [show tCode [] = "code" from rfl] at ap
        simp only [fin_nx, fin_rt, fin_ex, ofO_some, ofO_none, asB_bl, asI_int, truR_bl, outS_some, outE_some, outO_some, R.bind_ok, R.bind_ex, R.bind_bad, R.to_ok, R.to_ex, R.to_bad, Out.seq_nx, Out.seq_rt, Out.seq_bk, Out.seq_ct, Out.seq_ex, Out.seq_bad, cond_true, cond_false, gam_gl, gam_ncls, gam_init, gam_kd, List.getElem?_cons_zero, List.getElem?_cons_succ, List.set_cons_zero, List.set_cons_succ, List.cons_append, List.nil_append, k2_ap, gBin_ap, gCmp_ap, gCmpT_ap, gNeg_ap, gCh3_ap, gCh2_ap, gCh_ap, gCh3T_ap, gCh2T_ap, gChT_ap, gAnd2_ap, gAnd_ap, gOr2_ap, gOr_ap, gNot2_ap, gNot_ap, gIte_ap, gIx_ap, gSl2_ap, gSl1_ap, gSl_ap, gRev_ap, gFld_ap, gMk2_ap, gMk_ap, gMt2_ap, gMt_ap, gBf_ap, gBm2_ap, gBm_ap, gIsi_ap, gLc_ap, gStr_ap, gKget_ap, gKin_ap, gCo2_ap, gCo_ap, gOs2_ap, gOs_ap, gRn1_ap, gRn3_ap, gRn2_ap, gRn_ap, gZp_ap, gAndT_ap, gOrT_ap, gNotT_ap, gJ_ap, sNx_ap, sSet_ap, sSetT_ap, sPar2_ap, sPar1_ap, sI3_ap, sI2_ap, sI1_ap, sF2_ap, sF1_ap, sN2_ap, sN1_ap, sA3_ap, sA2_ap, sA1_ap, sR_ap, sIff_ap, sFr_ap, e_var, e_cst, e_glob, e_bin, e_neg, e_cmp, e_chain, e_and, e_or, e_not, e_ite, e_ix, e_sl, e_rev, e_tup, e_lst, e_dnewK, e_dnewT, e_fld, e_call, e_make, e_meth, e_bf, e_bm, e_isi, e_lc, e_fst, e_fmt, e_kget, e_kin, gDk_ap, gDr_ap, gDv_ap, keyR_str, keyR_int, e_disp, d_nil, d_cons, d1_cons, e_nil, e_cons, j_nil, j_cons, o_none, o_some, c_none, c_some, i_seq, i_rng1, i_rng2, i_zp, i_enm, i_keys, t_cmp, t_chain, t_and, t_or, t_not, t_var, t_ix, t_call, t_meth, t_isi, t_kin, t_fld, t_bf, s_nil, s_cons, s_pass, s_doc, s_brk, s_cnt, s_retN, s_expr, s_asg, s_asgL, s_asgT, s_par, s_asgI, s_asgF, s_augN, s_augF, s_ret, s_iff, s_whl, s_for, s_tryN, strR_str, Option.getD_some, Option.getD_none, Option.isSome_some, Option.isSome_none, mVar, gJc_ap, opN, opB, and_self, true_and, and_true, if_true, if_false, Bool.true_or, Bool.not_true, Bool.not_false, eq_self, ap]
        exact fin_ _
      | cons i0 cr =>
        rw [hcc] at tr jn ap fin_ jl
        rw [show tCode (i0 :: cr) = "code " ++ Str.join ", " ((i0 :: cr).map tIns) from rfl] at ap
        simp only [fin_nx, fin_rt, fin_ex, ofO_some, ofO_none, asB_bl, asI_int, truR_bl, outS_some, outE_some, outO_some, R.bind_ok, R.bind_ex, R.bind_bad, R.to_ok, R.to_ex, R.to_bad, Out.seq_nx, Out.seq_rt, Out.seq_bk, Out.seq_ct, Out.seq_ex, Out.seq_bad, cond_true, cond_false, gam_gl, gam_ncls, gam_init, gam_kd, List.getElem?_cons_zero, List.getElem?_cons_succ, List.set_cons_zero, List.set_cons_succ, List.cons_append, List.nil_append, k2_ap, gBin_ap, gCmp_ap, gCmpT_ap, gNeg_ap, gCh3_ap, gCh2_ap, gCh_ap, gCh3T_ap, gCh2T_ap, gChT_ap, gAnd2_ap, gAnd_ap, gOr2_ap, gOr_ap, gNot2_ap, gNot_ap, gIte_ap, gIx_ap, gSl2_ap, gSl1_ap, gSl_ap, gRev_ap, gFld_ap, gMk2_ap, gMk_ap, gMt2_ap, gMt_ap, gBf_ap, gBm2_ap, gBm_ap, gIsi_ap, gLc_ap, gStr_ap, gKget_ap, gKin_ap, gCo2_ap, gCo_ap, gOs2_ap, gOs_ap, gRn1_ap, gRn3_ap, gRn2_ap, gRn_ap, gZp_ap, gAndT_ap, gOrT_ap, gNotT_ap, gJ_ap, sNx_ap, sSet_ap, sSetT_ap, sPar2_ap, sPar1_ap, sI3_ap, sI2_ap, sI1_ap, sF2_ap, sF1_ap, sN2_ap, sN1_ap, sA3_ap, sA2_ap, sA1_ap, sR_ap, sIff_ap, sFr_ap, e_var, e_cst, e_glob, e_bin, e_neg, e_cmp, e_chain, e_and, e_or, e_not, e_ite, e_ix, e_sl, e_rev, e_tup, e_lst, e_dnewK, e_dnewT, e_fld, e_call, e_make, e_meth, e_bf, e_bm, e_isi, e_lc, e_fst, e_fmt, e_kget, e_kin, gDk_ap, gDr_ap, gDv_ap, keyR_str, keyR_int, e_disp, d_nil, d_cons, d1_cons, e_nil, e_cons, j_nil, j_cons, o_none, o_some, c_none, c_some, i_seq, i_rng1, i_rng2, i_zp, i_enm, i_keys, t_cmp, t_chain, t_and, t_or, t_not, t_var, t_ix, t_call, t_meth, t_isi, t_kin, t_fld, t_bf, s_nil, s_cons, s_pass, s_doc, s_brk, s_cnt, s_retN, s_expr, s_asg, s_asgL, s_asgT, s_par, s_asgI, s_asgF, s_augN, s_augF, s_ret, s_iff, s_whl, s_for, s_tryN, strR_str, Option.getD_some, Option.getD_none, Option.isSome_some, Option.isSome_none, mVar, gJc_ap, opN, opB, and_self, true_and, and_true, if_true, if_false, Bool.true_or, Bool.not_true, Bool.not_false, eq_self, jn, a8, tr, List.map_cons, List.isEmpty_cons]
        rw [List.map_cons] at ap jl
        simp only [fin_nx, fin_rt, fin_ex, ofO_some, ofO_none, asB_bl, asI_int, truR_bl, outS_some, outE_some, outO_some, R.bind_ok, R.bind_ex, R.bind_bad, R.to_ok, R.to_ex, R.to_bad, Out.seq_nx, Out.seq_rt, Out.seq_bk, Out.seq_ct, Out.seq_ex, Out.seq_bad, cond_true, cond_false, gam_gl, gam_ncls, gam_init, gam_kd, List.getElem?_cons_zero, List.getElem?_cons_succ, List.set_cons_zero, List.set_cons_succ, List.cons_append, List.nil_append, k2_ap, gBin_ap, gCmp_ap, gCmpT_ap, gNeg_ap, gCh3_ap, gCh2_ap, gCh_ap, gCh3T_ap, gCh2T_ap, gChT_ap, gAnd2_ap, gAnd_ap, gOr2_ap, gOr_ap, gNot2_ap, gNot_ap, gIte_ap, gIx_ap, gSl2_ap, gSl1_ap, gSl_ap, gRev_ap, gFld_ap, gMk2_ap, gMk_ap, gMt2_ap, gMt_ap, gBf_ap, gBm2_ap, gBm_ap, gIsi_ap, gLc_ap, gStr_ap, gKget_ap, gKin_ap, gCo2_ap, gCo_ap, gOs2_ap, gOs_ap, gRn1_ap, gRn3_ap, gRn2_ap, gRn_ap, gZp_ap, gAndT_ap, gOrT_ap, gNotT_ap, gJ_ap, sNx_ap, sSet_ap, sSetT_ap, sPar2_ap, sPar1_ap, sI3_ap, sI2_ap, sI1_ap, sF2_ap, sF1_ap, sN2_ap, sN1_ap, sA3_ap, sA2_ap, sA1_ap, sR_ap, sIff_ap, sFr_ap, e_var, e_cst, e_glob, e_bin, e_neg, e_cmp, e_chain, e_and, e_or, e_not, e_ite, e_ix, e_sl, e_rev, e_tup, e_lst, e_dnewK, e_dnewT, e_fld, e_call, e_make, e_meth, e_bf, e_bm, e_isi, e_lc, e_fst, e_fmt, e_kget, e_kin, gDk_ap, gDr_ap, gDv_ap, keyR_str, keyR_int, e_disp, d_nil, d_cons, d1_cons, e_nil, e_cons, j_nil, j_cons, o_none, o_some, c_none, c_some, i_seq, i_rng1, i_rng2, i_zp, i_enm, i_keys, t_cmp, t_chain, t_and, t_or, t_not, t_var, t_ix, t_call, t_meth, t_isi, t_kin, t_fld, t_bf, s_nil, s_cons, s_pass, s_doc, s_brk, s_cnt, s_retN, s_expr, s_asg, s_asgL, s_asgT, s_par, s_asgI, s_asgF, s_augN, s_augF, s_ret, s_iff, s_whl, s_for, s_tryN, strR_str, Option.getD_some, Option.getD_none, Option.isSome_some, Option.isSome_none, mVar, gJc_ap, opN, opB, and_self, true_and, and_true, if_true, if_false, Bool.true_or, Bool.not_true, Bool.not_false, eq_self, fmt_str (show (Str.join ", " (tIns i0 :: cr.map tIns)).length ≤ sizeLine from sz_big (by omega)), joinR_e, joinR_s, (show ("code " : Str).length ≤ sizeLine from sz_big (by rw [l11]; omega)), (show (("code " : Str) ++ Str.join ", " (tIns i0 :: cr.map tIns)).length ≤ sizeLine from sz_big (by rw [Str.length_append, l11]; omega)), ap]
        exact fin_ _
  · rintro ρ s1 _
    simp [sItem]
  rintro ρ' s5 ⟨f5, lt5, g5, c, d, rfl⟩ rfl
  rw [List.take_length] at g5
  have y5 := lst_n (xs := [.str "threads"]) s5 (by show 1 ≤ 100; decide)
  have a5 := app_ty g5
  have t4 := tx.t2
  have c6 := tx.c2
  simp only [fin_nx, fin_rt, fin_ex, ofO_some, ofO_none, asB_bl, asI_int, truR_bl, outS_some, outE_some, outO_some, R.bind_ok, R.bind_ex, R.bind_bad, R.to_ok, R.to_ex, R.to_bad, Out.seq_nx, Out.seq_rt, Out.seq_bk, Out.seq_ct, Out.seq_ex, Out.seq_bad, cond_true, cond_false, gam_gl, gam_ncls, gam_init, gam_kd, List.getElem?_cons_zero, List.getElem?_cons_succ, List.set_cons_zero, List.set_cons_succ, List.cons_append, List.nil_append, k2_ap, gBin_ap, gCmp_ap, gCmpT_ap, gNeg_ap, gCh3_ap, gCh2_ap, gCh_ap, gCh3T_ap, gCh2T_ap, gChT_ap, gAnd2_ap, gAnd_ap, gOr2_ap, gOr_ap, gNot2_ap, gNot_ap, gIte_ap, gIx_ap, gSl2_ap, gSl1_ap, gSl_ap, gRev_ap, gFld_ap, gMk2_ap, gMk_ap, gMt2_ap, gMt_ap, gBf_ap, gBm2_ap, gBm_ap, gIsi_ap, gLc_ap, gStr_ap, gKget_ap, gKin_ap, gCo2_ap, gCo_ap, gOs2_ap, gOs_ap, gRn1_ap, gRn3_ap, gRn2_ap, gRn_ap, gZp_ap, gAndT_ap, gOrT_ap, gNotT_ap, gJ_ap, sNx_ap, sSet_ap, sSetT_ap, sPar2_ap, sPar1_ap, sI3_ap, sI2_ap, sI1_ap, sF2_ap, sF1_ap, sN2_ap, sN1_ap, sA3_ap, sA2_ap, sA1_ap, sR_ap, sIff_ap, sFr_ap, e_var, e_cst, e_glob, e_bin, e_neg, e_cmp, e_chain, e_and, e_or, e_not, e_ite, e_ix, e_sl, e_rev, e_tup, e_lst, e_dnewK, e_dnewT, e_fld, e_call, e_make, e_meth, e_bf, e_bm, e_isi, e_lc, e_fst, e_fmt, e_kget, e_kin, gDk_ap, gDr_ap, gDv_ap, keyR_str, keyR_int, e_disp, d_nil, d_cons, d1_cons, e_nil, e_cons, j_nil, j_cons, o_none, o_some, c_none, c_some, i_seq, i_rng1, i_rng2, i_zp, i_enm, i_keys, t_cmp, t_chain, t_and, t_or, t_not, t_var, t_ix, t_call, t_meth, t_isi, t_kin, t_fld, t_bf, s_nil, s_cons, s_pass, s_doc, s_brk, s_cnt, s_retN, s_expr, s_asg, s_asgL, s_asgT, s_par, s_asgI, s_asgF, s_augN, s_augF, s_ret, s_iff, s_whl, s_for, s_tryN, strR_str, Option.getD_some, Option.getD_none, Option.isSome_some, Option.isSome_none, mVar, gJc_ap, opN, opB, and_self, true_and, and_true, if_true, if_false, Bool.true_or, Bool.not_true, Bool.not_false, eq_self, a5, tyJ, y5, q3]
  obtain ⟨s6, hs6⟩ : ∃ s6, s6 = s5.new (.lst [.str "threads"]) := ⟨_, rfl⟩
  rw [← hs6]
  have g6 : s6.g s5.n = .lst [.str "threads"] := by rw [hs6]; exact new_g
  have g6' : s6.g s3.n = .lst ((p.heads :: ("locks " ++ num p.locks) :: p.codes.map tCode).map .str) := by rw [hs6]; exact new_at lt5 g5
  have n6 : s6.n = s5.n + 1 := by rw [hs6]; rfl
  have f6 : Fr (fun _ => False) s5 s6 := by rw [hs6]; exact Fr.new
  generalize hX : lcLoop _ _ _ _ _ _ _ _ = o
  refine lc_map hX (fun _ _ => rfl) ((p.ts.map tThr).map .str) ?_ ?_ ?_ ?_ ?_
  · show _ < (p.ts.map eThr).length + 1
    simp
  · rw [List.length_map, List.length_map]; exact sz_ge (by omega)
  · intro j hj s' _ _
    rw [List.length_map, List.length_map] at hj
    obtain ⟨t1, t2⟩ := tx.t3 p.ts[j] (List.getElem_mem hj)
    have n1 := num_len t1
    have n2 := num_len t2
    refine ⟨eThr p.ts[j], [some p.enc, some (.tup (p.vars.map eVar)), some (.int p.locks), some (.tup (p.codes.map eCode)), some (.tup (p.ts.map eThr)), some (.ref s2.n), some (.ref s3.n), some (.int p.ts[j].1), d, none, none, none, some (.int p.ts[j].2)], by simp [sItem, hj], rfl, s', ?_, Fr.refl⟩
    have : ((p.ts.map tThr).map D.str)[j]'(by simpa using hj) = .str (tThr p.ts[j]) := by simp
    rw [this]
    simp only [fin_nx, fin_rt, fin_ex, ofO_some, ofO_none, asB_bl, asI_int, truR_bl, outS_some, outE_some, outO_some, R.bind_ok, R.bind_ex, R.bind_bad, R.to_ok, R.to_ex, R.to_bad, Out.seq_nx, Out.seq_rt, Out.seq_bk, Out.seq_ct, Out.seq_ex, Out.seq_bad, cond_true, cond_false, gam_gl, gam_ncls, gam_init, gam_kd, List.getElem?_cons_zero, List.getElem?_cons_succ, List.set_cons_zero, List.set_cons_succ, List.cons_append, List.nil_append, k2_ap, gBin_ap, gCmp_ap, gCmpT_ap, gNeg_ap, gCh3_ap, gCh2_ap, gCh_ap, gCh3T_ap, gCh2T_ap, gChT_ap, gAnd2_ap, gAnd_ap, gOr2_ap, gOr_ap, gNot2_ap, gNot_ap, gIte_ap, gIx_ap, gSl2_ap, gSl1_ap, gSl_ap, gRev_ap, gFld_ap, gMk2_ap, gMk_ap, gMt2_ap, gMt_ap, gBf_ap, gBm2_ap, gBm_ap, gIsi_ap, gLc_ap, gStr_ap, gKget_ap, gKin_ap, gCo2_ap, gCo_ap, gOs2_ap, gOs_ap, gRn1_ap, gRn3_ap, gRn2_ap, gRn_ap, gZp_ap, gAndT_ap, gOrT_ap, gNotT_ap, gJ_ap, sNx_ap, sSet_ap, sSetT_ap, sPar2_ap, sPar1_ap, sI3_ap, sI2_ap, sI1_ap, sF2_ap, sF1_ap, sN2_ap, sN1_ap, sA3_ap, sA2_ap, sA1_ap, sR_ap, sIff_ap, sFr_ap, e_var, e_cst, e_glob, e_bin, e_neg, e_cmp, e_chain, e_and, e_or, e_not, e_ite, e_ix, e_sl, e_rev, e_tup, e_lst, e_dnewK, e_dnewT, e_fld, e_call, e_make, e_meth, e_bf, e_bm, e_isi, e_lc, e_fst, e_fmt, e_kget, e_kin, gDk_ap, gDr_ap, gDv_ap, keyR_str, keyR_int, e_disp, d_nil, d_cons, d1_cons, e_nil, e_cons, j_nil, j_cons, o_none, o_some, c_none, c_some, i_seq, i_rng1, i_rng2, i_zp, i_enm, i_keys, t_cmp, t_chain, t_and, t_or, t_not, t_var, t_ix, t_call, t_meth, t_isi, t_kin, t_fld, t_bf, s_nil, s_cons, s_pass, s_doc, s_brk, s_cnt, s_retN, s_expr, s_asg, s_asgL, s_asgT, s_par, s_asgI, s_asgF, s_augN, s_augF, s_ret, s_iff, s_whl, s_for, s_tryN, strR_str, Option.getD_some, Option.getD_none, Option.isSome_some, Option.isSome_none, mVar, gJc_ap, opN, opB, and_self, true_and, and_true, if_true, if_false, Bool.true_or, Bool.not_true, Bool.not_false, eq_self, fmt_int t1, fmt_int t2, joinR_e, joinR_s, (show (num p.ts[j].1).length ≤ sizeLine from sz_big (by omega)), (show (num p.ts[j].1 ++ ":").length ≤ sizeLine from sz_big (by rw [Str.length_append, l6]; omega)), (show (num p.ts[j].1 ++ ":" ++ num p.ts[j].2).length ≤ sizeLine from sz_big (by rw [Str.length_append, Str.length_append, l6]; omega))]
    rfl
  · intro s' _
    simp [sItem]
  rintro s7 g7 m7 f7 rfl
  have le7 := f7.le
  have g7' : s7.g s5.n = .lst [.str "threads"] := (f7.eq _ (by omega) id).trans g6
  have z7 : [D.str "threads"].length + ((p.ts.map tThr).map D.str).length ≤ sizeLine := sz_ge (by simp; omega)
  obtain ⟨s8, hs8⟩ : ∃ s8, s8 = s7.new (.lst (.str "threads" :: (p.ts.map tThr).map .str)) := ⟨_, rfl⟩
  have f8 : Fr (fun _ => False) s7 s8 := by rw [hs8]; exact Fr.new
  have n8 : s8.n = s7.n + 1 := by rw [hs8]; rfl
  have j8 : mO .join (.str " ") [.ref s7.n] s8 = some (.str p.tails, s8) := join_is (m := 9) (sq_lst (xs := ((("threads" : Str) :: p.ts.map tThr).map .str)) (by rw [hs8]; exact new_g)) (tails_part tx) (by rw [l1]; simp; omega)
  have g8 : s8.g s3.n = .lst ((p.heads :: ("locks " ++ num p.locks) :: p.codes.map tCode).map .str) := (f8.eq _ (by omega) id).trans ((f7.eq _ (by omega) id).trans g6')
  have ap := app_is (x := .str p.tails) g8 (by
    have : ((p.heads :: ("locks " ++ num p.locks) :: p.codes.map tCode).map D.str).length ≤ 99 := by simp; omega
    have := sz_ge (Nat.le_refl 100)
    omega)
  have e9 : (p.heads :: ("locks " ++ num p.locks) :: p.codes.map tCode).map D.str ++ [.str p.tails] = p.parts.map .str := by
    show _ = (p.heads :: ("locks " ++ num p.locks) :: (p.codes.map tCode ++ [p.tails])).map D.str
    simp
  rw [e9] at ap
  have pn := parts_n tx
  have j9 : mO .join (.str "; ") [.ref s3.n] (s8.put s3.n (.lst (p.parts.map .str))) = some (.str p.text, s8.put s3.n (.lst (p.parts.map .str))) := join_is (m := 600) (sq_lst put_g) (parts_part tx) (by rw [l7]; omega)
  simp only [fin_nx, fin_rt, fin_ex, ofO_some, ofO_none, asB_bl, asI_int, truR_bl, outS_some, outE_some, outO_some, R.bind_ok, R.bind_ex, R.bind_bad, R.to_ok, R.to_ex, R.to_bad, Out.seq_nx, Out.seq_rt, Out.seq_bk, Out.seq_ct, Out.seq_ex, Out.seq_bad, cond_true, cond_false, gam_gl, gam_ncls, gam_init, gam_kd, List.getElem?_cons_zero, List.getElem?_cons_succ, List.set_cons_zero, List.set_cons_succ, List.cons_append, List.nil_append, k2_ap, gBin_ap, gCmp_ap, gCmpT_ap, gNeg_ap, gCh3_ap, gCh2_ap, gCh_ap, gCh3T_ap, gCh2T_ap, gChT_ap, gAnd2_ap, gAnd_ap, gOr2_ap, gOr_ap, gNot2_ap, gNot_ap, gIte_ap, gIx_ap, gSl2_ap, gSl1_ap, gSl_ap, gRev_ap, gFld_ap, gMk2_ap, gMk_ap, gMt2_ap, gMt_ap, gBf_ap, gBm2_ap, gBm_ap, gIsi_ap, gLc_ap, gStr_ap, gKget_ap, gKin_ap, gCo2_ap, gCo_ap, gOs2_ap, gOs_ap, gRn1_ap, gRn3_ap, gRn2_ap, gRn_ap, gZp_ap, gAndT_ap, gOrT_ap, gNotT_ap, gJ_ap, sNx_ap, sSet_ap, sSetT_ap, sPar2_ap, sPar1_ap, sI3_ap, sI2_ap, sI1_ap, sF2_ap, sF1_ap, sN2_ap, sN1_ap, sA3_ap, sA2_ap, sA1_ap, sR_ap, sIff_ap, sFr_ap, e_var, e_cst, e_glob, e_bin, e_neg, e_cmp, e_chain, e_and, e_or, e_not, e_ite, e_ix, e_sl, e_rev, e_tup, e_lst, e_dnewK, e_dnewT, e_fld, e_call, e_make, e_meth, e_bf, e_bm, e_isi, e_lc, e_fst, e_fmt, e_kget, e_kin, gDk_ap, gDr_ap, gDv_ap, keyR_str, keyR_int, e_disp, d_nil, d_cons, d1_cons, e_nil, e_cons, j_nil, j_cons, o_none, o_some, c_none, c_some, i_seq, i_rng1, i_rng2, i_zp, i_enm, i_keys, t_cmp, t_chain, t_and, t_or, t_not, t_var, t_ix, t_call, t_meth, t_isi, t_kin, t_fld, t_bf, s_nil, s_cons, s_pass, s_doc, s_brk, s_cnt, s_retN, s_expr, s_asg, s_asgL, s_asgT, s_par, s_asgI, s_asgF, s_augN, s_augF, s_ret, s_iff, s_whl, s_for, s_tryN, strR_str, Option.getD_some, Option.getD_none, Option.isSome_some, Option.isSome_none, mVar, gJc_ap, opN, opB, and_self, true_and, and_true, if_true, if_false, Bool.true_or, Bool.not_true, Bool.not_false, eq_self, lo g7, lo g7', z7, Option.bind_some]
  rw [← hs8]
  simp only [fin_nx, fin_rt, fin_ex, ofO_some, ofO_none, asB_bl, asI_int, truR_bl, outS_some, outE_some, outO_some, R.bind_ok, R.bind_ex, R.bind_bad, R.to_ok, R.to_ex, R.to_bad, Out.seq_nx, Out.seq_rt, Out.seq_bk, Out.seq_ct, Out.seq_ex, Out.seq_bad, cond_true, cond_false, gam_gl, gam_ncls, gam_init, gam_kd, List.getElem?_cons_zero, List.getElem?_cons_succ, List.set_cons_zero, List.set_cons_succ, List.cons_append, List.nil_append, k2_ap, gBin_ap, gCmp_ap, gCmpT_ap, gNeg_ap, gCh3_ap, gCh2_ap, gCh_ap, gCh3T_ap, gCh2T_ap, gChT_ap, gAnd2_ap, gAnd_ap, gOr2_ap, gOr_ap, gNot2_ap, gNot_ap, gIte_ap, gIx_ap, gSl2_ap, gSl1_ap, gSl_ap, gRev_ap, gFld_ap, gMk2_ap, gMk_ap, gMt2_ap, gMt_ap, gBf_ap, gBm2_ap, gBm_ap, gIsi_ap, gLc_ap, gStr_ap, gKget_ap, gKin_ap, gCo2_ap, gCo_ap, gOs2_ap, gOs_ap, gRn1_ap, gRn3_ap, gRn2_ap, gRn_ap, gZp_ap, gAndT_ap, gOrT_ap, gNotT_ap, gJ_ap, sNx_ap, sSet_ap, sSetT_ap, sPar2_ap, sPar1_ap, sI3_ap, sI2_ap, sI1_ap, sF2_ap, sF1_ap, sN2_ap, sN1_ap, sA3_ap, sA2_ap, sA1_ap, sR_ap, sIff_ap, sFr_ap, e_var, e_cst, e_glob, e_bin, e_neg, e_cmp, e_chain, e_and, e_or, e_not, e_ite, e_ix, e_sl, e_rev, e_tup, e_lst, e_dnewK, e_dnewT, e_fld, e_call, e_make, e_meth, e_bf, e_bm, e_isi, e_lc, e_fst, e_fmt, e_kget, e_kin, gDk_ap, gDr_ap, gDv_ap, keyR_str, keyR_int, e_disp, d_nil, d_cons, d1_cons, e_nil, e_cons, j_nil, j_cons, o_none, o_some, c_none, c_some, i_seq, i_rng1, i_rng2, i_zp, i_enm, i_keys, t_cmp, t_chain, t_and, t_or, t_not, t_var, t_ix, t_call, t_meth, t_isi, t_kin, t_fld, t_bf, s_nil, s_cons, s_pass, s_doc, s_brk, s_cnt, s_retN, s_expr, s_asg, s_asgL, s_asgT, s_par, s_asgI, s_asgF, s_augN, s_augF, s_ret, s_iff, s_whl, s_for, s_tryN, strR_str, Option.getD_some, Option.getD_none, Option.isSome_some, Option.isSome_none, mVar, gJc_ap, opN, opB, and_self, true_and, and_true, if_true, if_false, Bool.true_or, Bool.not_true, Bool.not_false, eq_self, j8, ap, tyJ, j9]
  exact ⟨_, rfl, Fr.put_new (((f5.trans f6).trans f7).trans f8) (by omega)⟩
end Lk61
set_option Elab.async false
set_option linter.all false
set_option maxRecDepth 100000
set_option maxHeartbeats 4000000
/-! Pg61: parse_program of a right text -/
namespace Lk61
open PySem L2 Ab
theorem i10 : Is T 10 3 1 (bInt 7 8) := ⟨d10, rfl, rfl, rfl, rfl⟩
theorem i11 : Is T 11 3 1 b11 := ⟨d11, rfl, rfl, rfl, rfl⟩
theorem i12 : Is T 12 1 1 b12 := ⟨d12, rfl, rfl, rfl, rfl⟩
theorem i13 : Is T 13 2 1 b13 := ⟨d13, rfl, rfl, rfl, rfl⟩
theorem i14 : Is T 14 2 1 b14 := ⟨d14, rfl, rfl, rfl, rfl⟩
theorem i15 : Is T 15 10 1 b15 := ⟨d15, rfl, rfl, rfl, rfl⟩
theorem str_ne (x : Str) (s : Sto) : opC .ne (.str x) (.str x) s = some (.bl false, s) := by
  show some (D.bl (!decide (x = x)), s) = _
  rw [decide_eq_true (rfl : x = x)]
  rfl
theorem pint {k fuel : Nat} {i : Int} {s : Sto} (h : i.natAbs < 1000) : (T.gam fuel (k + 1)).fn 10 [.str (num i)] s = .ok (.int i) s := parse_int_is i10 rfl rfl h
theorem parse_ins {k fuel : Nat} {s : Sto} {i : Str × List Int} (it : InsT i) : ∃ s', (T.gam fuel (k + 2)).fn 11 [.str (tIns i)] s = .ok (eI i) s' ∧ Fr (fun _ => False) s s' := by
  rw [i11.call rfl]
  show ∃ s', (svs _ _ b11 [some (.str (tIns i)), none, none] s).fin = _ ∧ _
  have n5 := sIns_n it
  have p4 := it.p1
  have sp : mO .split (.str (tIns i)) [.str " "] s = some (.ref s.n, s.new (.lst ((sIns i).map .str))) := split_is (c := 32) (r := []) rfl (by decide +kernel) (by simp [sIns]) (sIns_free it (.inl rfl)) (by have := tIns_len it; show (tIns i).length ≤ _; omega)
  obtain ⟨s1, hs1⟩ : ∃ s1, s1 = s.new (.lst ((sIns i).map .str)) := ⟨_, rfl⟩
  rw [← hs1] at sp
  have g1 : s1.g s.n = .lst ((sIns i).map .str) := by rw [hs1]; exact new_g
  have n1 : s1.n = s.n + 1 := by rw [hs1]; rfl
  have f1 : Fr (fun _ => False) s s1 := by rw [hs1]; exact Fr.new
  have x0 : ixO (.ref s.n) (.int 0) s1 = some (.str i.1, s1) := ixO_lst g1 (Ab.atI_nat (j := 0) rfl)
  have wk : ((T.kdv.getD 0 []).lookup i.1).isSome = true := (words_ok _ it.w).2.2.2.2.2
  have y1 := lst_n (xs := [.str i.1]) s1 (by show 1 ≤ 100; decide)
  obtain ⟨s2, hs2⟩ : ∃ s2, s2 = s1.new (.lst [.str i.1]) := ⟨_, rfl⟩
  rw [← hs2] at y1
  have g2 : s2.g s.n = .lst ((sIns i).map .str) := by rw [hs2]; exact new_at (by omega) g1
  have n2 : s2.n = s1.n + 1 := by rw [hs2]; rfl
  have sl2 : slO (.ref s.n) (some 1) none s2 = some (.ref s2.n, s2.new (.lst ((i.2.map num).map .str))) := sl_from (j := 1) g2 (by simp [sIns])
  obtain ⟨s3, hs3⟩ : ∃ s3, s3 = s2.new (.lst ((i.2.map num).map .str)) := ⟨_, rfl⟩
  rw [← hs3] at sl2
  have g3 : s3.g s2.n = .lst ((i.2.map num).map .str) := by rw [hs3]; exact new_g
  have h3 : s3.g s1.n = .lst [.str i.1] := by rw [hs3]; exact new_at (by omega) (by rw [hs2]; exact new_g)
  have n3 : s3.n = s2.n + 1 := by rw [hs3]; rfl
  have f3 : Fr (fun _ => False) s s3 := (f1.trans (show Fr (fun _ => False) s1 s2 from by rw [hs2]; exact Fr.new)).trans (show Fr (fun _ => False) s2 s3 from by rw [hs3]; exact Fr.new)
  unfold b11
  simp only [fin_nx, fin_rt, fin_ex, ofO_some, ofO_none, asB_bl, asI_int, truR_bl, outS_some, outE_some, outO_some, R.bind_ok, R.bind_ex, R.bind_bad, R.to_ok, R.to_ex, R.to_bad, Out.seq_nx, Out.seq_rt, Out.seq_bk, Out.seq_ct, Out.seq_ex, Out.seq_bad, cond_true, cond_false, gam_gl, gam_ncls, gam_init, gam_kd, List.getElem?_cons_zero, List.getElem?_cons_succ, List.set_cons_zero, List.set_cons_succ, List.cons_append, List.nil_append, k2_ap, gBin_ap, gCmp_ap, gCmpT_ap, gNeg_ap, gCh3_ap, gCh2_ap, gCh_ap, gCh3T_ap, gCh2T_ap, gChT_ap, gAnd2_ap, gAnd_ap, gOr2_ap, gOr_ap, gNot2_ap, gNot_ap, gIte_ap, gIx_ap, gSl2_ap, gSl1_ap, gSl_ap, gRev_ap, gFld_ap, gMk2_ap, gMk_ap, gMt2_ap, gMt_ap, gBf_ap, gBm2_ap, gBm_ap, gIsi_ap, gLc_ap, gStr_ap, gKget_ap, gKin_ap, gCo2_ap, gCo_ap, gOs2_ap, gOs_ap, gRn1_ap, gRn3_ap, gRn2_ap, gRn_ap, gZp_ap, gAndT_ap, gOrT_ap, gNotT_ap, gJ_ap, sNx_ap, sSet_ap, sSetT_ap, sPar2_ap, sPar1_ap, sI3_ap, sI2_ap, sI1_ap, sF2_ap, sF1_ap, sN2_ap, sN1_ap, sA3_ap, sA2_ap, sA1_ap, sR_ap, sIff_ap, sFr_ap, e_var, e_cst, e_glob, e_bin, e_neg, e_cmp, e_chain, e_and, e_or, e_not, e_ite, e_ix, e_sl, e_rev, e_tup, e_lst, e_dnewK, e_dnewT, e_fld, e_call, e_make, e_meth, e_bf, e_bm, e_isi, e_lc, e_fst, e_fmt, e_kget, e_kin, gDk_ap, gDr_ap, gDv_ap, keyR_str, keyR_int, e_disp, d_nil, d_cons, d1_cons, e_nil, e_cons, j_nil, j_cons, o_none, o_some, c_none, c_some, i_seq, i_rng1, i_rng2, i_zp, i_enm, i_keys, t_cmp, t_chain, t_and, t_or, t_not, t_var, t_ix, t_call, t_meth, t_isi, t_kin, t_fld, t_bf, s_nil, s_cons, s_pass, s_doc, s_brk, s_cnt, s_retN, s_expr, s_asg, s_asgL, s_asgT, s_par, s_asgI, s_asgF, s_augN, s_augF, s_ret, s_iff, s_whl, s_for, s_tryN, strR_str, Option.getD_some, Option.getD_none, Option.isSome_some, Option.isSome_none, mVar, gJc_ap, opN, opB, and_self, true_and, and_true, if_true, if_false, Bool.true_or, Bool.not_true, Bool.not_false, eq_self, tyS, sp, x0, wk, y1, sl2, srcD g3, bne_self_eq_false]
  generalize hX : lcLoop _ _ _ _ _ _ _ _ = o
  refine lc_map hX (fun _ _ => rfl) (i.2.map .int) ?_ ?_ ?_ ?_ ?_
  · rw [manyD g3]
    simp
  · rw [List.length_map]; exact sz_ge (by omega)
  · intro j hj s' _ f'
    rw [List.length_map] at hj
    have g' : s'.g s2.n = .lst ((i.2.map num).map .str) := (f'.eq _ (by omega) id).trans g3
    refine ⟨.str (num i.2[j]), [some (.str (tIns i)), some (.ref s.n), some (.str (num i.2[j]))], by rw [itemD g']; simp [hj], rfl, s', ?_, Fr.refl⟩
    have : (i.2.map D.int)[j]'(by simpa using hj) = .int i.2[j] := by simp
    rw [this]
    simp only [fin_nx, fin_rt, fin_ex, ofO_some, ofO_none, asB_bl, asI_int, truR_bl, outS_some, outE_some, outO_some, R.bind_ok, R.bind_ex, R.bind_bad, R.to_ok, R.to_ex, R.to_bad, Out.seq_nx, Out.seq_rt, Out.seq_bk, Out.seq_ct, Out.seq_ex, Out.seq_bad, cond_true, cond_false, gam_gl, gam_ncls, gam_init, gam_kd, List.getElem?_cons_zero, List.getElem?_cons_succ, List.set_cons_zero, List.set_cons_succ, List.cons_append, List.nil_append, k2_ap, gBin_ap, gCmp_ap, gCmpT_ap, gNeg_ap, gCh3_ap, gCh2_ap, gCh_ap, gCh3T_ap, gCh2T_ap, gChT_ap, gAnd2_ap, gAnd_ap, gOr2_ap, gOr_ap, gNot2_ap, gNot_ap, gIte_ap, gIx_ap, gSl2_ap, gSl1_ap, gSl_ap, gRev_ap, gFld_ap, gMk2_ap, gMk_ap, gMt2_ap, gMt_ap, gBf_ap, gBm2_ap, gBm_ap, gIsi_ap, gLc_ap, gStr_ap, gKget_ap, gKin_ap, gCo2_ap, gCo_ap, gOs2_ap, gOs_ap, gRn1_ap, gRn3_ap, gRn2_ap, gRn_ap, gZp_ap, gAndT_ap, gOrT_ap, gNotT_ap, gJ_ap, sNx_ap, sSet_ap, sSetT_ap, sPar2_ap, sPar1_ap, sI3_ap, sI2_ap, sI1_ap, sF2_ap, sF1_ap, sN2_ap, sN1_ap, sA3_ap, sA2_ap, sA1_ap, sR_ap, sIff_ap, sFr_ap, e_var, e_cst, e_glob, e_bin, e_neg, e_cmp, e_chain, e_and, e_or, e_not, e_ite, e_ix, e_sl, e_rev, e_tup, e_lst, e_dnewK, e_dnewT, e_fld, e_call, e_make, e_meth, e_bf, e_bm, e_isi, e_lc, e_fst, e_fmt, e_kget, e_kin, gDk_ap, gDr_ap, gDv_ap, keyR_str, keyR_int, e_disp, d_nil, d_cons, d1_cons, e_nil, e_cons, j_nil, j_cons, o_none, o_some, c_none, c_some, i_seq, i_rng1, i_rng2, i_zp, i_enm, i_keys, t_cmp, t_chain, t_and, t_or, t_not, t_var, t_ix, t_call, t_meth, t_isi, t_kin, t_fld, t_bf, s_nil, s_cons, s_pass, s_doc, s_brk, s_cnt, s_retN, s_expr, s_asg, s_asgL, s_asgT, s_par, s_asgI, s_asgF, s_augN, s_augF, s_ret, s_iff, s_whl, s_for, s_tryN, strR_str, Option.getD_some, Option.getD_none, Option.isSome_some, Option.isSome_none, mVar, gJc_ap, opN, opB, and_self, true_and, and_true, if_true, if_false, Bool.true_or, Bool.not_true, Bool.not_false, eq_self, pint (it.p2 _ (List.getElem_mem hj))]
  · intro s' f'
    have g' : s'.g s2.n = .lst ((i.2.map num).map .str) := (f'.eq _ (by omega) id).trans g3
    rw [itemD g']
    simp
  rintro s4 g4 m4 f4 rfl
  have h4 : s4.g s1.n = .lst [.str i.1] := (f4.eq _ (by omega) id).trans h3
  have z4 : [D.str i.1].length + (i.2.map D.int).length ≤ sizeLine := sz_ge (by simp; omega)
  simp only [fin_nx, fin_rt, fin_ex, ofO_some, ofO_none, asB_bl, asI_int, truR_bl, outS_some, outE_some, outO_some, R.bind_ok, R.bind_ex, R.bind_bad, R.to_ok, R.to_ex, R.to_bad, Out.seq_nx, Out.seq_rt, Out.seq_bk, Out.seq_ct, Out.seq_ex, Out.seq_bad, cond_true, cond_false, gam_gl, gam_ncls, gam_init, gam_kd, List.getElem?_cons_zero, List.getElem?_cons_succ, List.set_cons_zero, List.set_cons_succ, List.cons_append, List.nil_append, k2_ap, gBin_ap, gCmp_ap, gCmpT_ap, gNeg_ap, gCh3_ap, gCh2_ap, gCh_ap, gCh3T_ap, gCh2T_ap, gChT_ap, gAnd2_ap, gAnd_ap, gOr2_ap, gOr_ap, gNot2_ap, gNot_ap, gIte_ap, gIx_ap, gSl2_ap, gSl1_ap, gSl_ap, gRev_ap, gFld_ap, gMk2_ap, gMk_ap, gMt2_ap, gMt_ap, gBf_ap, gBm2_ap, gBm_ap, gIsi_ap, gLc_ap, gStr_ap, gKget_ap, gKin_ap, gCo2_ap, gCo_ap, gOs2_ap, gOs_ap, gRn1_ap, gRn3_ap, gRn2_ap, gRn_ap, gZp_ap, gAndT_ap, gOrT_ap, gNotT_ap, gJ_ap, sNx_ap, sSet_ap, sSetT_ap, sPar2_ap, sPar1_ap, sI3_ap, sI2_ap, sI1_ap, sF2_ap, sF1_ap, sN2_ap, sN1_ap, sA3_ap, sA2_ap, sA1_ap, sR_ap, sIff_ap, sFr_ap, e_var, e_cst, e_glob, e_bin, e_neg, e_cmp, e_chain, e_and, e_or, e_not, e_ite, e_ix, e_sl, e_rev, e_tup, e_lst, e_dnewK, e_dnewT, e_fld, e_call, e_make, e_meth, e_bf, e_bm, e_isi, e_lc, e_fst, e_fmt, e_kget, e_kin, gDk_ap, gDr_ap, gDv_ap, keyR_str, keyR_int, e_disp, d_nil, d_cons, d1_cons, e_nil, e_cons, j_nil, j_cons, o_none, o_some, c_none, c_some, i_seq, i_rng1, i_rng2, i_zp, i_enm, i_keys, t_cmp, t_chain, t_and, t_or, t_not, t_var, t_ix, t_call, t_meth, t_isi, t_kin, t_fld, t_bf, s_nil, s_cons, s_pass, s_doc, s_brk, s_cnt, s_retN, s_expr, s_asg, s_asgL, s_asgT, s_par, s_asgI, s_asgF, s_augN, s_augF, s_ret, s_iff, s_whl, s_for, s_tryN, strR_str, Option.getD_some, Option.getD_none, Option.isSome_some, Option.isSome_none, mVar, gJc_ap, opN, opB, and_self, true_and, and_true, if_true, if_false, Bool.true_or, Bool.not_true, Bool.not_false, eq_self, lo g4, lo h4, z4, Option.bind_some, tup_lst new_g]
  exact ⟨_, rfl, (f3.trans f4).trans Fr.new⟩
theorem parse_var {k fuel : Nat} {s : Sto} {v : Int × Bool} (h : v.1.natAbs < 1000) : (T.gam fuel (k + 2)).fn 12 [.str (Ab.tVar v)] s = .ok (eVar v) s := by
  rw [i12.call rfl]
  show (svs _ _ b12 [some (.str (Ab.tVar v))] s).fin = _
  have hl := tVar_len h
  have sl : ∀ lo hi, slO (.str (Ab.tVar v)) lo hi s = some (.str (cutS (Ab.tVar v) lo hi), s) := fun lo hi => slS (sz_big (by omega))
  unfold b12
  cases hb : v.2 with
  | true =>
    have e : Ab.tVar v = num v.1 ++ ⟨#[112]⟩ := by unfold Ab.tVar; rw [hb]; rfl
    have c1 : cutS (Ab.tVar v) (some (-1)) none = "p" := by rw [e]; exact cutS_last
    have c2 : cutS (Ab.tVar v) none (some (-1)) = num v.1 := by rw [e]; exact cutS_init
    simp only [fin_nx, fin_rt, fin_ex, ofO_some, ofO_none, asB_bl, asI_int, truR_bl, outS_some, outE_some, outO_some, R.bind_ok, R.bind_ex, R.bind_bad, R.to_ok, R.to_ex, R.to_bad, Out.seq_nx, Out.seq_rt, Out.seq_bk, Out.seq_ct, Out.seq_ex, Out.seq_bad, cond_true, cond_false, gam_gl, gam_ncls, gam_init, gam_kd, List.getElem?_cons_zero, List.getElem?_cons_succ, List.set_cons_zero, List.set_cons_succ, List.cons_append, List.nil_append, k2_ap, gBin_ap, gCmp_ap, gCmpT_ap, gNeg_ap, gCh3_ap, gCh2_ap, gCh_ap, gCh3T_ap, gCh2T_ap, gChT_ap, gAnd2_ap, gAnd_ap, gOr2_ap, gOr_ap, gNot2_ap, gNot_ap, gIte_ap, gIx_ap, gSl2_ap, gSl1_ap, gSl_ap, gRev_ap, gFld_ap, gMk2_ap, gMk_ap, gMt2_ap, gMt_ap, gBf_ap, gBm2_ap, gBm_ap, gIsi_ap, gLc_ap, gStr_ap, gKget_ap, gKin_ap, gCo2_ap, gCo_ap, gOs2_ap, gOs_ap, gRn1_ap, gRn3_ap, gRn2_ap, gRn_ap, gZp_ap, gAndT_ap, gOrT_ap, gNotT_ap, gJ_ap, sNx_ap, sSet_ap, sSetT_ap, sPar2_ap, sPar1_ap, sI3_ap, sI2_ap, sI1_ap, sF2_ap, sF1_ap, sN2_ap, sN1_ap, sA3_ap, sA2_ap, sA1_ap, sR_ap, sIff_ap, sFr_ap, e_var, e_cst, e_glob, e_bin, e_neg, e_cmp, e_chain, e_and, e_or, e_not, e_ite, e_ix, e_sl, e_rev, e_tup, e_lst, e_dnewK, e_dnewT, e_fld, e_call, e_make, e_meth, e_bf, e_bm, e_isi, e_lc, e_fst, e_fmt, e_kget, e_kin, gDk_ap, gDr_ap, gDv_ap, keyR_str, keyR_int, e_disp, d_nil, d_cons, d1_cons, e_nil, e_cons, j_nil, j_cons, o_none, o_some, c_none, c_some, i_seq, i_rng1, i_rng2, i_zp, i_enm, i_keys, t_cmp, t_chain, t_and, t_or, t_not, t_var, t_ix, t_call, t_meth, t_isi, t_kin, t_fld, t_bf, s_nil, s_cons, s_pass, s_doc, s_brk, s_cnt, s_retN, s_expr, s_asg, s_asgL, s_asgT, s_par, s_asgI, s_asgF, s_augN, s_augF, s_ret, s_iff, s_whl, s_for, s_tryN, strR_str, Option.getD_some, Option.getD_none, Option.isSome_some, Option.isSome_none, mVar, gJc_ap, opN, opB, and_self, true_and, and_true, if_true, if_false, Bool.true_or, Bool.not_true, Bool.not_false, eq_self, sl, c1, c2, str_eq, decide_true, pint h, tup2]
    show R.ok (D.tup [.int v.1, .bl true]) s = .ok (.tup [.int v.1, .bl v.2]) s
    rw [hb]
  | false =>
    have e : Ab.tVar v = num v.1 := by unfold Ab.tVar; rw [hb]; rfl
    obtain ⟨a, c, e2, h1, h2⟩ := num_last v.1
    have c1 : cutS (Ab.tVar v) (some (-1)) none ≠ "p" := by
      rw [e, e2, cutS_last]
      intro z
      have : c = 112 := by have := congrArg TL.tl z; injection this
      omega
    simp only [fin_nx, fin_rt, fin_ex, ofO_some, ofO_none, asB_bl, asI_int, truR_bl, outS_some, outE_some, outO_some, R.bind_ok, R.bind_ex, R.bind_bad, R.to_ok, R.to_ex, R.to_bad, Out.seq_nx, Out.seq_rt, Out.seq_bk, Out.seq_ct, Out.seq_ex, Out.seq_bad, cond_true, cond_false, gam_gl, gam_ncls, gam_init, gam_kd, List.getElem?_cons_zero, List.getElem?_cons_succ, List.set_cons_zero, List.set_cons_succ, List.cons_append, List.nil_append, k2_ap, gBin_ap, gCmp_ap, gCmpT_ap, gNeg_ap, gCh3_ap, gCh2_ap, gCh_ap, gCh3T_ap, gCh2T_ap, gChT_ap, gAnd2_ap, gAnd_ap, gOr2_ap, gOr_ap, gNot2_ap, gNot_ap, gIte_ap, gIx_ap, gSl2_ap, gSl1_ap, gSl_ap, gRev_ap, gFld_ap, gMk2_ap, gMk_ap, gMt2_ap, gMt_ap, gBf_ap, gBm2_ap, gBm_ap, gIsi_ap, gLc_ap, gStr_ap, gKget_ap, gKin_ap, gCo2_ap, gCo_ap, gOs2_ap, gOs_ap, gRn1_ap, gRn3_ap, gRn2_ap, gRn_ap, gZp_ap, gAndT_ap, gOrT_ap, gNotT_ap, gJ_ap, sNx_ap, sSet_ap, sSetT_ap, sPar2_ap, sPar1_ap, sI3_ap, sI2_ap, sI1_ap, sF2_ap, sF1_ap, sN2_ap, sN1_ap, sA3_ap, sA2_ap, sA1_ap, sR_ap, sIff_ap, sFr_ap, e_var, e_cst, e_glob, e_bin, e_neg, e_cmp, e_chain, e_and, e_or, e_not, e_ite, e_ix, e_sl, e_rev, e_tup, e_lst, e_dnewK, e_dnewT, e_fld, e_call, e_make, e_meth, e_bf, e_bm, e_isi, e_lc, e_fst, e_fmt, e_kget, e_kin, gDk_ap, gDr_ap, gDv_ap, keyR_str, keyR_int, e_disp, d_nil, d_cons, d1_cons, e_nil, e_cons, j_nil, j_cons, o_none, o_some, c_none, c_some, i_seq, i_rng1, i_rng2, i_zp, i_enm, i_keys, t_cmp, t_chain, t_and, t_or, t_not, t_var, t_ix, t_call, t_meth, t_isi, t_kin, t_fld, t_bf, s_nil, s_cons, s_pass, s_doc, s_brk, s_cnt, s_retN, s_expr, s_asg, s_asgL, s_asgT, s_par, s_asgI, s_asgF, s_augN, s_augF, s_ret, s_iff, s_whl, s_for, s_tryN, strR_str, Option.getD_some, Option.getD_none, Option.isSome_some, Option.isSome_none, mVar, gJc_ap, opN, opB, and_self, true_and, and_true, if_true, if_false, Bool.true_or, Bool.not_true, Bool.not_false, eq_self, sl, str_eq, decide_eq_false c1]
    rw [e]
    simp only [fin_nx, fin_rt, fin_ex, ofO_some, ofO_none, asB_bl, asI_int, truR_bl, outS_some, outE_some, outO_some, R.bind_ok, R.bind_ex, R.bind_bad, R.to_ok, R.to_ex, R.to_bad, Out.seq_nx, Out.seq_rt, Out.seq_bk, Out.seq_ct, Out.seq_ex, Out.seq_bad, cond_true, cond_false, gam_gl, gam_ncls, gam_init, gam_kd, List.getElem?_cons_zero, List.getElem?_cons_succ, List.set_cons_zero, List.set_cons_succ, List.cons_append, List.nil_append, k2_ap, gBin_ap, gCmp_ap, gCmpT_ap, gNeg_ap, gCh3_ap, gCh2_ap, gCh_ap, gCh3T_ap, gCh2T_ap, gChT_ap, gAnd2_ap, gAnd_ap, gOr2_ap, gOr_ap, gNot2_ap, gNot_ap, gIte_ap, gIx_ap, gSl2_ap, gSl1_ap, gSl_ap, gRev_ap, gFld_ap, gMk2_ap, gMk_ap, gMt2_ap, gMt_ap, gBf_ap, gBm2_ap, gBm_ap, gIsi_ap, gLc_ap, gStr_ap, gKget_ap, gKin_ap, gCo2_ap, gCo_ap, gOs2_ap, gOs_ap, gRn1_ap, gRn3_ap, gRn2_ap, gRn_ap, gZp_ap, gAndT_ap, gOrT_ap, gNotT_ap, gJ_ap, sNx_ap, sSet_ap, sSetT_ap, sPar2_ap, sPar1_ap, sI3_ap, sI2_ap, sI1_ap, sF2_ap, sF1_ap, sN2_ap, sN1_ap, sA3_ap, sA2_ap, sA1_ap, sR_ap, sIff_ap, sFr_ap, e_var, e_cst, e_glob, e_bin, e_neg, e_cmp, e_chain, e_and, e_or, e_not, e_ite, e_ix, e_sl, e_rev, e_tup, e_lst, e_dnewK, e_dnewT, e_fld, e_call, e_make, e_meth, e_bf, e_bm, e_isi, e_lc, e_fst, e_fmt, e_kget, e_kin, gDk_ap, gDr_ap, gDv_ap, keyR_str, keyR_int, e_disp, d_nil, d_cons, d1_cons, e_nil, e_cons, j_nil, j_cons, o_none, o_some, c_none, c_some, i_seq, i_rng1, i_rng2, i_zp, i_enm, i_keys, t_cmp, t_chain, t_and, t_or, t_not, t_var, t_ix, t_call, t_meth, t_isi, t_kin, t_fld, t_bf, s_nil, s_cons, s_pass, s_doc, s_brk, s_cnt, s_retN, s_expr, s_asg, s_asgL, s_asgT, s_par, s_asgI, s_asgF, s_augN, s_augF, s_ret, s_iff, s_whl, s_for, s_tryN, strR_str, Option.getD_some, Option.getD_none, Option.isSome_some, Option.isSome_none, mVar, gJc_ap, opN, opB, and_self, true_and, and_true, if_true, if_false, Bool.true_or, Bool.not_true, Bool.not_false, eq_self, pint h, tup2]
    show R.ok (D.tup [.int v.1, .bl false]) s = .ok (.tup [.int v.1, .bl v.2]) s
    rw [hb]
theorem parse_thr {k fuel : Nat} {s : Sto} {t : Int × Int} (h : t.1.natAbs < 1000 ∧ t.2.natAbs < 1000) : ∃ s', (T.gam fuel (k + 2)).fn 13 [.str (tThr t)] s = .ok (eThr t) s' ∧ Fr (fun _ => False) s s' := by
  rw [i13.call rfl]
  show ∃ s', (svs _ _ b13 [some (.str (tThr t)), none] s).fin = _ ∧ _
  have hl := tThr_len h
  have e : tThr t = Str.join ":" [num t.1, num t.2] := rfl
  have sp : mO .split (.str (tThr t)) [.str ":"] s = some (.ref s.n, s.new (.lst ([num t.1, num t.2].map .str))) := by
    rw [e]
    refine split_is (c := 58) (r := []) rfl (by decide +kernel) (by simp) (fun p hp => ?_) (by rw [← e]; omega)
    simp only [List.mem_cons, List.not_mem_nil, or_false] at hp
    rcases hp with rfl | rfl <;> exact num_free (by omega)
  obtain ⟨s1, hs1⟩ : ∃ s1, s1 = s.new (.lst ([num t.1, num t.2].map .str)) := ⟨_, rfl⟩
  rw [← hs1] at sp
  have g1 : s1.g s.n = .lst [.str (num t.1), .str (num t.2)] := by rw [hs1]; exact new_g
  have f1 : Fr (fun _ => False) s s1 := by rw [hs1]; exact Fr.new
  have x0 : ixO (.ref s.n) (.int 0) s1 = some (.str (num t.1), s1) := ixO_lst g1 (Ab.atI_nat (j := 0) rfl)
  have x1 : ixO (.ref s.n) (.int 1) s1 = some (.str (num t.2), s1) := ixO_lst g1 (Ab.atI_nat (j := 1) rfl)
  have l0 : fO .len [.ref s.n] s1 = some (.int 2, s1) := len_lst g1
  have ne : opC .ne (.int 2) (.int 2) s1 = some (.bl false, s1) := rfl
  unfold b13
  simp only [fin_nx, fin_rt, fin_ex, ofO_some, ofO_none, asB_bl, asI_int, truR_bl, outS_some, outE_some, outO_some, R.bind_ok, R.bind_ex, R.bind_bad, R.to_ok, R.to_ex, R.to_bad, Out.seq_nx, Out.seq_rt, Out.seq_bk, Out.seq_ct, Out.seq_ex, Out.seq_bad, cond_true, cond_false, gam_gl, gam_ncls, gam_init, gam_kd, List.getElem?_cons_zero, List.getElem?_cons_succ, List.set_cons_zero, List.set_cons_succ, List.cons_append, List.nil_append, k2_ap, gBin_ap, gCmp_ap, gCmpT_ap, gNeg_ap, gCh3_ap, gCh2_ap, gCh_ap, gCh3T_ap, gCh2T_ap, gChT_ap, gAnd2_ap, gAnd_ap, gOr2_ap, gOr_ap, gNot2_ap, gNot_ap, gIte_ap, gIx_ap, gSl2_ap, gSl1_ap, gSl_ap, gRev_ap, gFld_ap, gMk2_ap, gMk_ap, gMt2_ap, gMt_ap, gBf_ap, gBm2_ap, gBm_ap, gIsi_ap, gLc_ap, gStr_ap, gKget_ap, gKin_ap, gCo2_ap, gCo_ap, gOs2_ap, gOs_ap, gRn1_ap, gRn3_ap, gRn2_ap, gRn_ap, gZp_ap, gAndT_ap, gOrT_ap, gNotT_ap, gJ_ap, sNx_ap, sSet_ap, sSetT_ap, sPar2_ap, sPar1_ap, sI3_ap, sI2_ap, sI1_ap, sF2_ap, sF1_ap, sN2_ap, sN1_ap, sA3_ap, sA2_ap, sA1_ap, sR_ap, sIff_ap, sFr_ap, e_var, e_cst, e_glob, e_bin, e_neg, e_cmp, e_chain, e_and, e_or, e_not, e_ite, e_ix, e_sl, e_rev, e_tup, e_lst, e_dnewK, e_dnewT, e_fld, e_call, e_make, e_meth, e_bf, e_bm, e_isi, e_lc, e_fst, e_fmt, e_kget, e_kin, gDk_ap, gDr_ap, gDv_ap, keyR_str, keyR_int, e_disp, d_nil, d_cons, d1_cons, e_nil, e_cons, j_nil, j_cons, o_none, o_some, c_none, c_some, i_seq, i_rng1, i_rng2, i_zp, i_enm, i_keys, t_cmp, t_chain, t_and, t_or, t_not, t_var, t_ix, t_call, t_meth, t_isi, t_kin, t_fld, t_bf, s_nil, s_cons, s_pass, s_doc, s_brk, s_cnt, s_retN, s_expr, s_asg, s_asgL, s_asgT, s_par, s_asgI, s_asgF, s_augN, s_augF, s_ret, s_iff, s_whl, s_for, s_tryN, strR_str, Option.getD_some, Option.getD_none, Option.isSome_some, Option.isSome_none, mVar, gJc_ap, opN, opB, and_self, true_and, and_true, if_true, if_false, Bool.true_or, Bool.not_true, Bool.not_false, eq_self, tyS, sp, l0, ne, x0, x1, pint h.1, pint h.2, tup2]
  exact ⟨s1, rfl, f1⟩
theorem parse_code {k fuel : Nat} {s : Sto} {c : List (Str × List Int)} (h16 : c.length ≤ 16) (hi : ∀ i ∈ c, InsT i) : ∃ s', (T.gam fuel (k + 3)).fn 14 [.str (tCode c)] s = .ok (eCode c) s' ∧ Fr (fun _ => False) s s' := by
  rw [i14.call rfl]
  show ∃ s', (svs _ _ b14 [some (.str (tCode c)), none] s).fin = _ ∧ _
  have hl := tCode_len h16 hi
  unfold b14
  cases hc : c with
  | nil =>
    have t0 : tupR [] s = .ok (.tup []) s := rfl
    have e : tCode [] = "code" := rfl
    simp only [fin_nx, fin_rt, fin_ex, ofO_some, ofO_none, asB_bl, asI_int, truR_bl, outS_some, outE_some, outO_some, R.bind_ok, R.bind_ex, R.bind_bad, R.to_ok, R.to_ex, R.to_bad, Out.seq_nx, Out.seq_rt, Out.seq_bk, Out.seq_ct, Out.seq_ex, Out.seq_bad, cond_true, cond_false, gam_gl, gam_ncls, gam_init, gam_kd, List.getElem?_cons_zero, List.getElem?_cons_succ, List.set_cons_zero, List.set_cons_succ, List.cons_append, List.nil_append, k2_ap, gBin_ap, gCmp_ap, gCmpT_ap, gNeg_ap, gCh3_ap, gCh2_ap, gCh_ap, gCh3T_ap, gCh2T_ap, gChT_ap, gAnd2_ap, gAnd_ap, gOr2_ap, gOr_ap, gNot2_ap, gNot_ap, gIte_ap, gIx_ap, gSl2_ap, gSl1_ap, gSl_ap, gRev_ap, gFld_ap, gMk2_ap, gMk_ap, gMt2_ap, gMt_ap, gBf_ap, gBm2_ap, gBm_ap, gIsi_ap, gLc_ap, gStr_ap, gKget_ap, gKin_ap, gCo2_ap, gCo_ap, gOs2_ap, gOs_ap, gRn1_ap, gRn3_ap, gRn2_ap, gRn_ap, gZp_ap, gAndT_ap, gOrT_ap, gNotT_ap, gJ_ap, sNx_ap, sSet_ap, sSetT_ap, sPar2_ap, sPar1_ap, sI3_ap, sI2_ap, sI1_ap, sF2_ap, sF1_ap, sN2_ap, sN1_ap, sA3_ap, sA2_ap, sA1_ap, sR_ap, sIff_ap, sFr_ap, e_var, e_cst, e_glob, e_bin, e_neg, e_cmp, e_chain, e_and, e_or, e_not, e_ite, e_ix, e_sl, e_rev, e_tup, e_lst, e_dnewK, e_dnewT, e_fld, e_call, e_make, e_meth, e_bf, e_bm, e_isi, e_lc, e_fst, e_fmt, e_kget, e_kin, gDk_ap, gDr_ap, gDv_ap, keyR_str, keyR_int, e_disp, d_nil, d_cons, d1_cons, e_nil, e_cons, j_nil, j_cons, o_none, o_some, c_none, c_some, i_seq, i_rng1, i_rng2, i_zp, i_enm, i_keys, t_cmp, t_chain, t_and, t_or, t_not, t_var, t_ix, t_call, t_meth, t_isi, t_kin, t_fld, t_bf, s_nil, s_cons, s_pass, s_doc, s_brk, s_cnt, s_retN, s_expr, s_asg, s_asgL, s_asgT, s_par, s_asgI, s_asgF, s_augN, s_augF, s_ret, s_iff, s_whl, s_for, s_tryN, strR_str, Option.getD_some, Option.getD_none, Option.isSome_some, Option.isSome_none, mVar, gJc_ap, opN, opB, and_self, true_and, and_true, if_true, if_false, Bool.true_or, Bool.not_true, Bool.not_false, eq_self, str_eq, e, decide_true, t0]
    exact ⟨s, rfl, Fr.refl⟩
  | cons i0 cr =>
    rw [hc] at hl h16 hi
    obtain ⟨J, hJ⟩ : ∃ J, J = Str.join ", " ((i0 :: cr).map tIns) := ⟨_, rfl⟩
    have jl := codeJ_len h16 hi
    rw [← hJ] at jl
    have e : tCode (i0 :: cr) = "code " ++ J := by rw [hJ]; rfl
    rw [e] at hl ⊢
    have ne : (("code " : Str) ++ J) ≠ "code" := by
      intro z
      have := congrArg Str.length z
      rw [Str.length_append, l11, show ("code" : Str).length = 4 from rfl] at this
      omega
    have sl : ∀ lo hi, slO (.str (("code " : Str) ++ J)) lo hi s = some (.str (cutS (("code " : Str) ++ J) lo hi), s) := fun lo hi => slS (sz_big (by omega))
    have c1 : cutS (("code " : Str) ++ J) none (some 5) = "code " := cutS_app (a := "code ")
    have c2 : cutS (("code " : Str) ++ J) (some 5) none = J := cutS_app' (a := "code ")
    have n1 : opC .ne (.str "code ") (.str "code ") s = some (.bl false, s) := str_ne _ _
    have sp : mO .split (.str J) [.str ", "] s = some (.ref s.n, s.new (.lst (((i0 :: cr).map tIns).map .str))) := by
      rw [hJ]
      refine split_is (c := 44) (r := [32]) rfl (by decide +kernel) (by simp) (fun p hp => ?_) (by rw [← hJ]; omega)
      obtain ⟨x, hx, rfl⟩ := List.mem_map.mp hp
      exact tIns_free (hi x hx) (.inl rfl)
    obtain ⟨s1, hs1⟩ : ∃ s1, s1 = s.new (.lst (((i0 :: cr).map tIns).map .str)) := ⟨_, rfl⟩
    rw [← hs1] at sp
    have g1 : s1.g s.n = .lst (((i0 :: cr).map tIns).map .str) := by rw [hs1]; exact new_g
    have m1 : s1.n = s.n + 1 := by rw [hs1]; rfl
    have f1 : Fr (fun _ => False) s s1 := by rw [hs1]; exact Fr.new
    generalize hcc : i0 :: cr = cc at *
    simp only [fin_nx, fin_rt, fin_ex, ofO_some, ofO_none, asB_bl, asI_int, truR_bl, outS_some, outE_some, outO_some, R.bind_ok, R.bind_ex, R.bind_bad, R.to_ok, R.to_ex, R.to_bad, Out.seq_nx, Out.seq_rt, Out.seq_bk, Out.seq_ct, Out.seq_ex, Out.seq_bad, cond_true, cond_false, gam_gl, gam_ncls, gam_init, gam_kd, List.getElem?_cons_zero, List.getElem?_cons_succ, List.set_cons_zero, List.set_cons_succ, List.cons_append, List.nil_append, k2_ap, gBin_ap, gCmp_ap, gCmpT_ap, gNeg_ap, gCh3_ap, gCh2_ap, gCh_ap, gCh3T_ap, gCh2T_ap, gChT_ap, gAnd2_ap, gAnd_ap, gOr2_ap, gOr_ap, gNot2_ap, gNot_ap, gIte_ap, gIx_ap, gSl2_ap, gSl1_ap, gSl_ap, gRev_ap, gFld_ap, gMk2_ap, gMk_ap, gMt2_ap, gMt_ap, gBf_ap, gBm2_ap, gBm_ap, gIsi_ap, gLc_ap, gStr_ap, gKget_ap, gKin_ap, gCo2_ap, gCo_ap, gOs2_ap, gOs_ap, gRn1_ap, gRn3_ap, gRn2_ap, gRn_ap, gZp_ap, gAndT_ap, gOrT_ap, gNotT_ap, gJ_ap, sNx_ap, sSet_ap, sSetT_ap, sPar2_ap, sPar1_ap, sI3_ap, sI2_ap, sI1_ap, sF2_ap, sF1_ap, sN2_ap, sN1_ap, sA3_ap, sA2_ap, sA1_ap, sR_ap, sIff_ap, sFr_ap, e_var, e_cst, e_glob, e_bin, e_neg, e_cmp, e_chain, e_and, e_or, e_not, e_ite, e_ix, e_sl, e_rev, e_tup, e_lst, e_dnewK, e_dnewT, e_fld, e_call, e_make, e_meth, e_bf, e_bm, e_isi, e_lc, e_fst, e_fmt, e_kget, e_kin, gDk_ap, gDr_ap, gDv_ap, keyR_str, keyR_int, e_disp, d_nil, d_cons, d1_cons, e_nil, e_cons, j_nil, j_cons, o_none, o_some, c_none, c_some, i_seq, i_rng1, i_rng2, i_zp, i_enm, i_keys, t_cmp, t_chain, t_and, t_or, t_not, t_var, t_ix, t_call, t_meth, t_isi, t_kin, t_fld, t_bf, s_nil, s_cons, s_pass, s_doc, s_brk, s_cnt, s_retN, s_expr, s_asg, s_asgL, s_asgT, s_par, s_asgI, s_asgF, s_augN, s_augF, s_ret, s_iff, s_whl, s_for, s_tryN, strR_str, Option.getD_some, Option.getD_none, Option.isSome_some, Option.isSome_none, mVar, gJc_ap, opN, opB, and_self, true_and, and_true, if_true, if_false, Bool.true_or, Bool.not_true, Bool.not_false, eq_self, str_eq, decide_eq_false ne, sl, c1, n1, c2, tyS, sp, srcD g1]
    generalize hX : lcLoop _ _ _ _ _ _ _ _ = o
    refine lc_map hX (fun _ _ => rfl) (cc.map eI) ?_ ?_ ?_ ?_ ?_
    · rw [manyD g1]
      simp
    · rw [List.length_map]; exact sz_ge (by omega)
    · intro j hj s' _ f'
      rw [List.length_map] at hj
      have g' : s'.g s.n = .lst ((cc.map tIns).map .str) := (f'.eq _ (by omega) id).trans g1
      obtain ⟨s2, k1, k2⟩ := parse_ins (k := k) (fuel := fuel) (s := s') (hi _ (List.getElem_mem hj))
      refine ⟨.str (tIns cc[j]), [some (.str ("code " ++ J)), some (.str (tIns cc[j]))], by rw [itemD g']; simp [hj], rfl, s2, ?_, k2⟩
      have : (cc.map eI)[j]'(by simpa using hj) = eI cc[j] := by simp
      rw [this]
      simp only [fin_nx, fin_rt, fin_ex, ofO_some, ofO_none, asB_bl, asI_int, truR_bl, outS_some, outE_some, outO_some, R.bind_ok, R.bind_ex, R.bind_bad, R.to_ok, R.to_ex, R.to_bad, Out.seq_nx, Out.seq_rt, Out.seq_bk, Out.seq_ct, Out.seq_ex, Out.seq_bad, cond_true, cond_false, gam_gl, gam_ncls, gam_init, gam_kd, List.getElem?_cons_zero, List.getElem?_cons_succ, List.set_cons_zero, List.set_cons_succ, List.cons_append, List.nil_append, k2_ap, gBin_ap, gCmp_ap, gCmpT_ap, gNeg_ap, gCh3_ap, gCh2_ap, gCh_ap, gCh3T_ap, gCh2T_ap, gChT_ap, gAnd2_ap, gAnd_ap, gOr2_ap, gOr_ap, gNot2_ap, gNot_ap, gIte_ap, gIx_ap, gSl2_ap, gSl1_ap, gSl_ap, gRev_ap, gFld_ap, gMk2_ap, gMk_ap, gMt2_ap, gMt_ap, gBf_ap, gBm2_ap, gBm_ap, gIsi_ap, gLc_ap, gStr_ap, gKget_ap, gKin_ap, gCo2_ap, gCo_ap, gOs2_ap, gOs_ap, gRn1_ap, gRn3_ap, gRn2_ap, gRn_ap, gZp_ap, gAndT_ap, gOrT_ap, gNotT_ap, gJ_ap, sNx_ap, sSet_ap, sSetT_ap, sPar2_ap, sPar1_ap, sI3_ap, sI2_ap, sI1_ap, sF2_ap, sF1_ap, sN2_ap, sN1_ap, sA3_ap, sA2_ap, sA1_ap, sR_ap, sIff_ap, sFr_ap, e_var, e_cst, e_glob, e_bin, e_neg, e_cmp, e_chain, e_and, e_or, e_not, e_ite, e_ix, e_sl, e_rev, e_tup, e_lst, e_dnewK, e_dnewT, e_fld, e_call, e_make, e_meth, e_bf, e_bm, e_isi, e_lc, e_fst, e_fmt, e_kget, e_kin, gDk_ap, gDr_ap, gDv_ap, keyR_str, keyR_int, e_disp, d_nil, d_cons, d1_cons, e_nil, e_cons, j_nil, j_cons, o_none, o_some, c_none, c_some, i_seq, i_rng1, i_rng2, i_zp, i_enm, i_keys, t_cmp, t_chain, t_and, t_or, t_not, t_var, t_ix, t_call, t_meth, t_isi, t_kin, t_fld, t_bf, s_nil, s_cons, s_pass, s_doc, s_brk, s_cnt, s_retN, s_expr, s_asg, s_asgL, s_asgT, s_par, s_asgI, s_asgF, s_augN, s_augF, s_ret, s_iff, s_whl, s_for, s_tryN, strR_str, Option.getD_some, Option.getD_none, Option.isSome_some, Option.isSome_none, mVar, gJc_ap, opN, opB, and_self, true_and, and_true, if_true, if_false, Bool.true_or, Bool.not_true, Bool.not_false, eq_self, k1]
    · intro s' f'
      have g' : s'.g s.n = .lst ((cc.map tIns).map .str) := (f'.eq _ (by omega) id).trans g1
      rw [itemD g']
      simp
    rintro s4 g4 m4 f4 rfl
    simp only [fin_nx, fin_rt, fin_ex, ofO_some, ofO_none, asB_bl, asI_int, truR_bl, outS_some, outE_some, outO_some, R.bind_ok, R.bind_ex, R.bind_bad, R.to_ok, R.to_ex, R.to_bad, Out.seq_nx, Out.seq_rt, Out.seq_bk, Out.seq_ct, Out.seq_ex, Out.seq_bad, cond_true, cond_false, gam_gl, gam_ncls, gam_init, gam_kd, List.getElem?_cons_zero, List.getElem?_cons_succ, List.set_cons_zero, List.set_cons_succ, List.cons_append, List.nil_append, k2_ap, gBin_ap, gCmp_ap, gCmpT_ap, gNeg_ap, gCh3_ap, gCh2_ap, gCh_ap, gCh3T_ap, gCh2T_ap, gChT_ap, gAnd2_ap, gAnd_ap, gOr2_ap, gOr_ap, gNot2_ap, gNot_ap, gIte_ap, gIx_ap, gSl2_ap, gSl1_ap, gSl_ap, gRev_ap, gFld_ap, gMk2_ap, gMk_ap, gMt2_ap, gMt_ap, gBf_ap, gBm2_ap, gBm_ap, gIsi_ap, gLc_ap, gStr_ap, gKget_ap, gKin_ap, gCo2_ap, gCo_ap, gOs2_ap, gOs_ap, gRn1_ap, gRn3_ap, gRn2_ap, gRn_ap, gZp_ap, gAndT_ap, gOrT_ap, gNotT_ap, gJ_ap, sNx_ap, sSet_ap, sSetT_ap, sPar2_ap, sPar1_ap, sI3_ap, sI2_ap, sI1_ap, sF2_ap, sF1_ap, sN2_ap, sN1_ap, sA3_ap, sA2_ap, sA1_ap, sR_ap, sIff_ap, sFr_ap, e_var, e_cst, e_glob, e_bin, e_neg, e_cmp, e_chain, e_and, e_or, e_not, e_ite, e_ix, e_sl, e_rev, e_tup, e_lst, e_dnewK, e_dnewT, e_fld, e_call, e_make, e_meth, e_bf, e_bm, e_isi, e_lc, e_fst, e_fmt, e_kget, e_kin, gDk_ap, gDr_ap, gDv_ap, keyR_str, keyR_int, e_disp, d_nil, d_cons, d1_cons, e_nil, e_cons, j_nil, j_cons, o_none, o_some, c_none, c_some, i_seq, i_rng1, i_rng2, i_zp, i_enm, i_keys, t_cmp, t_chain, t_and, t_or, t_not, t_var, t_ix, t_call, t_meth, t_isi, t_kin, t_fld, t_bf, s_nil, s_cons, s_pass, s_doc, s_brk, s_cnt, s_retN, s_expr, s_asg, s_asgL, s_asgT, s_par, s_asgI, s_asgF, s_augN, s_augF, s_ret, s_iff, s_whl, s_for, s_tryN, strR_str, Option.getD_some, Option.getD_none, Option.isSome_some, Option.isSome_none, mVar, gJc_ap, opN, opB, and_self, true_and, and_true, if_true, if_false, Bool.true_or, Bool.not_true, Bool.not_false, eq_self, tup_lst g4]
    exact ⟨_, rfl, f1.trans f4⟩
theorem nxn (ρ : Ab.Env) (s : Sto) : (Out.nx ρ s).noex = .nx ρ s := rfl
theorem parse_is {k fuel : Nat} {s : Sto} {p : Pg} (ok : OkPg FM p) : ∃ s', (T.gam fuel (k + 6)).fn 15 [.str p.text] s = .ok p.enc s' ∧ Fr (fun _ => False) s s' := by
  have tx := ok.tx
  rw [i15.call rfl]
  show ∃ s', (svs _ _ b15 [some (.str p.text), none, none, none, none, none, none, none, none, none] s).fin = _ ∧ _
  have tl := text_len tx
  have pn := parts_n tx
  have c1 := ok.c1
  have c6 := tx.c2
  have v4 := tx.v1
  have t4 := tx.t2
  have ty : tyName (.str p.text) s = some "str" := rfl
  have sp : mO .split (.str p.text) [.str "; "] s = some (.ref s.n, s.new (.lst (p.parts.map .str))) := split_is (c := 59) (r := [32]) rfl (by decide +kernel) (by simp [Pg.parts]) (parts_free tx) (by show p.text.length ≤ _; omega)
  obtain ⟨s1, hs1⟩ : ∃ s1, s1 = s.new (.lst (p.parts.map .str)) := ⟨_, rfl⟩
  rw [← hs1] at sp
  have g1 : s1.g s.n = .lst (p.parts.map .str) := by rw [hs1]; exact new_g
  have m1 : s1.n = s.n + 1 := by rw [hs1]; rfl
  have f1 : Fr (fun _ => False) s s1 := by rw [hs1]; exact Fr.new
  have l1' : fO .len [.ref s.n] s1 = some (.int (p.codes.length + 3 : Nat), s1) := by
    rw [len_lst g1, List.length_map]
    have : p.parts.length = p.codes.length + 3 := by simp [Pg.parts]
    rw [this]
  have lt3 : opC .lt (.int (p.codes.length + 3 : Nat)) (.int 3) s1 = some (.bl false, s1) := by
    rw [lt_int, decide_eq_false (by omega)]
  have x0 : ixO (.ref s.n) (.int 0) s1 = some (.str p.heads, s1) := ixO_lst g1 (Ab.atI_nat (j := 0) rfl)
  have sp2 : mO .split (.str p.heads) [.str " "] s1 = some (.ref s1.n, s1.new (.lst ((("vars" : Str) :: p.vars.map Ab.tVar).map .str))) := split_is (c := 32) (r := []) rfl (by decide +kernel) (by simp) heads_sp (by have := heads_len tx; show p.heads.length ≤ _; omega)
  obtain ⟨s2, hs2⟩ : ∃ s2, s2 = s1.new (.lst ((("vars" : Str) :: p.vars.map Ab.tVar).map .str)) := ⟨_, rfl⟩
  rw [← hs2] at sp2
  have m2 : s2.n = s1.n + 1 := by rw [hs2]; rfl
  have f2 : Fr (fun _ => False) s1 s2 := by rw [hs2]; exact Fr.new
  have g2 : s2.g s.n = .lst (p.parts.map .str) := (f2.eq _ (by omega) id).trans g1
  have h2 : s2.g s1.n = .lst ((("vars" : Str) :: p.vars.map Ab.tVar).map .str) := by rw [hs2]; exact new_g
  have x2 : ixO (.ref s.n) (.int (-1)) s2 = some (.str p.tails, s2) := by
    refine ixO_lst g2 ?_
    have : p.parts.map D.str = (p.heads :: ("locks " ++ num p.locks) :: p.codes.map tCode).map D.str ++ [.str p.tails] := by simp [Pg.parts]
    rw [this]
    exact atI_last
  have sp3 : mO .split (.str p.tails) [.str " "] s2 = some (.ref s2.n, s2.new (.lst ((("threads" : Str) :: p.ts.map tThr).map .str))) := split_is (c := 32) (r := []) rfl (by decide +kernel) (by simp) tails_sp (by have := tails_len tx; show p.tails.length ≤ _; omega)
  obtain ⟨s3, hs3⟩ : ∃ s3, s3 = s2.new (.lst ((("threads" : Str) :: p.ts.map tThr).map .str)) := ⟨_, rfl⟩
  rw [← hs3] at sp3
  have m3 : s3.n = s2.n + 1 := by rw [hs3]; rfl
  have f3 : Fr (fun _ => False) s2 s3 := by rw [hs3]; exact Fr.new
  have g3 : s3.g s.n = .lst (p.parts.map .str) := (f3.eq _ (by omega) id).trans g2
  have h3 : s3.g s1.n = .lst ((("vars" : Str) :: p.vars.map Ab.tVar).map .str) := (f3.eq _ (by omega) id).trans h2
  have k3 : s3.g s2.n = .lst ((("threads" : Str) :: p.ts.map tThr).map .str) := by rw [hs3]; exact new_g
  have x3 : ixO (.ref s1.n) (.int 0) s3 = some (.str "vars", s3) := ixO_lst h3 (Ab.atI_nat (j := 0) rfl)
  have x4 : ixO (.ref s2.n) (.int 0) s3 = some (.str "threads", s3) := ixO_lst k3 (Ab.atI_nat (j := 0) rfl)
  have x5 : ∀ s', s'.g s.n = .lst (p.parts.map .str) → ixO (.ref s.n) (.int 1) s' = some (.str ("locks " ++ num p.locks), s') := fun s' h => ixO_lst h (Ab.atI_nat (j := 1) rfl)
  have lkn : (p.locks : Int).natAbs < 1000 := by have := tx.lk; omega
  have lkl := num_len lkn
  have sl : ∀ s' lo hi, slO (.str (("locks " : Str) ++ num p.locks)) lo hi s' = some (.str (cutS (("locks " : Str) ++ num p.locks) lo hi), s') := fun s' lo hi => slS (sz_big (by rw [Str.length_append, l9]; omega))
  have cu1 : cutS (("locks " : Str) ++ num p.locks) none (some 6) = "locks " := cutS_app (a := "locks ")
  have cu2 : cutS (("locks " : Str) ++ num p.locks) (some 6) none = num p.locks := cutS_app' (a := "locks ")
  have sl3 : slO (.ref s1.n) (some 1) none s3 = some (.ref s3.n, s3.new (.lst ((p.vars.map Ab.tVar).map .str))) := sl_from (j := 1) h3 (by simp)
  obtain ⟨s4, hs4⟩ : ∃ s4, s4 = s3.new (.lst ((p.vars.map Ab.tVar).map .str)) := ⟨_, rfl⟩
  rw [← hs4] at sl3
  have m4 : s4.n = s3.n + 1 := by rw [hs4]; rfl
  have f4 : Fr (fun _ => False) s3 s4 := by rw [hs4]; exact Fr.new
  have g4 : s4.g s3.n = .lst ((p.vars.map Ab.tVar).map .str) := by rw [hs4]; exact new_g
  unfold b15
  simp only [fin_nx, fin_rt, fin_ex, ofO_some, ofO_none, asB_bl, asI_int, truR_bl, outS_some, outE_some, outO_some, R.bind_ok, R.bind_ex, R.bind_bad, R.to_ok, R.to_ex, R.to_bad, Out.seq_nx, Out.seq_rt, Out.seq_bk, Out.seq_ct, Out.seq_ex, Out.seq_bad, cond_true, cond_false, gam_gl, gam_ncls, gam_init, gam_kd, List.getElem?_cons_zero, List.getElem?_cons_succ, List.set_cons_zero, List.set_cons_succ, List.cons_append, List.nil_append, k2_ap, gBin_ap, gCmp_ap, gCmpT_ap, gNeg_ap, gCh3_ap, gCh2_ap, gCh_ap, gCh3T_ap, gCh2T_ap, gChT_ap, gAnd2_ap, gAnd_ap, gOr2_ap, gOr_ap, gNot2_ap, gNot_ap, gIte_ap, gIx_ap, gSl2_ap, gSl1_ap, gSl_ap, gRev_ap, gFld_ap, gMk2_ap, gMk_ap, gMt2_ap, gMt_ap, gBf_ap, gBm2_ap, gBm_ap, gIsi_ap, gLc_ap, gStr_ap, gKget_ap, gKin_ap, gCo2_ap, gCo_ap, gOs2_ap, gOs_ap, gRn1_ap, gRn3_ap, gRn2_ap, gRn_ap, gZp_ap, gAndT_ap, gOrT_ap, gNotT_ap, gJ_ap, sNx_ap, sSet_ap, sSetT_ap, sPar2_ap, sPar1_ap, sI3_ap, sI2_ap, sI1_ap, sF2_ap, sF1_ap, sN2_ap, sN1_ap, sA3_ap, sA2_ap, sA1_ap, sR_ap, sIff_ap, sFr_ap, e_var, e_cst, e_glob, e_bin, e_neg, e_cmp, e_chain, e_and, e_or, e_not, e_ite, e_ix, e_sl, e_rev, e_tup, e_lst, e_dnewK, e_dnewT, e_fld, e_call, e_make, e_meth, e_bf, e_bm, e_isi, e_lc, e_fst, e_fmt, e_kget, e_kin, gDk_ap, gDr_ap, gDv_ap, keyR_str, keyR_int, e_disp, d_nil, d_cons, d1_cons, e_nil, e_cons, j_nil, j_cons, o_none, o_some, c_none, c_some, i_seq, i_rng1, i_rng2, i_zp, i_enm, i_keys, t_cmp, t_chain, t_and, t_or, t_not, t_var, t_ix, t_call, t_meth, t_isi, t_kin, t_fld, t_bf, s_nil, s_cons, s_pass, s_doc, s_brk, s_cnt, s_retN, s_expr, s_asg, s_asgL, s_asgT, s_par, s_asgI, s_asgF, s_augN, s_augF, s_ret, s_iff, s_whl, s_for, s_tryN, strR_str, Option.getD_some, Option.getD_none, Option.isSome_some, Option.isSome_none, mVar, gJc_ap, opN, opB, and_self, true_and, and_true, if_true, if_false, Bool.true_or, Bool.not_true, Bool.not_false, eq_self, isi_of (T := "str") ty rfl, tyS, sp, l1', lt3, x0, sp2, x2, sp3, x3, x4, str_ne, x5 s3 g3, sl, cu1, sl3, srcD g4]
  generalize hX : lcLoop _ _ _ _ _ _ _ _ = o
  refine lc_map hX (fun _ _ => rfl) (p.vars.map eVar) ?_ ?_ ?_ ?_ ?_
  · rw [manyD g4]
    simp
  · rw [List.length_map]; exact sz_ge (by omega)
  · intro j hj s' _ f'
    rw [List.length_map] at hj
    have g' : s'.g s3.n = .lst ((p.vars.map Ab.tVar).map .str) := (f'.eq _ (by omega) id).trans g4
    refine ⟨.str (Ab.tVar p.vars[j]), [some (.str p.text), some (.ref s.n), some (.ref s1.n), some (.ref s2.n), none, none, none, none, some (.str (Ab.tVar p.vars[j])), none], by rw [itemD g']; simp [hj], rfl, s', ?_, Fr.refl⟩
    have : (p.vars.map eVar)[j]'(by simpa using hj) = eVar p.vars[j] := by simp
    rw [this]
    simp only [fin_nx, fin_rt, fin_ex, ofO_some, ofO_none, asB_bl, asI_int, truR_bl, outS_some, outE_some, outO_some, R.bind_ok, R.bind_ex, R.bind_bad, R.to_ok, R.to_ex, R.to_bad, Out.seq_nx, Out.seq_rt, Out.seq_bk, Out.seq_ct, Out.seq_ex, Out.seq_bad, cond_true, cond_false, gam_gl, gam_ncls, gam_init, gam_kd, List.getElem?_cons_zero, List.getElem?_cons_succ, List.set_cons_zero, List.set_cons_succ, List.cons_append, List.nil_append, k2_ap, gBin_ap, gCmp_ap, gCmpT_ap, gNeg_ap, gCh3_ap, gCh2_ap, gCh_ap, gCh3T_ap, gCh2T_ap, gChT_ap, gAnd2_ap, gAnd_ap, gOr2_ap, gOr_ap, gNot2_ap, gNot_ap, gIte_ap, gIx_ap, gSl2_ap, gSl1_ap, gSl_ap, gRev_ap, gFld_ap, gMk2_ap, gMk_ap, gMt2_ap, gMt_ap, gBf_ap, gBm2_ap, gBm_ap, gIsi_ap, gLc_ap, gStr_ap, gKget_ap, gKin_ap, gCo2_ap, gCo_ap, gOs2_ap, gOs_ap, gRn1_ap, gRn3_ap, gRn2_ap, gRn_ap, gZp_ap, gAndT_ap, gOrT_ap, gNotT_ap, gJ_ap, sNx_ap, sSet_ap, sSetT_ap, sPar2_ap, sPar1_ap, sI3_ap, sI2_ap, sI1_ap, sF2_ap, sF1_ap, sN2_ap, sN1_ap, sA3_ap, sA2_ap, sA1_ap, sR_ap, sIff_ap, sFr_ap, e_var, e_cst, e_glob, e_bin, e_neg, e_cmp, e_chain, e_and, e_or, e_not, e_ite, e_ix, e_sl, e_rev, e_tup, e_lst, e_dnewK, e_dnewT, e_fld, e_call, e_make, e_meth, e_bf, e_bm, e_isi, e_lc, e_fst, e_fmt, e_kget, e_kin, gDk_ap, gDr_ap, gDv_ap, keyR_str, keyR_int, e_disp, d_nil, d_cons, d1_cons, e_nil, e_cons, j_nil, j_cons, o_none, o_some, c_none, c_some, i_seq, i_rng1, i_rng2, i_zp, i_enm, i_keys, t_cmp, t_chain, t_and, t_or, t_not, t_var, t_ix, t_call, t_meth, t_isi, t_kin, t_fld, t_bf, s_nil, s_cons, s_pass, s_doc, s_brk, s_cnt, s_retN, s_expr, s_asg, s_asgL, s_asgT, s_par, s_asgI, s_asgF, s_augN, s_augF, s_ret, s_iff, s_whl, s_for, s_tryN, strR_str, Option.getD_some, Option.getD_none, Option.isSome_some, Option.isSome_none, mVar, gJc_ap, opN, opB, and_self, true_and, and_true, if_true, if_false, Bool.true_or, Bool.not_true, Bool.not_false, eq_self, parse_var (k := k + 3) (fuel := fuel) (s := s') (tx.v2 _ (List.getElem_mem hj))]
  · intro s' f'
    have g' : s'.g s3.n = .lst ((p.vars.map Ab.tVar).map .str) := (f'.eq _ (by omega) id).trans g4
    rw [itemD g']
    simp
  rintro s5 g5 n5 f5 rfl
  have F35 := f4.trans f5
  have g5' : s5.g s.n = .lst (p.parts.map .str) := (F35.eq _ (by omega) id).trans g3
  have k5 : s5.g s2.n = .lst ((("threads" : Str) :: p.ts.map tThr).map .str) := (F35.eq _ (by omega) id).trans k3
  have le5 := F35.le
  have sl5 : slO (.ref s.n) (some 2) (some (-1)) s5 = some (.ref s5.n, s5.new (.lst ((p.codes.map tCode).map .str))) := by
    simp only [slO, rdOf, g5', Option.bind_some]
    have : cutD (p.parts.map D.str) (some 2) (some (-1)) = (p.codes.map tCode).map .str := by
      have z := cut_mid (xs := p.parts.map D.str) (j := 2)
      have l : (p.parts.map D.str).length = p.codes.length + 3 := by simp [Pg.parts]
      rw [l, show min 2 (p.codes.length + 3) = 2 from by omega] at z
      refine z.trans ?_
      have d : (p.parts.map D.str).drop 2 = (p.codes.map tCode).map D.str ++ [.str p.tails] := by simp [Pg.parts]
      rw [d]
      exact List.take_left' (by simp)
    rw [this]
  obtain ⟨s6, hs6⟩ : ∃ s6, s6 = s5.new (.lst ((p.codes.map tCode).map .str)) := ⟨_, rfl⟩
  rw [← hs6] at sl5
  have m6 : s6.n = s5.n + 1 := by rw [hs6]; rfl
  have f6 : Fr (fun _ => False) s5 s6 := by rw [hs6]; exact Fr.new
  have g6 : s6.g s5.n = .lst ((p.codes.map tCode).map .str) := by rw [hs6]; exact new_g
  simp only [fin_nx, fin_rt, fin_ex, ofO_some, ofO_none, asB_bl, asI_int, truR_bl, outS_some, outE_some, outO_some, R.bind_ok, R.bind_ex, R.bind_bad, R.to_ok, R.to_ex, R.to_bad, Out.seq_nx, Out.seq_rt, Out.seq_bk, Out.seq_ct, Out.seq_ex, Out.seq_bad, cond_true, cond_false, gam_gl, gam_ncls, gam_init, gam_kd, List.getElem?_cons_zero, List.getElem?_cons_succ, List.set_cons_zero, List.set_cons_succ, List.cons_append, List.nil_append, k2_ap, gBin_ap, gCmp_ap, gCmpT_ap, gNeg_ap, gCh3_ap, gCh2_ap, gCh_ap, gCh3T_ap, gCh2T_ap, gChT_ap, gAnd2_ap, gAnd_ap, gOr2_ap, gOr_ap, gNot2_ap, gNot_ap, gIte_ap, gIx_ap, gSl2_ap, gSl1_ap, gSl_ap, gRev_ap, gFld_ap, gMk2_ap, gMk_ap, gMt2_ap, gMt_ap, gBf_ap, gBm2_ap, gBm_ap, gIsi_ap, gLc_ap, gStr_ap, gKget_ap, gKin_ap, gCo2_ap, gCo_ap, gOs2_ap, gOs_ap, gRn1_ap, gRn3_ap, gRn2_ap, gRn_ap, gZp_ap, gAndT_ap, gOrT_ap, gNotT_ap, gJ_ap, sNx_ap, sSet_ap, sSetT_ap, sPar2_ap, sPar1_ap, sI3_ap, sI2_ap, sI1_ap, sF2_ap, sF1_ap, sN2_ap, sN1_ap, sA3_ap, sA2_ap, sA1_ap, sR_ap, sIff_ap, sFr_ap, e_var, e_cst, e_glob, e_bin, e_neg, e_cmp, e_chain, e_and, e_or, e_not, e_ite, e_ix, e_sl, e_rev, e_tup, e_lst, e_dnewK, e_dnewT, e_fld, e_call, e_make, e_meth, e_bf, e_bm, e_isi, e_lc, e_fst, e_fmt, e_kget, e_kin, gDk_ap, gDr_ap, gDv_ap, keyR_str, keyR_int, e_disp, d_nil, d_cons, d1_cons, e_nil, e_cons, j_nil, j_cons, o_none, o_some, c_none, c_some, i_seq, i_rng1, i_rng2, i_zp, i_enm, i_keys, t_cmp, t_chain, t_and, t_or, t_not, t_var, t_ix, t_call, t_meth, t_isi, t_kin, t_fld, t_bf, s_nil, s_cons, s_pass, s_doc, s_brk, s_cnt, s_retN, s_expr, s_asg, s_asgL, s_asgT, s_par, s_asgI, s_asgF, s_augN, s_augF, s_ret, s_iff, s_whl, s_for, s_tryN, strR_str, Option.getD_some, Option.getD_none, Option.isSome_some, Option.isSome_none, mVar, gJc_ap, opN, opB, and_self, true_and, and_true, if_true, if_false, Bool.true_or, Bool.not_true, Bool.not_false, eq_self, tup_lst g5, sl5, srcD g6]
  generalize hX : lcLoop _ _ _ _ _ _ _ _ = o
  refine lc_map hX (fun _ _ => rfl) (p.codes.map eCode) ?_ ?_ ?_ ?_ ?_
  · rw [manyD g6]
    simp
  · rw [List.length_map]; exact sz_ge (by omega)
  · intro j hj s' _ f'
    rw [List.length_map] at hj
    have g' : s'.g s5.n = .lst ((p.codes.map tCode).map .str) := (f'.eq _ (by omega) id).trans g6
    obtain ⟨a, b⟩ := tx.c3 _ (List.getElem_mem hj)
    obtain ⟨s8, q1, q2⟩ := parse_code (k := k + 2) (fuel := fuel) (s := s') a b
    refine ⟨.str (tCode p.codes[j]), [some (.str p.text), some (.ref s.n), some (.ref s1.n), some (.ref s2.n), some (.tup (p.vars.map eVar)), none, none, none, none, some (.str (tCode p.codes[j]))], by rw [itemD g']; simp [hj], rfl, s8, ?_, q2⟩
    have : (p.codes.map eCode)[j]'(by simpa using hj) = eCode p.codes[j] := by simp
    rw [this]
    simp only [fin_nx, fin_rt, fin_ex, ofO_some, ofO_none, asB_bl, asI_int, truR_bl, outS_some, outE_some, outO_some, R.bind_ok, R.bind_ex, R.bind_bad, R.to_ok, R.to_ex, R.to_bad, Out.seq_nx, Out.seq_rt, Out.seq_bk, Out.seq_ct, Out.seq_ex, Out.seq_bad, cond_true, cond_false, gam_gl, gam_ncls, gam_init, gam_kd, List.getElem?_cons_zero, List.getElem?_cons_succ, List.set_cons_zero, List.set_cons_succ, List.cons_append, List.nil_append, k2_ap, gBin_ap, gCmp_ap, gCmpT_ap, gNeg_ap, gCh3_ap, gCh2_ap, gCh_ap, gCh3T_ap, gCh2T_ap, gChT_ap, gAnd2_ap, gAnd_ap, gOr2_ap, gOr_ap, gNot2_ap, gNot_ap, gIte_ap, gIx_ap, gSl2_ap, gSl1_ap, gSl_ap, gRev_ap, gFld_ap, gMk2_ap, gMk_ap, gMt2_ap, gMt_ap, gBf_ap, gBm2_ap, gBm_ap, gIsi_ap, gLc_ap, gStr_ap, gKget_ap, gKin_ap, gCo2_ap, gCo_ap, gOs2_ap, gOs_ap, gRn1_ap, gRn3_ap, gRn2_ap, gRn_ap, gZp_ap, gAndT_ap, gOrT_ap, gNotT_ap, gJ_ap, sNx_ap, sSet_ap, sSetT_ap, sPar2_ap, sPar1_ap, sI3_ap, sI2_ap, sI1_ap, sF2_ap, sF1_ap, sN2_ap, sN1_ap, sA3_ap, sA2_ap, sA1_ap, sR_ap, sIff_ap, sFr_ap, e_var, e_cst, e_glob, e_bin, e_neg, e_cmp, e_chain, e_and, e_or, e_not, e_ite, e_ix, e_sl, e_rev, e_tup, e_lst, e_dnewK, e_dnewT, e_fld, e_call, e_make, e_meth, e_bf, e_bm, e_isi, e_lc, e_fst, e_fmt, e_kget, e_kin, gDk_ap, gDr_ap, gDv_ap, keyR_str, keyR_int, e_disp, d_nil, d_cons, d1_cons, e_nil, e_cons, j_nil, j_cons, o_none, o_some, c_none, c_some, i_seq, i_rng1, i_rng2, i_zp, i_enm, i_keys, t_cmp, t_chain, t_and, t_or, t_not, t_var, t_ix, t_call, t_meth, t_isi, t_kin, t_fld, t_bf, s_nil, s_cons, s_pass, s_doc, s_brk, s_cnt, s_retN, s_expr, s_asg, s_asgL, s_asgT, s_par, s_asgI, s_asgF, s_augN, s_augF, s_ret, s_iff, s_whl, s_for, s_tryN, strR_str, Option.getD_some, Option.getD_none, Option.isSome_some, Option.isSome_none, mVar, gJc_ap, opN, opB, and_self, true_and, and_true, if_true, if_false, Bool.true_or, Bool.not_true, Bool.not_false, eq_self, q1]
  · intro s' f'
    have g' : s'.g s5.n = .lst ((p.codes.map tCode).map .str) := (f'.eq _ (by omega) id).trans g6
    rw [itemD g']
    simp
  rintro s7 g7 n7 f7 rfl
  have F57 := f6.trans f7
  have le7 := F57.le
  have g7' : s7.g s.n = .lst (p.parts.map .str) := (F57.eq _ (by omega) id).trans g5'
  have k7 : s7.g s2.n = .lst ((("threads" : Str) :: p.ts.map tThr).map .str) := (F57.eq _ (by omega) id).trans k5
  have sl7 : slO (.ref s2.n) (some 1) none s7 = some (.ref s7.n, s7.new (.lst ((p.ts.map tThr).map .str))) := sl_from (j := 1) k7 (by simp)
  obtain ⟨s8, hs8⟩ : ∃ s8, s8 = s7.new (.lst ((p.ts.map tThr).map .str)) := ⟨_, rfl⟩
  rw [← hs8] at sl7
  have m8 : s8.n = s7.n + 1 := by rw [hs8]; rfl
  have f8 : Fr (fun _ => False) s7 s8 := by rw [hs8]; exact Fr.new
  have g8 : s8.g s7.n = .lst ((p.ts.map tThr).map .str) := by rw [hs8]; exact new_g
  simp only [fin_nx, fin_rt, fin_ex, ofO_some, ofO_none, asB_bl, asI_int, truR_bl, outS_some, outE_some, outO_some, R.bind_ok, R.bind_ex, R.bind_bad, R.to_ok, R.to_ex, R.to_bad, Out.seq_nx, Out.seq_rt, Out.seq_bk, Out.seq_ct, Out.seq_ex, Out.seq_bad, cond_true, cond_false, gam_gl, gam_ncls, gam_init, gam_kd, List.getElem?_cons_zero, List.getElem?_cons_succ, List.set_cons_zero, List.set_cons_succ, List.cons_append, List.nil_append, k2_ap, gBin_ap, gCmp_ap, gCmpT_ap, gNeg_ap, gCh3_ap, gCh2_ap, gCh_ap, gCh3T_ap, gCh2T_ap, gChT_ap, gAnd2_ap, gAnd_ap, gOr2_ap, gOr_ap, gNot2_ap, gNot_ap, gIte_ap, gIx_ap, gSl2_ap, gSl1_ap, gSl_ap, gRev_ap, gFld_ap, gMk2_ap, gMk_ap, gMt2_ap, gMt_ap, gBf_ap, gBm2_ap, gBm_ap, gIsi_ap, gLc_ap, gStr_ap, gKget_ap, gKin_ap, gCo2_ap, gCo_ap, gOs2_ap, gOs_ap, gRn1_ap, gRn3_ap, gRn2_ap, gRn_ap, gZp_ap, gAndT_ap, gOrT_ap, gNotT_ap, gJ_ap, sNx_ap, sSet_ap, sSetT_ap, sPar2_ap, sPar1_ap, sI3_ap, sI2_ap, sI1_ap, sF2_ap, sF1_ap, sN2_ap, sN1_ap, sA3_ap, sA2_ap, sA1_ap, sR_ap, sIff_ap, sFr_ap, e_var, e_cst, e_glob, e_bin, e_neg, e_cmp, e_chain, e_and, e_or, e_not, e_ite, e_ix, e_sl, e_rev, e_tup, e_lst, e_dnewK, e_dnewT, e_fld, e_call, e_make, e_meth, e_bf, e_bm, e_isi, e_lc, e_fst, e_fmt, e_kget, e_kin, gDk_ap, gDr_ap, gDv_ap, keyR_str, keyR_int, e_disp, d_nil, d_cons, d1_cons, e_nil, e_cons, j_nil, j_cons, o_none, o_some, c_none, c_some, i_seq, i_rng1, i_rng2, i_zp, i_enm, i_keys, t_cmp, t_chain, t_and, t_or, t_not, t_var, t_ix, t_call, t_meth, t_isi, t_kin, t_fld, t_bf, s_nil, s_cons, s_pass, s_doc, s_brk, s_cnt, s_retN, s_expr, s_asg, s_asgL, s_asgT, s_par, s_asgI, s_asgF, s_augN, s_augF, s_ret, s_iff, s_whl, s_for, s_tryN, strR_str, Option.getD_some, Option.getD_none, Option.isSome_some, Option.isSome_none, mVar, gJc_ap, opN, opB, and_self, true_and, and_true, if_true, if_false, Bool.true_or, Bool.not_true, Bool.not_false, eq_self, tup_lst g7, sl7, srcD g8]
  generalize hX : lcLoop _ _ _ _ _ _ _ _ = o
  refine lc_map hX (fun _ _ => rfl) (p.ts.map eThr) ?_ ?_ ?_ ?_ ?_
  · rw [manyD g8]
    simp
  · rw [List.length_map]; exact sz_ge (by omega)
  · intro j hj s' _ f'
    rw [List.length_map] at hj
    have g' : s'.g s7.n = .lst ((p.ts.map tThr).map .str) := (f'.eq _ (by omega) id).trans g8
    obtain ⟨s9, q1, q2⟩ := parse_thr (k := k + 3) (fuel := fuel) (s := s') (tx.t3 _ (List.getElem_mem hj))
    refine ⟨.str (tThr p.ts[j]), [some (.str p.text), some (.ref s.n), some (.ref s1.n), some (.ref s2.n), some (.tup (p.vars.map eVar)), some (.tup (p.codes.map eCode)), none, none, some (.str (tThr p.ts[j])), none], by rw [itemD g']; simp [hj], rfl, s9, ?_, q2⟩
    have : (p.ts.map eThr)[j]'(by simpa using hj) = eThr p.ts[j] := by simp
    rw [this]
    simp only [fin_nx, fin_rt, fin_ex, ofO_some, ofO_none, asB_bl, asI_int, truR_bl, outS_some, outE_some, outO_some, R.bind_ok, R.bind_ex, R.bind_bad, R.to_ok, R.to_ex, R.to_bad, Out.seq_nx, Out.seq_rt, Out.seq_bk, Out.seq_ct, Out.seq_ex, Out.seq_bad, cond_true, cond_false, gam_gl, gam_ncls, gam_init, gam_kd, List.getElem?_cons_zero, List.getElem?_cons_succ, List.set_cons_zero, List.set_cons_succ, List.cons_append, List.nil_append, k2_ap, gBin_ap, gCmp_ap, gCmpT_ap, gNeg_ap, gCh3_ap, gCh2_ap, gCh_ap, gCh3T_ap, gCh2T_ap, gChT_ap, gAnd2_ap, gAnd_ap, gOr2_ap, gOr_ap, gNot2_ap, gNot_ap, gIte_ap, gIx_ap, gSl2_ap, gSl1_ap, gSl_ap, gRev_ap, gFld_ap, gMk2_ap, gMk_ap, gMt2_ap, gMt_ap, gBf_ap, gBm2_ap, gBm_ap, gIsi_ap, gLc_ap, gStr_ap, gKget_ap, gKin_ap, gCo2_ap, gCo_ap, gOs2_ap, gOs_ap, gRn1_ap, gRn3_ap, gRn2_ap, gRn_ap, gZp_ap, gAndT_ap, gOrT_ap, gNotT_ap, gJ_ap, sNx_ap, sSet_ap, sSetT_ap, sPar2_ap, sPar1_ap, sI3_ap, sI2_ap, sI1_ap, sF2_ap, sF1_ap, sN2_ap, sN1_ap, sA3_ap, sA2_ap, sA1_ap, sR_ap, sIff_ap, sFr_ap, e_var, e_cst, e_glob, e_bin, e_neg, e_cmp, e_chain, e_and, e_or, e_not, e_ite, e_ix, e_sl, e_rev, e_tup, e_lst, e_dnewK, e_dnewT, e_fld, e_call, e_make, e_meth, e_bf, e_bm, e_isi, e_lc, e_fst, e_fmt, e_kget, e_kin, gDk_ap, gDr_ap, gDv_ap, keyR_str, keyR_int, e_disp, d_nil, d_cons, d1_cons, e_nil, e_cons, j_nil, j_cons, o_none, o_some, c_none, c_some, i_seq, i_rng1, i_rng2, i_zp, i_enm, i_keys, t_cmp, t_chain, t_and, t_or, t_not, t_var, t_ix, t_call, t_meth, t_isi, t_kin, t_fld, t_bf, s_nil, s_cons, s_pass, s_doc, s_brk, s_cnt, s_retN, s_expr, s_asg, s_asgL, s_asgT, s_par, s_asgI, s_asgF, s_augN, s_augF, s_ret, s_iff, s_whl, s_for, s_tryN, strR_str, Option.getD_some, Option.getD_none, Option.isSome_some, Option.isSome_none, mVar, gJc_ap, opN, opB, and_self, true_and, and_true, if_true, if_false, Bool.true_or, Bool.not_true, Bool.not_false, eq_self, q1]
  · intro s' f'
    have g' : s'.g s7.n = .lst ((p.ts.map tThr).map .str) := (f'.eq _ (by omega) id).trans g8
    rw [itemD g']
    simp
  rintro s9 g9 n9 f9 rfl
  have F79 := f8.trans f9
  have g9' : s9.g s.n = .lst (p.parts.map .str) := (F79.eq _ (by omega) id).trans g7'
  obtain ⟨s10, e10, f10⟩ := prog_is chk (k := k) (fuel := fuel) (s := s9) (p := p) ok
  have e10 : (T.gam fuel (k + 5)).fn 7 [.tup [.tup (p.vars.map eVar), .int p.locks, .tup (p.codes.map eCode), .tup (p.ts.map eThr)]] s9 = .ok .non s10 := e10
  simp only [fin_nx, fin_rt, fin_ex, ofO_some, ofO_none, asB_bl, asI_int, truR_bl, outS_some, outE_some, outO_some, R.bind_ok, R.bind_ex, R.bind_bad, R.to_ok, R.to_ex, R.to_bad, Out.seq_nx, Out.seq_rt, Out.seq_bk, Out.seq_ct, Out.seq_ex, Out.seq_bad, cond_true, cond_false, gam_gl, gam_ncls, gam_init, gam_kd, List.getElem?_cons_zero, List.getElem?_cons_succ, List.set_cons_zero, List.set_cons_succ, List.cons_append, List.nil_append, k2_ap, gBin_ap, gCmp_ap, gCmpT_ap, gNeg_ap, gCh3_ap, gCh2_ap, gCh_ap, gCh3T_ap, gCh2T_ap, gChT_ap, gAnd2_ap, gAnd_ap, gOr2_ap, gOr_ap, gNot2_ap, gNot_ap, gIte_ap, gIx_ap, gSl2_ap, gSl1_ap, gSl_ap, gRev_ap, gFld_ap, gMk2_ap, gMk_ap, gMt2_ap, gMt_ap, gBf_ap, gBm2_ap, gBm_ap, gIsi_ap, gLc_ap, gStr_ap, gKget_ap, gKin_ap, gCo2_ap, gCo_ap, gOs2_ap, gOs_ap, gRn1_ap, gRn3_ap, gRn2_ap, gRn_ap, gZp_ap, gAndT_ap, gOrT_ap, gNotT_ap, gJ_ap, sNx_ap, sSet_ap, sSetT_ap, sPar2_ap, sPar1_ap, sI3_ap, sI2_ap, sI1_ap, sF2_ap, sF1_ap, sN2_ap, sN1_ap, sA3_ap, sA2_ap, sA1_ap, sR_ap, sIff_ap, sFr_ap, e_var, e_cst, e_glob, e_bin, e_neg, e_cmp, e_chain, e_and, e_or, e_not, e_ite, e_ix, e_sl, e_rev, e_tup, e_lst, e_dnewK, e_dnewT, e_fld, e_call, e_make, e_meth, e_bf, e_bm, e_isi, e_lc, e_fst, e_fmt, e_kget, e_kin, gDk_ap, gDr_ap, gDv_ap, keyR_str, keyR_int, e_disp, d_nil, d_cons, d1_cons, e_nil, e_cons, j_nil, j_cons, o_none, o_some, c_none, c_some, i_seq, i_rng1, i_rng2, i_zp, i_enm, i_keys, t_cmp, t_chain, t_and, t_or, t_not, t_var, t_ix, t_call, t_meth, t_isi, t_kin, t_fld, t_bf, s_nil, s_cons, s_pass, s_doc, s_brk, s_cnt, s_retN, s_expr, s_asg, s_asgL, s_asgT, s_par, s_asgI, s_asgF, s_augN, s_augF, s_ret, s_iff, s_whl, s_for, s_tryN, strR_str, Option.getD_some, Option.getD_none, Option.isSome_some, Option.isSome_none, mVar, gJc_ap, opN, opB, and_self, true_and, and_true, if_true, if_false, Bool.true_or, Bool.not_true, Bool.not_false, eq_self, tup_lst g9, x5 s9 g9', sl, cu2, pint (k := k + 4) (fuel := fuel) (s := s9) lkn, tup4, e10, nxn]
  exact ⟨s10, rfl, (((((f1.trans f2).trans f3).trans F35).trans F57).trans F79).trans f10⟩
end Lk61
set_option Elab.async false
set_option linter.all false
set_option maxRecDepth 100000
set_option maxHeartbeats 4000000
/-! Ph61: the law -/
namespace Lk61
open PySem L2 Ab
def Pure : Nat → D → Prop
  | 0, d => match d with
    | .non => True
    | .bl _ => True
    | .int _ => True
    | .str _ => True
    | _ => False
  | n + 1, d => match d with
    | .non => True
    | .bl _ => True
    | .int _ => True
    | .str _ => True
    | .tup xs => xs.length < 1000000 ∧ ∀ x ∈ xs, Pure n x
    | _ => False
theorem same_l {s : Sto} {n : Nat} : ∀ {xs : List D}, (∀ x ∈ xs, SameD s n x x) → SameL s n xs xs
  | [], _ => .nil n
  | x :: xs, h => .cons (h x (List.mem_cons_self ..)) (same_l fun y hy => h y (List.mem_cons_of_mem _ hy))
theorem pure_same {s : Sto} : ∀ (n : Nat) (d : D), Pure n d → SameD s n d d ∧ Short s n d
  | 0, d, h => by
    cases d with
    | non => exact ⟨.non _, .non _⟩
    | bl b => exact ⟨.bl _ b, .bl _ b⟩
    | int i => exact ⟨.int _ i, .int _ i⟩
    | str x => exact ⟨.str _ x, .str _ x⟩
    | _ => exact h.elim
  | n + 1, d, h => by
    cases d with
    | non => exact ⟨.non _, .non _⟩
    | bl b => exact ⟨.bl _ b, .bl _ b⟩
    | int i => exact ⟨.int _ i, .int _ i⟩
    | str x => exact ⟨.str _ x, .str _ x⟩
    | tup xs => exact ⟨.tup rfl rfl (same_l fun x hx => (pure_same n x (h.2 x hx)).1), .tup rfl h.1 fun x hx => (pure_same n x (h.2 x hx)).2⟩
    | _ => exact h.elim
theorem pure_map {α : Type} {f : α → D} {n : Nat} {xs : List α} (hl : xs.length < 1000000) (h : ∀ a ∈ xs, Pure n (f a)) : Pure (n + 1) (.tup (xs.map f)) := by
  refine ⟨by rw [List.length_map]; exact hl, fun x hx => ?_⟩
  obtain ⟨a, ha, rfl⟩ := List.mem_map.mp hx
  exact h a ha
theorem pure_enc {p : Pg} (tx : TxOk p) : Pure 4 p.enc := by
  refine ⟨by show 4 < 1000000; decide, fun x hx => ?_⟩
  simp only [List.mem_cons, List.not_mem_nil, or_false] at hx
  rcases hx with rfl | rfl | rfl | rfl
  · exact pure_map (by have := tx.v1; omega) fun v _ => ⟨by show 2 < 1000000; decide, fun x hx => by
      simp only [List.mem_cons, List.not_mem_nil, or_false] at hx
      rcases hx with rfl | rfl <;> trivial⟩
  · trivial
  · refine pure_map (by have := tx.c2; omega) fun c hc => ?_
    obtain ⟨a, b⟩ := tx.c3 c hc
    refine pure_map (by omega) fun i hi => ⟨by
      have := (b i hi).p1
      show (D.str i.1 :: i.2.map D.int).length < 1000000
      rw [List.length_cons, List.length_map]; omega, fun x hx => ?_⟩
    rcases List.mem_cons.mp hx with rfl | hx
    · trivial
    · obtain ⟨v, _, rfl⟩ := List.mem_map.mp hx
      trivial
  · exact pure_map (by have := tx.t2; omega) fun v _ => ⟨by show 2 < 1000000; decide, fun x hx => by
      simp only [List.mem_cons, List.not_mem_nil, or_false] at hx
      rcases hx with rfl | rfl <;> trivial⟩
theorem i17 : Is T 17 5 1 (bNumbers 16) := ⟨d17, rfl, rfl, rfl, rfl⟩
theorem i19 : Is T 19 2 2 (bEqual 20) := ⟨d19, rfl, rfl, rfl, rfl⟩
theorem i20 : Is T 20 3 2 (bAllEq 19) := ⟨d20, rfl, rfl, rfl, rfl⟩
theorem i28 : Is T 28 5 1 b28 := ⟨d28, rfl, rfl, rfl, rfl⟩
theorem law_is {k fuel : Nat} {s : Sto} {ns : List Int} (hq : 0 < s.n) (hg : s.g 0 = .fro (ns.map .int)) (hn : ns.length ≤ 63) : ∃ s', (T.gam fuel (k + 10)).fn 28 [.ref 0] s = .ok (.bl true) s' := by
  rw [i28.call rfl]
  show ∃ s', (svs _ _ b28 [some (.ref 0), none, none, none, none] s).fin = _
  obtain ⟨s1, e1, nm⟩ := numbers_is i17 iM (k := k + 7) (fuel := fuel) hq hg hn
  obtain ⟨xs, h1, h2⟩ := nm.at_
  have y1 := lst_n (xs := [.ref s.n, .int 0]) s1 (by show 2 ≤ 100; decide)
  have d0 : Dr (s1.new (.lst [.ref s.n, .int 0])) s1.n s.n := by
    have lt := nm.lt
    exact ⟨Nat.lt_succ_self _, Nat.lt_succ_of_lt lt, Nat.ne_of_lt lt, 0, xs, new_g, new_at lt h1⟩
  have r3 : ∀ s, rng1R 3 s = .ok (.rng 0 3) s := fun _ => rfl
  unfold b28
  simp only [fin_nx, fin_rt, fin_ex, ofO_some, ofO_none, asB_bl, asI_int, truR_bl, outS_some, outE_some, outO_some, R.bind_ok, R.bind_ex, R.bind_bad, R.to_ok, R.to_ex, R.to_bad, Out.seq_nx, Out.seq_rt, Out.seq_bk, Out.seq_ct, Out.seq_ex, Out.seq_bad, cond_true, cond_false, gam_gl, gam_ncls, gam_init, gam_kd, List.getElem?_cons_zero, List.getElem?_cons_succ, List.set_cons_zero, List.set_cons_succ, List.cons_append, List.nil_append, k2_ap, gBin_ap, gCmp_ap, gCmpT_ap, gNeg_ap, gCh3_ap, gCh2_ap, gCh_ap, gCh3T_ap, gCh2T_ap, gChT_ap, gAnd2_ap, gAnd_ap, gOr2_ap, gOr_ap, gNot2_ap, gNot_ap, gIte_ap, gIx_ap, gSl2_ap, gSl1_ap, gSl_ap, gRev_ap, gFld_ap, gMk2_ap, gMk_ap, gMt2_ap, gMt_ap, gBf_ap, gBm2_ap, gBm_ap, gIsi_ap, gLc_ap, gStr_ap, gKget_ap, gKin_ap, gCo2_ap, gCo_ap, gOs2_ap, gOs_ap, gRn1_ap, gRn3_ap, gRn2_ap, gRn_ap, gZp_ap, gAndT_ap, gOrT_ap, gNotT_ap, gJ_ap, sNx_ap, sSet_ap, sSetT_ap, sPar2_ap, sPar1_ap, sI3_ap, sI2_ap, sI1_ap, sF2_ap, sF1_ap, sN2_ap, sN1_ap, sA3_ap, sA2_ap, sA1_ap, sR_ap, sIff_ap, sFr_ap, e_var, e_cst, e_glob, e_bin, e_neg, e_cmp, e_chain, e_and, e_or, e_not, e_ite, e_ix, e_sl, e_rev, e_tup, e_lst, e_dnewK, e_dnewT, e_fld, e_call, e_make, e_meth, e_bf, e_bm, e_isi, e_lc, e_fst, e_fmt, e_kget, e_kin, gDk_ap, gDr_ap, gDv_ap, keyR_str, keyR_int, e_disp, d_nil, d_cons, d1_cons, e_nil, e_cons, j_nil, j_cons, o_none, o_some, c_none, c_some, i_seq, i_rng1, i_rng2, i_zp, i_enm, i_keys, t_cmp, t_chain, t_and, t_or, t_not, t_var, t_ix, t_call, t_meth, t_isi, t_kin, t_fld, t_bf, s_nil, s_cons, s_pass, s_doc, s_brk, s_cnt, s_retN, s_expr, s_asg, s_asgL, s_asgT, s_par, s_asgI, s_asgF, s_augN, s_augF, s_ret, s_iff, s_whl, s_for, s_tryN, strR_str, Option.getD_some, Option.getD_none, Option.isSome_some, Option.isSome_none, mVar, gJc_ap, opN, opB, and_self, true_and, and_true, if_true, if_false, Bool.true_or, Bool.not_true, Bool.not_false, eq_self, e1, y1, r3]
  generalize hX : fLoop _ _ _ _ _ _ _ = o
  refine for_c hX 3 (fun j ρ s' => Dr s' s1.n s.n ∧ ∃ a b c, ρ = [some (.ref 0), some (.ref s1.n), a, b, c]) ⟨d0, none, none, none, rfl⟩ (Nat.zero_le _) ?_ ?_ ?_ ?_
  · show 3 - 0 < 4
    decide
  · rintro j ρ s2 hj ⟨d2, a, b, c, rfl⟩
    refine ⟨.int (0 + j), _, by simp [sItem, hj], rfl, ?_⟩
    show ∃ ρ2 s3, (svs _ _ _ [some (.ref 0), some (.ref s1.n), some (.int (0 + j)), b, c] s2 = .nx ρ2 s3 ∨ svs _ _ _ [some (.ref 0), some (.ref s1.n), some (.int (0 + j)), b, c] s2 = .ct ρ2 s3) ∧ _
    obtain ⟨p, s3, q1, ok1, c3, t3, d3, f3⟩ := program (k := k + 3) (fuel := fuel) d2
    obtain ⟨p2, s4, q2, ok2, c5, t4, d4, f4⟩ := more (k := k + 4) (fuel := fuel) d3 ok1 c3 t3
    have tx := ok2.tx
    obtain ⟨s5, q3, f5⟩ := text_is (k := k + 8) (fuel := fuel) (s := s4) tx
    obtain ⟨s6, q4, f6⟩ := format_is (k := k + 3) (fuel := fuel) (s := s5) ok2
    have q5 := equal_is i19 i20 (fuel := fuel) (s := s6) 0 (k + 8) (.str 0 p2.text) (.str 0 p2.text)
    obtain ⟨s7, q6, f7⟩ := parse_is (k := k + 3) (fuel := fuel) (s := s6) ok2
    obtain ⟨sm, sh⟩ := pure_same (s := s7) 4 _ (pure_enc tx)
    have q7 := equal_is i19 i20 (fuel := fuel) (s := s7) 4 k sm sh
    simp only [fin_nx, fin_rt, fin_ex, ofO_some, ofO_none, asB_bl, asI_int, truR_bl, outS_some, outE_some, outO_some, R.bind_ok, R.bind_ex, R.bind_bad, R.to_ok, R.to_ex, R.to_bad, Out.seq_nx, Out.seq_rt, Out.seq_bk, Out.seq_ct, Out.seq_ex, Out.seq_bad, cond_true, cond_false, gam_gl, gam_ncls, gam_init, gam_kd, List.getElem?_cons_zero, List.getElem?_cons_succ, List.set_cons_zero, List.set_cons_succ, List.cons_append, List.nil_append, k2_ap, gBin_ap, gCmp_ap, gCmpT_ap, gNeg_ap, gCh3_ap, gCh2_ap, gCh_ap, gCh3T_ap, gCh2T_ap, gChT_ap, gAnd2_ap, gAnd_ap, gOr2_ap, gOr_ap, gNot2_ap, gNot_ap, gIte_ap, gIx_ap, gSl2_ap, gSl1_ap, gSl_ap, gRev_ap, gFld_ap, gMk2_ap, gMk_ap, gMt2_ap, gMt_ap, gBf_ap, gBm2_ap, gBm_ap, gIsi_ap, gLc_ap, gStr_ap, gKget_ap, gKin_ap, gCo2_ap, gCo_ap, gOs2_ap, gOs_ap, gRn1_ap, gRn3_ap, gRn2_ap, gRn_ap, gZp_ap, gAndT_ap, gOrT_ap, gNotT_ap, gJ_ap, sNx_ap, sSet_ap, sSetT_ap, sPar2_ap, sPar1_ap, sI3_ap, sI2_ap, sI1_ap, sF2_ap, sF1_ap, sN2_ap, sN1_ap, sA3_ap, sA2_ap, sA1_ap, sR_ap, sIff_ap, sFr_ap, e_var, e_cst, e_glob, e_bin, e_neg, e_cmp, e_chain, e_and, e_or, e_not, e_ite, e_ix, e_sl, e_rev, e_tup, e_lst, e_dnewK, e_dnewT, e_fld, e_call, e_make, e_meth, e_bf, e_bm, e_isi, e_lc, e_fst, e_fmt, e_kget, e_kin, gDk_ap, gDr_ap, gDv_ap, keyR_str, keyR_int, e_disp, d_nil, d_cons, d1_cons, e_nil, e_cons, j_nil, j_cons, o_none, o_some, c_none, c_some, i_seq, i_rng1, i_rng2, i_zp, i_enm, i_keys, t_cmp, t_chain, t_and, t_or, t_not, t_var, t_ix, t_call, t_meth, t_isi, t_kin, t_fld, t_bf, s_nil, s_cons, s_pass, s_doc, s_brk, s_cnt, s_retN, s_expr, s_asg, s_asgL, s_asgT, s_par, s_asgI, s_asgF, s_augN, s_augF, s_ret, s_iff, s_whl, s_for, s_tryN, strR_str, Option.getD_some, Option.getD_none, Option.isSome_some, Option.isSome_none, mVar, gJc_ap, opN, opB, and_self, true_and, and_true, if_true, if_false, Bool.true_or, Bool.not_true, Bool.not_false, eq_self, q1, q2, q3, q4, q5, q6, q7]
    exact ⟨_, s7, .inl rfl, ((d4.keep f5 id id).keep f6 id id).keep f7 id id, _, _, _, rfl⟩
  · rintro ρ s1 _
    rfl
  · rintro ρ' s' ⟨d, a, b, c, rfl⟩ rfl
    simp only [fin_nx, fin_rt, fin_ex, ofO_some, ofO_none, asB_bl, asI_int, truR_bl, outS_some, outE_some, outO_some, R.bind_ok, R.bind_ex, R.bind_bad, R.to_ok, R.to_ex, R.to_bad, Out.seq_nx, Out.seq_rt, Out.seq_bk, Out.seq_ct, Out.seq_ex, Out.seq_bad, cond_true, cond_false, gam_gl, gam_ncls, gam_init, gam_kd, List.getElem?_cons_zero, List.getElem?_cons_succ, List.set_cons_zero, List.set_cons_succ, List.cons_append, List.nil_append, k2_ap, gBin_ap, gCmp_ap, gCmpT_ap, gNeg_ap, gCh3_ap, gCh2_ap, gCh_ap, gCh3T_ap, gCh2T_ap, gChT_ap, gAnd2_ap, gAnd_ap, gOr2_ap, gOr_ap, gNot2_ap, gNot_ap, gIte_ap, gIx_ap, gSl2_ap, gSl1_ap, gSl_ap, gRev_ap, gFld_ap, gMk2_ap, gMk_ap, gMt2_ap, gMt_ap, gBf_ap, gBm2_ap, gBm_ap, gIsi_ap, gLc_ap, gStr_ap, gKget_ap, gKin_ap, gCo2_ap, gCo_ap, gOs2_ap, gOs_ap, gRn1_ap, gRn3_ap, gRn2_ap, gRn_ap, gZp_ap, gAndT_ap, gOrT_ap, gNotT_ap, gJ_ap, sNx_ap, sSet_ap, sSetT_ap, sPar2_ap, sPar1_ap, sI3_ap, sI2_ap, sI1_ap, sF2_ap, sF1_ap, sN2_ap, sN1_ap, sA3_ap, sA2_ap, sA1_ap, sR_ap, sIff_ap, sFr_ap, e_var, e_cst, e_glob, e_bin, e_neg, e_cmp, e_chain, e_and, e_or, e_not, e_ite, e_ix, e_sl, e_rev, e_tup, e_lst, e_dnewK, e_dnewT, e_fld, e_call, e_make, e_meth, e_bf, e_bm, e_isi, e_lc, e_fst, e_fmt, e_kget, e_kin, gDk_ap, gDr_ap, gDv_ap, keyR_str, keyR_int, e_disp, d_nil, d_cons, d1_cons, e_nil, e_cons, j_nil, j_cons, o_none, o_some, c_none, c_some, i_seq, i_rng1, i_rng2, i_zp, i_enm, i_keys, t_cmp, t_chain, t_and, t_or, t_not, t_var, t_ix, t_call, t_meth, t_isi, t_kin, t_fld, t_bf, s_nil, s_cons, s_pass, s_doc, s_brk, s_cnt, s_retN, s_expr, s_asg, s_asgL, s_asgT, s_par, s_asgI, s_asgF, s_augN, s_augF, s_ret, s_iff, s_whl, s_for, s_tryN, strR_str, Option.getD_some, Option.getD_none, Option.isSome_some, Option.isSome_none, mVar, gJc_ap, opN, opB, and_self, true_and, and_true, if_true, if_false, Bool.true_or, Bool.not_true, Bool.not_false, eq_self]
    exact ⟨s', rfl⟩
end Lk61
set_option Elab.async false
set_option linter.all false
set_option maxRecDepth 100000
set_option maxHeartbeats 0
namespace Lk61
open PySem PySem.Spec PyProof.Rows L2 Ab
abbrev R : PySem.W.OpenRow := PySem.W.OpenLaw.row PySem.Challenge.rw_everyweave_k61_programs_are_written
abbrev hk : PySem.W.Hook := hookA 5 T
def ob (s : PySem.W.SharedT) : AlA := obsAG 5 T (HandSHeadRun.getT s)
theorem ob_eq (s : PySem.W.SharedT) : ob s = hk.obs s.abs := obsAG_eq (HandSHeadRun.getT_eq s)
def names1 : List Str := ["BadProgram", "BadText", "CODES", "EveryweaveError", "FIGURES", "FORMS", "GREATEST", "INSTRUCTIONS", "LOCKS", "LONGEST", "REGISTERS", "THREADS", "VARIABLES", "_law_all_equal", "_law_code", "_law_control_one", "_law_draw", "_law_equal", "_law_local_one", "_law_mixed", "_law_more", "_law_numbers", "_law_program", "_law_text", "_law_visible"]
def names2 : List Str := ["check_instruction", "check_part", "check_program", "check_threads", "check_variables", "format_instruction", "format_program", "is_below", "is_integer", "is_value", "parse_code", "parse_instruction", "parse_integer", "parse_program", "parse_thread", "parse_variable", "__name__"]
def names : List Str := names1 ++ names2
theorem runF (w : World) : HandSHeadRun.RunEq R (PySem.W.view R.prog [45]) hk ob 3000 names (w.withFollow "special-get-raises" false) := by
  intro os
  kernel_rfl
theorem runT (w : World) : HandSHeadRun.RunEq R (PySem.W.view R.prog [45]) hk ob 3000 names (w.withFollow "special-get-raises" true) := by
  intro os
  kernel_rfl
theorem run (w : World) : HandSHeadRun.RunEq R (PySem.W.view R.prog [45]) hk ob 3000 names w := PySem.W.byRow2 "special-get-raises" (P := fun w => HandSHeadRun.RunEq R (PySem.W.view R.prog [45]) hk ob 3000 names w) runF runT w

theorem plain (ns : List Int) (h : ns.length ≤ 63) (hb : ∀ z ∈ ns, Builtin.Int.intBits z ≤ 1048576) : ∃ fuel s', (T.gam fuel 20).fn 28 [.ref 0] (sto0 ns) = .ok (.bl true) s' := ⟨1000000, law_is (k := 10) (fuel := 1000000) (s := sto0 ns) Nat.zero_lt_one rfl h⟩
end Lk61
open PySem PySem.W PySem.Calls PyProof.Rows in
set_option maxRecDepth 100000 in
set_option maxHeartbeats 0 in
theorem PySem.Challenge.cw_everyweave_k61_programs_are_written_holds : PySem.Challenge.rw_everyweave_k61_programs_are_written.Holds := by
  w_on; o_law
  refine HandSHeadRun.head_any (r := OpenLaw.row PySem.Challenge.rw_everyweave_k61_programs_are_written) (q := view (OpenLaw.row PySem.Challenge.rw_everyweave_k61_programs_are_written).prog [45]) (H := Lk61.hk) (ob := Lk61.ob) (M := 3000) (loose := Lk61.names) (d := HandSHeadRun.topDef (OpenLaw.row PySem.Challenge.rw_everyweave_k61_programs_are_written).prog 45) (kwd := []) Lk61.ob_eq
    (by kernel_rfl) (fun s => by kernel_rfl) Lk61.run (by kernel_rfl) (by kernel_rfl) (by kernel_rfl) (by rfl) (by first | assumption | decide +kernel) (by decide +kernel) ⟨rfl, rfl, rfl, rfl, rfl, by decide +kernel⟩ ?hw ?hc
  case hw => w_witness2
  case hc =>
    exact Ab.law_walk (l := PySem.Challenge.rw_everyweave_k61_programs_are_written) (n := 63) (kk := 20) (lf := 28) (x := "_law_script") (lname := "law") (dl := Lk61.d28) Lk61.T rfl (by decide) (by kernel_rfl) ⟨rfl, by decide, by decide⟩ (by kernel_rfl) Lk61.ok (by decide +kernel) rfl rfl Lk61.plain
#print axioms PySem.Challenge.cw_everyweave_k61_programs_are_written_holds
